import PyProof.Rows.All
import Wide.All
import OpenK.AllK
import Wide.FinOn
import PySem.Challenge.RW_stemflags_k20_texts_that_are_not_of_list
import HandS.ForMost
import HandS.ForExc
import HandS.Zip
import HandS.IsInst
import HandS.Flow
import HandS.Conv
import HandS.Deep
import HandS.TupAny
import HandS.TupLe
import HandS.Style
import HandS.Wide
import HandS.Rev
import KE.GoesMore
import KE.GoesEnum
import HandS.TupSets
import KE.KSortTupG
import KE.SortData
import KE.DataCmp
import PyProof.ListStr
import PyProof.StrBlock2
import HandS.Strs
import HandS.FStrTup
import HandS.ExcInit
import KE.KExcSuper
import HandS.WordsExc
import HandS.ExcOwn
import HandS.ExcField
import HandS.ExcIs
import KE.KExcIs
import KE.KExcLine
import KE.RegKIsAll
set_option Elab.async false
set_option linter.all false
set_option maxRecDepth 100000
set_option maxHeartbeats 4000000
/-! DL0: data (D), a store of what changes (Sto), how they stand in an abstract heap; readings over data. -/
namespace DL
open PySem PySem.Spec PyProof.Rows L2

/-- a text as its codes -/
abbrev Tx := List Nat
/-- a key: an int or a text -/
abbrev KD := Sum Int Tx
def sx (l : Tx) : Str := ⟨l.toArray⟩
def kk : KD → Key
  | .inl i => .inl i
  | .inr l => .inr (sx l)

/-- data: tuples, lists and dicts here are values (never changed again); ref n: the n-th thing of the store -/
inductive D where
  | non | bl (b : Bool) | int (i : Int) | str (l : Tx) | ty (n : String) | glob (a : Addr) | ref (n : Nat)
  | tup (ds : List D) | lst (ds : List D)
  | dK (ks : List KD) (ds : List D) | dT (ks : List (List KD)) (ds : List D)
deriving Inhabited

/-- what may change -/
inductive MO where
  | gone
  | lst (ds : List D)
  | dK (ks : List KD) (ds : List D) | dT (ks : List (List KD)) (ds : List D)
  | ins (C : Addr) (fs : List Str) (ds : List D)
deriving Inhabited

abbrev Env := List (Option D)
abbrev Sto := List MO
/-- where the store's things stand; and what is being made (nothing else knows it) -/
structure Phi where
  L : List (Option Addr)
  R : List Addr
def Phi.has (φ : Phi) (a : Addr) : Prop := some a ∈ φ.L ∨ a ∈ φ.R

/-- a list that is not changed again: of the heap, or of the module -/
def LstAt (K : PySem.W.Frag) (H : Hp) (φ : Phi) (a : Addr) (xs : List V) : Prop :=
  (Rd H a (.lst xs) ∧ ¬ φ.has a) ∨ ∃ (o : Obj) (its : Array Value) (n : Nat), K.lookup a = some o ∧ o.cls = .type "list" ∧ o.dict = none ∧ o.data = .seq its n ∧ its.size ≤ sizeLine ∧ Vals xs its.toList
theorem LstAt.sq {K : PySem.W.Frag} {H : Hp} {φ : Phi} {a : Addr} {xs : List V} (h : LstAt K H φ a xs) : SqL K H a xs := h.imp (fun z => z.1) fun z => z
section
variable (K : PySem.W.Frag) (H : Hp) (φ : Phi)
mutual
def Is : D → V → Prop
  | .non, v => v = .non
  | .bl b, v => v = .bl b
  | .int i, v => v = .int i
  | .str l, v => v = .str (sx l) ∧ ∀ c ∈ l, c < 1114112
  | .ty n, v => v = .ty n
  | .glob a, v => v = .ref a
  | .ref n, v => ∃ o, φ.L[n]? = some o ∧ ∀ a, o = some a → v = .ref a
  | .tup ds, v => ∃ a xs, v = .ref a ∧ SqT K H a xs ∧ IsL ds xs
  | .lst ds, v => ∃ a xs, v = .ref a ∧ LstAt K H φ a xs ∧ IsL ds xs
  | .dK ks ds, v => ∃ a xs, v = .ref a ∧ Rd H a (.dK ((ks.map kk).zip xs)) ∧ ¬ φ.has a ∧ ks.length = xs.length ∧ IsL ds xs
  | .dT ks ds, v => ∃ a xs, v = .ref a ∧ Rd H a (.dT ((ks.map (·.map kk)).zip xs)) ∧ ¬ φ.has a ∧ ks.length = xs.length ∧ IsL ds xs
def IsL : List D → List V → Prop
  | [], xs => xs = []
  | d :: ds, xs => ∃ x r, xs = x :: r ∧ Is d x ∧ IsL ds r
end
end

section
variable {K : PySem.W.Frag} {H H' H2 : Hp} {φ φ' φ2 : Phi}
/-- what is kept: all that is not in the store -/
structure Ext0 (φ : Phi) (H : Hp) (φ' : Phi) (H' : Hp) : Prop where
  keep : ∀ a o, H a = some o → ¬ φ.has a → H' a = some o ∧ ¬ φ'.has a
  ref : ∀ (n : Nat) (o : Option Addr), φ.L[n]? = some o → φ'.L[n]? = some o ∨ φ'.L[n]? = some none
  tups : ∀ a xs, Rd H a (.tup xs) → Rd H' a (.tup xs)
structure Ext (φ : Phi) (H : Hp) (φ' : Phi) (H' : Hp) : Prop extends Ext0 φ H φ' H' where
  res : φ'.R = φ.R
  held : ∀ a ∈ φ.R, ∀ o, H a = some o → H' a = some o
theorem Ext0.trans (a : Ext0 φ H φ' H') (b : Ext0 φ' H' φ2 H2) : Ext0 φ H φ2 H2 where
  keep := fun c o h n => let ⟨h1, n1⟩ := a.keep c o h n; b.keep c o h1 n1
  ref := fun n o h => by
    rcases a.ref n o h with h1 | h1
    · exact b.ref n o h1
    · rcases b.ref n _ h1 with h2 | h2
      · exact .inr h2
      · exact .inr h2
  tups := fun c xs h => b.tups c xs (a.tups c xs h)
theorem Ext.refl : Ext φ H φ H := ⟨⟨fun _ _ h n => ⟨h, n⟩, fun _ _ h => .inl h, fun _ _ h => h⟩, rfl, fun _ _ _ h => h⟩
theorem Ext.trans (a : Ext φ H φ' H') (b : Ext φ' H' φ2 H2) : Ext φ H φ2 H2 := ⟨a.toExt0.trans b.toExt0, b.res.trans a.res, fun c hc o h => b.held c (by rw [a.res]; exact hc) o (a.held c hc o h)⟩
theorem Ext0.rd (e : Ext0 φ H φ' H') {a : Addr} {u : HO} (h : Rd H a u) (n : ¬ φ.has a) : Rd H' a u ∧ ¬ φ'.has a := by
  rcases h with h | ⟨o, h⟩
  · exact ⟨.inl (e.keep a _ h n).1, (e.keep a _ h n).2⟩
  · exact ⟨.inr ⟨o, (e.keep a _ h n).1⟩, (e.keep a _ h n).2⟩
theorem Ext0.sqT (e : Ext0 φ H φ' H') {a : Addr} {xs : List V} (h : SqT K H a xs) : SqT K H' a xs := by
  rcases h with h | h
  · exact .inl (e.tups _ _ h)
  · exact .inr h
/-- a weaker way of keeping, for what is read -/
structure ExtR (φ : Phi) (H : Hp) (φ' : Phi) (H' : Hp) : Prop where
  rd : ∀ a u, Rd H a u → ¬ φ.has a → Rd H' a u ∧ ¬ φ'.has a
  ref : ∀ (n : Nat) (o : Option Addr), φ.L[n]? = some o → φ'.L[n]? = some o ∨ φ'.L[n]? = some none
  tups : ∀ a xs, Rd H a (.tup xs) → Rd H' a (.tup xs)
theorem Ext0.r (e : Ext0 φ H φ' H') : ExtR φ H φ' H' := ⟨fun _ _ h n => e.rd h n, e.ref, e.tups⟩
mutual
theorem Is.extR (e : ExtR φ H φ' H') : ∀ (d : D) (v : V), Is K H φ d v → Is K H' φ' d v
  | .non, _, h => h
  | .bl _, _, h => h
  | .int _, _, h => h
  | .str _, _, h => h
  | .ty _, _, h => h
  | .glob _, _, h => h
  | .ref n, v, h => by
    obtain ⟨o, h1, h2⟩ := h
    rcases e.ref n o h1 with q | q
    · exact ⟨o, q, h2⟩
    · exact ⟨none, q, fun _ z => nomatch z⟩
  | .tup ds, v, h => by
    obtain ⟨a, xs, h1, h2, h3⟩ := h
    refine ⟨a, xs, h1, ?_, IsL.extR e ds xs h3⟩
    rcases h2 with h2 | h2
    · exact .inl (e.tups _ _ h2)
    · exact .inr h2
  | .lst ds, v, h => by
    obtain ⟨a, xs, h1, h2, h4⟩ := h
    exact ⟨a, xs, h1, h2.imp (fun z => e.rd _ _ z.1 z.2) fun z => z, IsL.extR e ds xs h4⟩
  | .dK ks ds, v, h => by
    obtain ⟨a, xs, h1, h2, h3, h5, h4⟩ := h
    exact ⟨a, xs, h1, (e.rd _ _ h2 h3).1, (e.rd _ _ h2 h3).2, h5, IsL.extR e ds xs h4⟩
  | .dT ks ds, v, h => by
    obtain ⟨a, xs, h1, h2, h3, h5, h4⟩ := h
    exact ⟨a, xs, h1, (e.rd _ _ h2 h3).1, (e.rd _ _ h2 h3).2, h5, IsL.extR e ds xs h4⟩
theorem IsL.extR (e : ExtR φ H φ' H') : ∀ (ds : List D) (xs : List V), IsL K H φ ds xs → IsL K H' φ' ds xs
  | [], _, h => h
  | d :: ds, xs, h => by
    obtain ⟨x, r, h1, h2, h3⟩ := h
    exact ⟨x, r, h1, Is.extR e d x h2, IsL.extR e ds r h3⟩
end
theorem Is.ext0 (e : Ext0 φ H φ' H') {d : D} {v : V} (h : Is K H φ d v) : Is K H' φ' d v := Is.extR e.r d v h
theorem IsL.ext0 (e : Ext0 φ H φ' H') {ds : List D} {xs : List V} (h : IsL K H φ ds xs) : IsL K H' φ' ds xs := IsL.extR e.r ds xs h
theorem Is.ext (e : Ext φ H φ' H') {d : D} {v : V} (h : Is K H φ d v) : Is K H' φ' d v := Is.extR e.r d v h
theorem IsL.ext (e : Ext φ H φ' H') {ds : List D} {xs : List V} (h : IsL K H φ ds xs) : IsL K H' φ' ds xs := IsL.extR e.r ds xs h

theorem IsL.length : ∀ {ds : List D} {xs : List V}, IsL K H φ ds xs → ds.length = xs.length
  | [], _, h => by subst h; rfl
  | _ :: ds, _, h => by
    obtain ⟨x, r, rfl, _, h3⟩ := h
    simp [IsL.length h3]
theorem IsL.nil : IsL K H φ [] [] := rfl
theorem IsL.cons {d : D} {x : V} {ds : List D} {xs : List V} (h : Is K H φ d x) (t : IsL K H φ ds xs) : IsL K H φ (d :: ds) (x :: xs) := ⟨x, xs, rfl, h, t⟩
theorem IsL.append : ∀ {ds es : List D} {xs ys : List V}, IsL K H φ ds xs → IsL K H φ es ys → IsL K H φ (ds ++ es) (xs ++ ys)
  | [], _, _, _, h, t => by subst h; exact t
  | _ :: _, _, _, _, h, t => by
    obtain ⟨x, r, rfl, h2, h3⟩ := h
    exact ⟨x, _, rfl, h2, IsL.append h3 t⟩
theorem IsL.get : ∀ {ds : List D} {xs : List V} {i : Nat} {d : D}, IsL K H φ ds xs → ds[i]? = some d → ∃ x, xs[i]? = some x ∧ Is K H φ d x
  | [], _, _, _, _, e => by simp at e
  | _ :: _, _, 0, _, h, e => by
    obtain ⟨x, r, rfl, h2, h3⟩ := h
    simp at e; subst e; exact ⟨x, rfl, h2⟩
  | _ :: _, _, i + 1, _, h, e => by
    obtain ⟨x, r, rfl, h2, h3⟩ := h
    obtain ⟨y, h4, h5⟩ := IsL.get (i := i) h3 (by simpa using e)
    exact ⟨y, by simpa using h4, h5⟩
theorem IsL.set : ∀ {ds : List D} {xs : List V} (i : Nat) {d : D} {x : V}, IsL K H φ ds xs → Is K H φ d x → IsL K H φ (ds.set i d) (xs.set i x)
  | [], _, _, _, _, h, _ => by subst h; rfl
  | _ :: _, _, 0, _, _, h, q => by
    obtain ⟨y, r, rfl, h2, h3⟩ := h
    exact ⟨_, _, rfl, q, h3⟩
  | _ :: _, _, i + 1, _, _, h, q => by
    obtain ⟨y, r, rfl, h2, h3⟩ := h
    exact ⟨_, _, rfl, h2, IsL.set i h3 q⟩
theorem IsL.take : ∀ {ds : List D} {xs : List V} (n : Nat), IsL K H φ ds xs → IsL K H φ (ds.take n) (xs.take n)
  | _, _, 0, _ => rfl
  | [], _, _ + 1, h => by subst h; rfl
  | _ :: _, _, n + 1, h => by
    obtain ⟨x, r, rfl, h2, h3⟩ := h
    exact ⟨x, _, rfl, h2, IsL.take n h3⟩
theorem IsL.drop : ∀ {ds : List D} {xs : List V} (n : Nat), IsL K H φ ds xs → IsL K H φ (ds.drop n) (xs.drop n)
  | _, _, 0, h => h
  | [], _, _ + 1, h => by subst h; rfl
  | _ :: _, _, n + 1, h => by
    obtain ⟨x, r, rfl, h2, h3⟩ := h
    exact IsL.drop n h3
theorem IsL.reverse {ds : List D} {xs : List V} (h : IsL K H φ ds xs) : IsL K H φ ds.reverse xs.reverse := by
  induction ds generalizing xs with
  | nil => subst h; rfl
  | cons d ds ih =>
    obtain ⟨x, r, rfl, h2, h3⟩ := h
    rw [List.reverse_cons, List.reverse_cons]
    exact (ih h3).append (.cons h2 .nil)
theorem IsL.dropLast {ds : List D} {xs : List V} (h : IsL K H φ ds xs) : IsL K H φ ds.dropLast xs.dropLast := by
  rw [List.dropLast_eq_take, List.dropLast_eq_take, h.length]
  exact h.take _

/-- an object of the store -/
def MObj (K : PySem.W.Frag) (H : Hp) (φ : Phi) (a : Addr) : MO → Prop
  | .gone => False
  | .lst ds => ∃ xs, H a = some (.lst xs) ∧ IsL K H φ ds xs
  | .dK ks ds => ∃ xs, H a = some (.dK ((ks.map kk).zip xs)) ∧ ks.length = xs.length ∧ IsL K H φ ds xs
  | .dT ks ds => ∃ xs, H a = some (.dT ((ks.map (·.map kk)).zip xs)) ∧ ks.length = xs.length ∧ IsL K H φ ds xs
  | .ins C fs ds => ∃ dx xs, H a = some (.ins C dx (fs.zip xs)) ∧ fs.length = xs.length ∧ IsL K H φ ds xs
def Phi.add (φ : Phi) (p : Addr) : Phi := ⟨φ.L ++ [some p], φ.R⟩
def Phi.drop (φ : Phi) (n : Nat) : Phi := ⟨φ.L.set n none, φ.R⟩
structure StoOk (K : PySem.W.Frag) (H : Hp) (φ : Phi) (S : Sto) : Prop where
  len : φ.L.length = S.length
  inj : ∀ (i j : Nat) (a : Addr), φ.L[i]? = some (some a) → φ.L[j]? = some (some a) → i = j
  obj : ∀ (i : Nat) (m : MO), S[i]? = some m → (m = .gone ∧ φ.L[i]? = some none) ∨ ∃ a, φ.L[i]? = some (some a) ∧ MObj K H φ a m
  res : ∀ a ∈ φ.R, (∃ o, H a = some o ∧ Mut (some o)) ∧ Option.some a ∉ φ.L
theorem MObj.some {a : Addr} {m : MO} (h : MObj K H φ a m) : ∃ o, H a = some o ∧ Mut (some o) := by
  cases m with
  | gone => exact h.elim
  | lst _ => obtain ⟨xs, e, _⟩ := h; exact ⟨_, e, trivial⟩
  | dK _ _ => obtain ⟨xs, e, _⟩ := h; exact ⟨_, e, trivial⟩
  | dT _ _ => obtain ⟨xs, e, _⟩ := h; exact ⟨_, e, trivial⟩
  | ins _ _ _ => obtain ⟨dx, xs, e, _⟩ := h; exact ⟨_, e, trivial⟩
theorem StoOk.liveL {S : Sto} (ok : StoOk K H φ S) {a : Addr} (h : Option.some a ∈ φ.L) : ∃ (o : HO), H a = Option.some o ∧ Mut (Option.some o) := by
  obtain ⟨i, hi, e⟩ := List.getElem_of_mem h
  have hS : i < S.length := by rw [← ok.len]; exact hi
  have e' : φ.L[i]? = Option.some (Option.some a) := by rw [List.getElem?_eq_getElem hi, e]
  rcases ok.obj i _ (List.getElem?_eq_getElem hS) with ⟨_, q⟩ | ⟨b, q, r⟩
  · rw [e'] at q; cases q
  · rw [e'] at q
    have z : a = b := Option.some.inj (Option.some.inj q)
    subst z
    exact MObj.some r
theorem StoOk.live {S : Sto} (ok : StoOk K H φ S) {a : Addr} (h : φ.has a) : ∃ (o : HO), H a = Option.some o ∧ Mut (Option.some o) := by
  rcases h with h | h
  · exact ok.liveL h
  · exact (ok.res a h).1
theorem StoOk.notIn {S : Sto} (ok : StoOk K H φ S) {p : Addr} (h : H p = none) : ¬ φ.has p := fun z => by
  obtain ⟨o, e, _⟩ := ok.live z
  rw [h] at e; cases e
theorem StoOk.nil : StoOk K H ⟨[], []⟩ [] := ⟨rfl, fun _ _ _ h => by simp at h, fun _ _ h => by simp at h, fun _ h => by simp at h⟩
theorem StoOk.at {S : Sto} (ok : StoOk K H φ S) {i : Nat} {m : MO} (h : S[i]? = some m) (hm : m ≠ .gone) : ∃ a, φ.L[i]? = some (some a) ∧ MObj K H φ a m := by
  rcases ok.obj i m h with ⟨z, _⟩ | q
  · exact absurd z hm
  · exact q
theorem MObj.same {a : Addr} {m : MO} (h : MObj K H φ a m) (e : ExtR φ H φ' H') (k : ∀ o, H a = Option.some o → H' a = Option.some o) : MObj K H' φ' a m := by
  cases m with
  | gone => exact h
  | lst _ => obtain ⟨xs, q, r⟩ := h; exact ⟨xs, k _ q, IsL.extR e _ _ r⟩
  | dK _ _ => obtain ⟨xs, q, l, r⟩ := h; exact ⟨xs, k _ q, l, IsL.extR e _ _ r⟩
  | dT _ _ => obtain ⟨xs, q, l, r⟩ := h; exact ⟨xs, k _ q, l, IsL.extR e _ _ r⟩
  | ins _ _ _ => obtain ⟨dx, xs, q, l, r⟩ := h; exact ⟨dx, xs, k _ q, l, IsL.extR e _ _ r⟩

/-- all that stood stands (something new may have come) -/
theorem Ext.same (s : Same H H') : Ext φ H φ H' := ⟨⟨fun a o h n => ⟨s a o h, n⟩, fun _ _ h => .inl h, fun a xs h => h.elim (fun z => .inl (s _ _ z)) fun ⟨o, z⟩ => .inr ⟨o, s _ _ z⟩⟩, rfl, fun _ _ _ h => s _ _ h⟩
theorem StoOk.same {S : Sto} (ok : StoOk K H φ S) (s : Same H H') : StoOk K H' φ S :=
  ⟨ok.len, ok.inj, fun i m h => (ok.obj i m h).imp (fun z => z) fun ⟨a, e, q⟩ => ⟨a, e, q.same (Ext.same s).r fun o z => s _ _ z⟩, fun a h => ⟨let ⟨o, e, m⟩ := (ok.res a h).1; ⟨o, s _ _ e, m⟩, (ok.res a h).2⟩⟩
theorem same_upd {p : Addr} {o : HO} (h : H p = none) : Same H (upd H p o) := fun b x e => by
  rw [upd_ne (ne_of_none e h)]; exact e
/-- a new thing that will not be changed -/
theorem Ext.fresh {p : Addr} {o : HO} (h : H p = none) : Ext φ H φ (upd H p o) := Ext.same (same_upd h)
theorem StoOk.fresh {S : Sto} (ok : StoOk K H φ S) {p : Addr} {o : HO} (h : H p = none) : StoOk K (upd H p o) φ S := ok.same (same_upd h)
theorem get_snoc {α : Type} {l : List α} {x : α} {i : Nat} {y : α} (h : (l ++ [x])[i]? = some y) : (l[i]? = some y ∧ i < l.length) ∨ (i = l.length ∧ y = x) := by
  by_cases hi : i < l.length
  · rw [List.getElem?_append_left hi] at h; exact .inl ⟨h, hi⟩
  · rw [List.getElem?_append_right (by omega)] at h
    have : i - l.length = 0 := by
      cases q : i - l.length with
      | zero => rfl
      | succ n => rw [q] at h; simp at h
    rw [this] at h
    exact .inr ⟨by omega, (Option.some.inj h).symm⟩
theorem snoc_get {α : Type} {l : List α} {x : α} : (l ++ [x])[l.length]? = some x := by simp
theorem snoc_lt {α : Type} {l : List α} {x y : α} {i : Nat} (h : l[i]? = some y) : (l ++ [x])[i]? = some y := by
  have hi : i < l.length := (List.getElem?_eq_some_iff.mp h).1
  rw [List.getElem?_append_left hi]; exact h
theorem Phi.has_add {p a : Addr} : (φ.add p).has a ↔ φ.has a ∨ a = p := by
  unfold Phi.has Phi.add
  simp only [List.mem_append, List.mem_singleton, Option.some.injEq]
  constructor
  · rintro ((h | h) | h)
    · exact .inl (.inl h)
    · exact .inr h
    · exact .inl (.inr h)
  · rintro ((h | h) | h)
    · exact .inl (.inl h)
    · exact .inr h
    · exact .inl (.inr h)
/-- a new thing of the store -/
theorem Ext.alloc {S : Sto} (ok : StoOk K H φ S) {p : Addr} {o : HO} (h : H p = none) : Ext φ H (φ.add p) (upd H p o) := by
  refine ⟨⟨fun a u e n => ⟨same_upd h a u e, fun z => ?_⟩, fun n o e => .inl (snoc_lt e), (Ext.fresh (φ := φ) h).tups⟩, rfl, fun a _ u e => same_upd h a u e⟩
  rcases Phi.has_add.mp z with z | z
  · exact n z
  · subst z
    rw [h] at e; cases e
theorem StoOk.alloc {S : Sto} (ok : StoOk K H φ S) {p : Addr} {o : HO} {m : MO} (h : H p = none) (hm : MObj K (upd H p o) (φ.add p) p m) : StoOk K (upd H p o) (φ.add p) (S ++ [m]) := by
  refine ⟨by simp [ok.len, Phi.add], fun i j a h1 h2 => ?_, fun i m' h1 => ?_, fun a ha => ?_⟩
  · rcases get_snoc h1 with ⟨h1, _⟩ | ⟨h1, e1⟩
    · rcases get_snoc h2 with ⟨h2, _⟩ | ⟨h2, e2⟩
      · exact ok.inj i j a h1 h2
      · exact absurd (.inl (by rw [← Option.some.inj e2]; exact List.mem_of_getElem? h1)) (ok.notIn h)
    · rcases get_snoc h2 with ⟨h2, _⟩ | ⟨h2, e2⟩
      · exact absurd (.inl (by rw [← Option.some.inj e1]; exact List.mem_of_getElem? h2)) (ok.notIn h)
      · omega
  · rcases get_snoc h1 with ⟨h1, _⟩ | ⟨ei, e1⟩
    · rcases ok.obj i m' h1 with ⟨q, r⟩ | ⟨a, q, r⟩
      · exact .inl ⟨q, snoc_lt r⟩
      · exact .inr ⟨a, snoc_lt q, r.same (Ext.alloc ok h).r fun o z => same_upd h _ _ z⟩
    · subst e1
      refine .inr ⟨p, ?_, hm⟩
      rw [ei, ← ok.len]
      exact snoc_get
  · obtain ⟨⟨u, e, mu⟩, n⟩ := ok.res a ha
    refine ⟨⟨u, same_upd h _ _ e, mu⟩, fun z => ?_⟩
    rcases List.mem_append.mp z with z | z
    · exact n z
    · have : a = p := by simpa using z
      subst this
      rw [h] at e; cases e
theorem upd_keep (H : Hp) {a b : Addr} {o u : HO} (n : b ≠ a) (h : H b = some u) : upd H a o b = some u := by rw [upd_ne n]; exact h
/-- a thing that others don't know, or of the store, is changed -/
theorem Ext0.putH {S : Sto} (ok : StoOk K H φ S) {a : Addr} {o : HO} (hin : φ.has a) : Ext0 φ H φ (upd H a o) := by
  obtain ⟨u, e, mu⟩ := ok.live hin
  refine ⟨fun b w q nb => ⟨upd_keep H (fun z => nb (by rw [z]; exact hin)) q, nb⟩, fun _ _ q => .inl q, fun b xs q => ?_⟩
  have nb : b ≠ a := fun z => by
    subst z
    rcases q with q | ⟨ob, q⟩
    · rw [e] at q; cases q; exact mu
    · rw [e] at q; cases q; exact mu
  rcases q with q | ⟨ob, q⟩
  · exact .inl (upd_keep H nb q)
  · exact .inr ⟨ob, upd_keep H nb q⟩
theorem Ext.put {S : Sto} (ok : StoOk K H φ S) {n : Nat} {a : Addr} {o : HO} (h : φ.L[n]? = some (some a)) : Ext φ H φ (upd H a o) :=
  ⟨Ext0.putH ok (.inl (List.mem_of_getElem? h)), rfl, fun b hb u e => upd_keep H (fun z => (ok.res b hb).2 (by rw [z]; exact List.mem_of_getElem? h)) e⟩
theorem StoOk.put {S : Sto} (ok : StoOk K H φ S) {n : Nat} {a : Addr} {o : HO} {m : MO} (h : φ.L[n]? = some (some a)) (hm : MObj K (upd H a o) φ a m) : StoOk K (upd H a o) φ (S.set n m) := by
  refine ⟨by simp [ok.len], ok.inj, fun i m' h1 => ?_, fun b hb => ?_⟩
  · by_cases hi : i = n
    · subst hi
      have hl : i < S.length := by rw [← ok.len]; exact (List.getElem?_eq_some_iff.mp h).1
      rw [List.getElem?_set_self hl] at h1
      cases h1
      exact .inr ⟨a, h, hm⟩
    · rw [List.getElem?_set_ne (Ne.symm hi)] at h1
      rcases ok.obj i m' h1 with q | ⟨b, q, r⟩
      · exact .inl q
      · refine .inr ⟨b, q, r.same (Ext.put ok h).r fun u z => ?_⟩
        exact upd_keep H (fun z => hi (ok.inj i n a (by rw [← z]; exact q) h)) z
  · obtain ⟨⟨u, e, mu⟩, n'⟩ := ok.res b hb
    exact ⟨⟨u, upd_keep H (fun z => n' (by rw [z]; exact List.mem_of_getElem? h)) e, mu⟩, n'⟩
/-- what is being made is changed -/
theorem StoOk.putR {S : Sto} (ok : StoOk K H φ S) {a : Addr} {o : HO} (h : a ∈ φ.R) (mu : Mut (some o)) : StoOk K (upd H a o) φ S := by
  refine ⟨ok.len, ok.inj, fun i m' h1 => ?_, fun b hb => ?_⟩
  · rcases ok.obj i m' h1 with q | ⟨b, q, r⟩
    · exact .inl q
    · refine .inr ⟨b, q, r.same (Ext0.putH ok (.inr h)).r fun u z => upd_keep H (fun e => ?_) z⟩
      subst e
      exact (ok.res _ h).2 (List.mem_of_getElem? q)
  · obtain ⟨⟨u, e, mu'⟩, n'⟩ := ok.res b hb
    by_cases hb' : b = a
    · subst hb'
      exact ⟨⟨o, upd_same, mu⟩, n'⟩
    · exact ⟨⟨u, upd_keep H hb' e, mu'⟩, n'⟩
/-- a thing of the store is let go: it stays as it is -/
theorem Phi.has_drop {n : Nat} {a : Addr} (h : (φ.drop n).has a) : φ.has a := by
  rcases h with h | h
  · rcases List.mem_or_eq_of_mem_set h with z | z
    · exact .inl z
    · cases z
  · exact .inr h
theorem Ext.letGo {n : Nat} : Ext φ H (φ.drop n) H := by
  refine ⟨⟨fun a o h nb => ⟨h, fun z => nb (Phi.has_drop z)⟩, fun i o h => ?_, fun _ _ h => h⟩, rfl, fun _ _ _ h => h⟩
  by_cases hi : i = n
  · subst hi
    exact .inr (List.getElem?_set_self (List.getElem?_eq_some_iff.mp h).1)
  · exact .inl (by show (φ.L.set n none)[i]? = _; rw [List.getElem?_set_ne (Ne.symm hi)]; exact h)
theorem StoOk.letGo {S : Sto} (ok : StoOk K H φ S) (n : Nat) : StoOk K H (φ.drop n) (S.set n .gone) := by
  have up : ∀ (i : Nat) (a : Addr), (φ.L.set n none)[i]? = some (some a) → φ.L[i]? = some (some a) ∧ i ≠ n := fun i a q => by
    by_cases hi : i = n
    · subst hi
      have hl : i < φ.L.length := by
        have := (List.getElem?_eq_some_iff.mp q).1
        simpa using this
      rw [List.getElem?_set_self hl] at q; cases q
    · rw [List.getElem?_set_ne (Ne.symm hi)] at q; exact ⟨q, hi⟩
  refine ⟨by simp [ok.len, Phi.drop], fun i j a h1 h2 => ok.inj i j a (up i a h1).1 (up j a h2).1, fun i m h1 => ?_, fun a ha => ⟨(ok.res a ha).1, fun z => ?_⟩⟩
  · by_cases hi : i = n
    · subst hi
      have hl : i < S.length := by
        have := (List.getElem?_eq_some_iff.mp h1).1
        simpa using this
      rw [List.getElem?_set_self hl] at h1; cases h1
      exact .inl ⟨rfl, List.getElem?_set_self (by rw [ok.len]; exact hl)⟩
    · rw [List.getElem?_set_ne (Ne.symm hi)] at h1
      rcases ok.obj i m h1 with ⟨q, r⟩ | ⟨a, q, r⟩
      · exact .inl ⟨q, by show (φ.L.set n none)[i]? = _; rw [List.getElem?_set_ne (Ne.symm hi)]; exact r⟩
      · exact .inr ⟨a, by show (φ.L.set n none)[i]? = _; rw [List.getElem?_set_ne (Ne.symm hi)]; exact q, r.same Ext.letGo.r fun _ z => z⟩
  · rcases List.mem_or_eq_of_mem_set z with z | z
    · exact (ok.res a ha).2 z
    · cases z
/-- something new that others don't know -/
theorem Phi.has_res {p a : Addr} : (Phi.mk φ.L (p :: φ.R)).has a ↔ φ.has a ∨ a = p := by
  unfold Phi.has
  simp only [List.mem_cons]
  constructor
  · rintro (h | h | h)
    · exact .inl (.inl h)
    · exact .inr h
    · exact .inl (.inr h)
  · rintro ((h | h) | h)
    · exact .inl h
    · exact .inr (.inr h)
    · exact .inr (.inl h)
theorem Ext0.allocR {S : Sto} (ok : StoOk K H φ S) {p : Addr} {o : HO} (h : H p = none) : Ext0 φ H ⟨φ.L, p :: φ.R⟩ (upd H p o) := by
  refine ⟨fun a u e n => ⟨same_upd h a u e, fun z => ?_⟩, fun n o e => .inl e, (Ext.fresh (φ := φ) h).tups⟩
  rcases Phi.has_res.mp z with z | z
  · exact n z
  · subst z
    rw [h] at e; cases e
theorem StoOk.allocR {S : Sto} (ok : StoOk K H φ S) {p : Addr} {o : HO} (h : H p = none) (mu : Mut (some o)) : StoOk K (upd H p o) ⟨φ.L, p :: φ.R⟩ S := by
  refine ⟨ok.len, ok.inj, fun i m h1 => ?_, fun a ha => ?_⟩
  · rcases ok.obj i m h1 with q | ⟨a, q, r⟩
    · exact .inl q
    · exact .inr ⟨a, q, r.same (Ext0.allocR ok h).r fun o z => same_upd h _ _ z⟩
  · have ha : a = p ∨ a ∈ φ.R := by simpa using ha
    rcases ha with ha | ha
    · subst ha
      exact ⟨⟨o, upd_same, mu⟩, fun z => ok.notIn h (.inl z)⟩
    · obtain ⟨⟨u, e, mu⟩, n⟩ := ok.res a ha
      exact ⟨⟨u, same_upd h _ _ e, mu⟩, n⟩
/-- .. is made -/
theorem Ext0.popR {p : Addr} {R : List Addr} : Ext0 ⟨φ.L, p :: R⟩ H ⟨φ.L, R⟩ H := ⟨fun a o h n => ⟨h, fun z => n (Phi.has_res (φ := ⟨φ.L, R⟩) |>.mpr (.inl z))⟩, fun _ _ h => .inl h, fun _ _ h => h⟩
theorem StoOk.popR {S : Sto} {L : List (Option Addr)} {p : Addr} {R : List Addr} (ok : StoOk K H ⟨L, p :: R⟩ S) : StoOk K H ⟨L, R⟩ S :=
  ⟨ok.len, ok.inj, fun i m h1 => (ok.obj i m h1).imp (fun z => z) fun ⟨a, q, r⟩ => ⟨a, q, r.same (Ext0.popR (φ := ⟨L, R⟩)).r fun _ z => z⟩, fun a ha => ok.res a (List.mem_cons_of_mem _ ha)⟩
/-- the store is cut -/
theorem StoOk.cut {S : Sto} (ok : StoOk K H φ S) (n : Nat) (hc : ∀ (i : Nat) (m : MO), i < n → S[i]? = some m → ∀ a, MObj K H φ a m → MObj K H ⟨φ.L.take n, φ.R⟩ a m) : StoOk K H ⟨φ.L.take n, φ.R⟩ (S.take n) := by
  have lt : ∀ {α : Type} {l : List α} {i : Nat} {x : α}, (l.take n)[i]? = some x → l[i]? = some x ∧ i < n := fun {α l i x} h => by
    have hl := (List.getElem?_eq_some_iff.mp h).1
    rw [List.length_take] at hl
    have hi : i < n := by omega
    rw [List.getElem?_take_of_lt hi] at h
    exact ⟨h, hi⟩
  refine ⟨by simp [ok.len], fun i j a h1 h2 => ok.inj i j a (lt h1).1 (lt h2).1, fun i m h1 => ?_, fun a ha => ⟨(ok.res a ha).1, fun z => (ok.res a ha).2 (List.mem_of_mem_take z)⟩⟩
  obtain ⟨h1, hi⟩ := lt h1
  rcases ok.obj i m h1 with ⟨q, r⟩ | ⟨a, q, r⟩
  · exact .inl ⟨q, by show (φ.L.take n)[i]? = _; rw [List.getElem?_take_of_lt hi]; exact r⟩
  · exact .inr ⟨a, by show (φ.L.take n)[i]? = _; rw [List.getElem?_take_of_lt hi]; exact q, hc i m hi h1 a r⟩
end
end DL

/-! DL1: readings over data, what they say of the abstract heap; names, constants, operators, tests, statements, targets, loops. -/
namespace DL
open PySem PySem.Spec L2
open PyProof.Rows hiding St

/-- what is wanted of exceptions, from here on: it stays -/
structure GX where
  p : Phi → Hp → Prop
  st : ∀ (φ : Phi) (H : Hp) (φ' : Phi) (H' : Hp), Ext φ H φ' H' → p φ H → p φ' H'
def GX.tt : GX := ⟨fun _ _ => True, fun _ _ _ _ _ _ => trivial⟩
/-- slots and store -/
structure Rel (K : PySem.W.Frag) (G : GX) (σ : St) (H : Hp) (φ : Phi) (ρ : Env) (S : Sto) : Prop where
  sto : StoOk K H φ S
  len : ρ.length ≤ σ.length
  env : ∀ (i : Nat) (d : D), ρ[i]? = some (some d) → ∃ v, σ[i]? = some (some v) ∧ Is K H φ d v
  g : G.p φ H
section
variable {K : PySem.W.Frag} {G : GX} {σ : St} {H H' : Hp} {φ φ' : Phi} {ρ : Env} {S S' : Sto}
theorem Rel.ext (r : Rel K G σ H φ ρ S) (ok : StoOk K H' φ' S') (e : Ext φ H φ' H') : Rel K G σ H' φ' ρ S' :=
  ⟨ok, r.len, fun i d h => let ⟨v, h1, h2⟩ := r.env i d h; ⟨v, h1, h2.ext e⟩, G.st _ _ _ _ e r.g⟩
theorem Rel.set (r : Rel K G σ H φ ρ S) {d : D} {v : V} (i : Nat) (h : Is K H φ d v) : Rel K G (σ.set i (some v)) H φ (ρ.set i (some d)) S := by
  refine ⟨r.sto, by simpa using r.len, fun j e q => ?_, r.g⟩
  by_cases hj : j = i
  · subst hj
    have hl : j < ρ.length := by
      have := (List.getElem?_eq_some_iff.mp q).1
      simpa using this
    rw [List.getElem?_set_self hl] at q
    cases q
    exact ⟨v, List.getElem?_set_self (Nat.lt_of_lt_of_le hl r.len), h⟩
  · rw [List.getElem?_set_ne (Ne.symm hj)] at q
    obtain ⟨w, h1, h2⟩ := r.env j e q
    exact ⟨w, by rw [List.getElem?_set_ne (Ne.symm hj)]; exact h1, h2⟩
end

/-! ### readings over data -/
abbrev DQ := D → Sto → Prop
abbrev DTE := Env → Sto → DQ → Prop
abbrev DTT := Env → Sto → (Bool → Sto → Prop) → Prop
abbrev DTA := Env → Sto → (List D → Sto → Prop) → Prop
structure DEnds where
  nx : Env → Sto → Prop
  rt : DQ
  bk : Env → Sto → Prop := fun _ _ => False
  ct : Env → Sto → Prop := fun _ _ => False
abbrev DTS := DEnds → Env → Sto → Prop

section
variable (K : PySem.W.Frag) (G : GX)
/-- what a wish over data says of the abstract heap, from (φ, H) on -/
def CQ (φ : Phi) (H : Hp) (QD : DQ) (Q : VK) : Prop := ∀ v H' φ' d S', StoOk K H' φ' S' → Ext φ H φ' H' → Is K H' φ' d v → QD d S' → Q v H'
def CN (φ : Phi) (H : Hp) (nd : Env → Sto → Prop) (n : St → Hp → Prop) : Prop := ∀ σ' H' φ' ρ' S', Rel K G σ' H' φ' ρ' S' → Ext φ H φ' H' → nd ρ' S' → n σ' H'
structure CD (φ : Phi) (H : Hp) (DD : DEnds) (D : Ends) : Prop where
  nx : CN K G φ H DD.nx D.nx
  rt : CQ K φ H DD.rt D.rt
  bk : CN K G φ H DD.bk D.bk
  ct : CN K G φ H DD.ct D.ct
def lift (t : DTE) : TE := fun σ H Q => ∃ φ ρ S QD, Rel K G σ H φ ρ S ∧ t ρ S QD ∧ CQ K φ H QD Q
def liftT (t : DTT) : TT := fun σ H Q => ∃ φ ρ S QD, Rel K G σ H φ ρ S ∧ t ρ S QD ∧ ∀ b H' φ' S', StoOk K H' φ' S' → Ext φ H φ' H' → QD b S' → Q b H'
def liftA (t : DTA) : TA := fun σ H Q => ∃ φ ρ S QD, Rel K G σ H φ ρ S ∧ t ρ S QD ∧ ∀ vs H' φ' ds S', StoOk K H' φ' S' → Ext φ H φ' H' → IsL K H' φ' ds vs → QD ds S' → Q vs H'
def liftS (t : DTS) : TS := fun D σ H => ∃ φ ρ S DD, Rel K G σ H φ ρ S ∧ t DD ρ S ∧ CD K G φ H DD D
end
section
variable {K : PySem.W.Frag} {G : GX} {φ φ' : Phi} {H H' : Hp}
theorem CQ.ext {QD : DQ} {Q : VK} (c : CQ K φ H QD Q) (e : Ext φ H φ' H') : CQ K φ' H' QD Q := fun v H2 φ2 d S2 ok x i q => c v H2 φ2 d S2 ok (e.trans x) i q
theorem CN.ext {nd : Env → Sto → Prop} {n : St → Hp → Prop} (c : CN K G φ H nd n) (e : Ext φ H φ' H') : CN K G φ' H' nd n := fun σ' H2 φ2 ρ2 S2 r x q => c σ' H2 φ2 ρ2 S2 r (e.trans x) q
theorem CD.ext {DD : DEnds} {D : Ends} (c : CD K G φ H DD D) (e : Ext φ H φ' H') : CD K G φ' H' DD D := ⟨c.nx.ext e, c.rt.ext e, c.bk.ext e, c.ct.ext e⟩
end

def DE (X : Cx) (G : GX) (e : Expr) (t : DTE) : Prop := PE X e (lift X.K G t)
def DT (X : Cx) (G : GX) (e : Expr) (t : DTT) : Prop := PT X e (liftT X.K G t)
def DW (X : Cx) (G : GX) (e : Expr) (t : DTT) : Prop := PW X e (liftT X.K G t)
def DA (X : Cx) (G : GX) (es : List Expr) (t : DTA) : Prop := PA X es (liftA X.K G t)
def DS (X : Cx) (G : GX) (st : Stmt) (t : DTS) : Prop := PS X st (liftS X.K G t)
def DSs (X : Cx) (G : GX) (st : List Stmt) (t : DTS) : Prop := PSs X st (liftS X.K G t)

theorem _root_.L2.PE.weak {X : Cx} {e : Expr} {t u : TE} (h : PE X e t) (w : ∀ σ H Q, u σ H Q → t σ H Q) : PE X e u := ⟨fun pins s σ H Q I q => h.run pins s σ H Q I (w _ _ _ q)⟩
theorem _root_.L2.PT.weak {X : Cx} {e : Expr} {t u : TT} (h : PT X e t) (w : ∀ σ H Q, u σ H Q → t σ H Q) : PT X e u := ⟨fun pins s σ H Q I q => h.run pins s σ H Q I (w _ _ _ q)⟩
theorem _root_.L2.PW.weak {X : Cx} {e : Expr} {t u : TT} (h : PW X e t) (w : ∀ σ H Q, u σ H Q → t σ H Q) : PW X e u := ⟨fun wh pins s σ H Q I q => h.run wh pins s σ H Q I (w _ _ _ q)⟩
theorem _root_.L2.PA.weak {X : Cx} {es : List Expr} {t u : TA} (h : PA X es t) (w : ∀ σ H Q, u σ H Q → t σ H Q) : PA X es u := ⟨fun pos pins s σ H Q I q => h.run pos pins s σ H Q I (w _ _ _ q)⟩
theorem _root_.L2.PS.weak {X : Cx} {e : Stmt} {t u : TS} (h : PS X e t) (w : ∀ D σ H, u D σ H → t D σ H) : PS X e u := ⟨fun pins s σ H D I q => h.run pins s σ H D I (w _ _ _ q)⟩
theorem _root_.L2.PSs.weak {X : Cx} {e : List Stmt} {t u : TS} (h : PSs X e t) (w : ∀ D σ H, u D σ H → t D σ H) : PSs X e u := ⟨fun pins s σ H D I q => h.run pins s σ H D I (w _ _ _ q)⟩
theorem _root_.L2.PI.weak {X : Cx} {tg e : Expr} {t u : TI} (h : PI X tg e t) (w : ∀ σ H R, u σ H R → t σ H R) : PI X tg e u := ⟨fun pins s σ H R I q => h.run pins s σ H R I (w _ _ _ q)⟩

/-! ### names, constants -/
section
variable {X : Cx} {G : GX} {pos : Pos}
def dVar (i : Nat) : DTE := fun ρ S Q => match ρ[i]? with
  | some (some d) => Q d S
  | _ => False
def dC (d : D) : DTE := fun _ S Q => Q d S
theorem de_var (i : Nat) {x : Str} (hN : X.N[i]? = some x := by rfl) (hv : Vis X.env.scope x := by first | exact Or.inl rfl | exact Or.inr (Or.inl rfl) | exact Or.inr (Or.inr rfl)) (hd : (x == ("__debug__" : Str)) = false := by decide)
    (hcd : (x == ("__classdict__" : Str)) = false := by decide) : DE X G (.Name x pos) (dVar i) := by
  refine (pe_var hN hv hd hcd).weak fun σ H Q h => ?_
  obtain ⟨φ, ρ, S, QD, r, h, c⟩ := h
  unfold dVar at h
  split at h
  · rename_i d e
    obtain ⟨v, h1, h2⟩ := r.env i d e
    exact ⟨v, h1, c v H φ d S r.sto .refl h2 h⟩
  · exact h.elim
/-- a reading of a constant value -/
theorem de_const {e : Expr} {d : D} {v : V} (h : PE X e (tC v)) (hi : ∀ H φ, Is X.K H φ d v) : DE X G e (dC d) :=
  h.weak fun σ H Q ⟨φ, ρ, S, QD, r, h, c⟩ => c v H φ d S r.sto .refl (hi H φ) h
theorem de_int {i : Int} {j : Nat} : DE X G (.Constant (.int i) j pos) (dC (.int i)) := de_const pe_int fun _ _ => rfl
theorem de_bl {b : Bool} {j : Nat} : DE X G (.Constant (.bool b) j pos) (dC (.bl b)) := de_const pe_bl fun _ _ => rfl
theorem de_non {j : Nat} : DE X G (.Constant .none j pos) (dC .non) := de_const pe_non fun _ _ => rfl
theorem de_str (l : Tx) {x : Str} {j : Nat} (h : x = sx l := by decide +kernel) (hc : ∀ c ∈ l, c < 1114112 := by decide) : DE X G (.Constant (.str x) j pos) (dC (.str l)) := de_const pe_str fun _ _ => ⟨by rw [h], hc⟩
/-- a module's int, text, bool -/
theorem de_glob {x : Str} {d : D} {v : V} {u : Value} (hg : Gl X x) (hm : X.mg x = some u) (r : RelV v u) (hi : ∀ H φ, Is X.K H φ d v) (hd : (x == ("__debug__" : Str)) = false := by decide) : DE X G (.Name x pos) (dC d) :=
  de_const (pe_glob hg hm r hd) hi
/-- a built-in class as a value -/
theorem de_ty {x : Str} {n : String} (hg : Gl X x) (hm : X.mg x = none) (hv : bootBuiltins x = some (.type n)) (hn : x ≠ "__name__" := by decide) (hd : (x == ("__debug__" : Str)) = false := by decide) : DE X G (.Name x pos) (dC (.ty n)) :=
  de_const (pe_bltn hg hm hv (v := .ty n) rfl hn hd) fun _ _ => rfl

/-! ### argument lists -/
def aNil : DTA := fun _ S Q => Q [] S
def aCons (t : DTE) (u : DTA) : DTA := fun ρ S Q => t ρ S fun d S1 => u ρ S1 fun ds S2 => Q (d :: ds) S2
theorem da_nil : DA X G [] aNil := pa_nil.weak fun σ H Q ⟨φ, ρ, S, QD, r, h, c⟩ => c [] H φ [] S r.sto .refl .nil h
theorem da_cons {e : Expr} {es : List Expr} {t : DTE} {u : DTA} (he : DE X G e t) (hr : DA X G es u) (hs : starEach (e :: es) X.env = (false, eval e X.env) :: starEach es X.env := by rfl) : DA X G (e :: es) (aCons t u) := by
  refine (pa_cons he hr hs).weak fun σ H Q ⟨φ, ρ, S, QD, r, h, c⟩ => ?_
  refine ⟨φ, ρ, S, _, r, h, fun v H1 φ1 d S1 ok1 e1 i1 q1 => ?_⟩
  refine ⟨φ1, ρ, S1, _, r.ext ok1 e1, q1, fun vs H2 φ2 ds S2 ok2 e2 i2 q2 => ?_⟩
  exact c (v :: vs) H2 φ2 (d :: ds) S2 ok2 (e1.trans e2) (.cons (i1.ext e2) i2) q2

/-! ### operators -/
abbrev D2 := D → D → Sto → DQ → Prop
abbrev D1 := D → Sto → DQ → Prop
abbrev DN := List D → Sto → DQ → Prop
def Op2 (X : Cx) (f : Value → Value → Sem Value) (rd : D2) : Prop :=
  ∃ r : R2, OpR X f r ∧ ∀ (H : Hp) (φ : Phi) (S : Sto) (d e : D) (x y : V) (QD : DQ) (Q : VK), StoOk X.K H φ S → Is X.K H φ d x → Is X.K H φ e y → rd d e S QD → CQ X.K φ H QD Q → r x y H Q
def Op1 (X : Cx) (f : Value → Sem Value) (rd : D1) : Prop :=
  ∃ r, UnR X f r ∧ ∀ (H : Hp) (φ : Phi) (S : Sto) (d : D) (x : V) (QD : DQ) (Q : VK), StoOk X.K H φ S → Is X.K H φ d x → rd d S QD → CQ X.K φ H QD Q → r x H Q
def dOp (rd : D2) (ta tb : DTE) : DTE := fun ρ S Q => ta ρ S fun d S1 => tb ρ S1 fun e S2 => rd d e S2 Q
def dUn (rd : D1) (ta : DTE) : DTE := fun ρ S Q => ta ρ S fun d S1 => rd d S1 Q
variable {a b : Expr} {ta tb : DTE} {es : List Expr} {t : DTA}
theorem lift_op {r : R2} {rd : D2} (hw : ∀ (H : Hp) (φ : Phi) (S : Sto) (d e : D) (x y : V) (QD : DQ) (Q : VK), StoOk X.K H φ S → Is X.K H φ d x → Is X.K H φ e y → rd d e S QD → CQ X.K φ H QD Q → r x y H Q) (σ : St) (H : Hp) (Q : VK)
    (h : lift X.K G (dOp rd ta tb) σ H Q) : tOp r (lift X.K G ta) (lift X.K G tb) σ H Q := by
  obtain ⟨φ, ρ, S, QD, r, h, c⟩ := h
  refine ⟨φ, ρ, S, _, r, h, fun v H1 φ1 d S1 ok1 e1 i1 q1 => ?_⟩
  refine ⟨φ1, ρ, S1, _, r.ext ok1 e1, q1, fun u H2 φ2 e S2 ok2 e2 i2 q2 => ?_⟩
  exact hw H2 φ2 S2 d e v u QD Q ok2 (i1.ext e2) i2 q2 (c.ext (e1.trans e2))
theorem de_op {op : Operator} {rd : D2} (ho : Op2 X (binaryOp op) rd) (ha : DE X G a ta) (hb : DE X G b tb) : DE X G (.BinOp a op b pos) (dOp rd ta tb) := by
  obtain ⟨r, h1, h2⟩ := ho
  exact (pe_op h1 ha hb).weak (lift_op h2)
theorem de_un {op : UnaryOp} {rd : D1} (ho : Op1 X (unaryOp op) rd) (ha : DE X G a ta) : DE X G (.UnaryOp op a pos) (dUn rd ta) := by
  obtain ⟨r, h1, h2⟩ := ho
  refine (pe_un h1 ha).weak fun σ H Q ⟨φ, ρ, S, QD, r, h, c⟩ => ?_
  exact ⟨φ, ρ, S, _, r, h, fun v H1 φ1 d S1 ok1 e1 i1 q1 => h2 H1 φ1 S1 d v QD Q ok1 i1 q1 (c.ext e1)⟩
theorem de_cmp {op : CmpOp} {rd : D2} (ho : Op2 X (compareOp op) rd) (ha : DE X G a ta) (hb : DE X G b tb) (hm : behindInMarks op b = false := by first | exact nobehind _ (by decide) (by decide) | rfl) : DE X G (.Compare a [op] [b] pos) (dOp rd ta tb) := by
  obtain ⟨r, h1, h2⟩ := ho
  exact (pe_cmpR h1 ha hb hm).weak (lift_op h2)
/-- a reading of a bool, as a test -/
def dTest (t : DTE) : DTT := fun ρ S Q => t ρ S fun d S1 => match d with
  | .bl b => Q b S1
  | _ => False
theorem liftT_test {t : DTE} (σ : St) (H : Hp) (Q : Bool → Hp → Prop) (h : liftT X.K G (dTest t) σ H Q) : lift X.K G t σ H fun x H1 => ∃ c, x = .bl c ∧ Q c H1 := by
  obtain ⟨φ, ρ, S, QD, r, h, c⟩ := h
  refine ⟨φ, ρ, S, _, r, h, fun v H1 φ1 d S1 ok1 e1 i1 q1 => ?_⟩
  cases d with
  | bl b => exact ⟨b, i1, c b H1 φ1 S1 ok1 e1 q1⟩
  | _ => exact q1.elim
theorem dt_cmp {op : CmpOp} {rd : D2} (ho : Op2 X (compareOp op) rd) (ha : DE X G a ta) (hb : DE X G b tb) (hm : behindInMarks op b = false := by first | exact nobehind _ (by decide) (by decide) | rfl) : DT X G (.Compare a [op] [b] pos) (dTest (dOp rd ta tb)) := by
  obtain ⟨r, h1, h2⟩ := ho
  refine (pt_cmpR h1 ha hb hm).weak fun σ H Q h => ?_
  exact lift_op h2 σ H _ (liftT_test σ H Q h)
theorem dt_val {e : Expr} {t : DTE} (h : DE X G e t) (he : ∀ whole, isTrue e X.env whole = (do let v ← whole; standAt e.pos; holding [v] (truthy v)) := by intro _; rfl) : DT X G e (dTest t) :=
  (pt_val h he).weak fun σ H Q q => liftT_test σ H Q q
theorem DW.dt {e : Expr} {t : DTT} (h : DW X G e t) : DT X G e t := PW.pt h
def dAnd (t u : DTT) : DTT := fun ρ S Q => t ρ S fun c S1 => if c = true then u ρ S1 Q else Q false S1
def dOr (t u : DTT) : DTT := fun ρ S Q => t ρ S fun c S1 => if c = true then Q true S1 else u ρ S1 Q
def dNot (t : DTT) : DTT := fun ρ S Q => t ρ S fun c S1 => Q (!c) S1
variable {tA tB : DTT} {rest : List Expr}
theorem dw_and1 (ha : DT X G a tA) : DW X G (.BoolOp .And [a] pos) tA := pw_and1 ha
theorem dw_or1 (ha : DT X G a tA) : DW X G (.BoolOp .Or [a] pos) tA := pw_or1 ha
theorem dw_and (ha : DT X G a tA) (hb : DW X G (.BoolOp .And (b :: rest) pos) tB) : DW X G (.BoolOp .And (a :: b :: rest) pos) (dAnd tA tB) := by
  refine (pw_and ha hb).weak fun σ H Q ⟨φ, ρ, S, QD, r, h, c⟩ => ?_
  refine ⟨φ, ρ, S, _, r, h, fun k H1 φ1 S1 ok1 e1 q1 => ?_⟩
  cases k with
  | true => exact iteT ⟨φ1, ρ, S1, QD, r.ext ok1 e1, (if_pos rfl).mp q1, fun k2 H2 φ2 S2 ok2 e2 q2 => c k2 H2 φ2 S2 ok2 (e1.trans e2) q2⟩
  | false => exact iteF (c false H1 φ1 S1 ok1 e1 ((if_neg Bool.false_ne_true).mp q1))
theorem dw_or (ha : DT X G a tA) (hb : DW X G (.BoolOp .Or (b :: rest) pos) tB) : DW X G (.BoolOp .Or (a :: b :: rest) pos) (dOr tA tB) := by
  refine (pw_or ha hb).weak fun σ H Q ⟨φ, ρ, S, QD, r, h, c⟩ => ?_
  refine ⟨φ, ρ, S, _, r, h, fun k H1 φ1 S1 ok1 e1 q1 => ?_⟩
  cases k with
  | false => exact iteF ⟨φ1, ρ, S1, QD, r.ext ok1 e1, (if_neg Bool.false_ne_true).mp q1, fun k2 H2 φ2 S2 ok2 e2 q2 => c k2 H2 φ2 S2 ok2 (e1.trans e2) q2⟩
  | true => exact iteT (c true H1 φ1 S1 ok1 e1 ((if_pos rfl).mp q1))
theorem dt_not (ha : DT X G a tA) : DT X G (.UnaryOp .Not a pos) (dNot tA) := by
  refine (pt_not ha).weak fun σ H Q ⟨φ, ρ, S, QD, r, h, c⟩ => ?_
  exact ⟨φ, ρ, S, _, r, h, fun k H1 φ1 S1 ok1 e1 q1 => c (!k) H1 φ1 S1 ok1 e1 q1⟩
/-- and, or, not as values: all but the last bools -/
def dAndV (ta tb : DTE) : DTE := fun ρ S Q => ta ρ S fun d S1 => match d with
  | .bl true => tb ρ S1 Q
  | .bl false => Q (.bl false) S1
  | _ => False
def dOrV (ta tb : DTE) : DTE := fun ρ S Q => ta ρ S fun d S1 => match d with
  | .bl true => Q (.bl true) S1
  | .bl false => tb ρ S1 Q
  | _ => False
def dNotV (ta : DTE) : DTE := fun ρ S Q => ta ρ S fun d S1 => match d with
  | .bl c => Q (.bl (!c)) S1
  | _ => False
theorem de_one {op : BoolOp} (h : DE X G a ta) : DE X G (.BoolOp op [a] pos) ta := pe_one h
theorem de_and (ha : DE X G a ta) (hb : DE X G (.BoolOp .And (b :: rest) pos) tb) : DE X G (.BoolOp .And (a :: b :: rest) pos) (dAndV ta tb) := by
  refine (pe_and ha hb).weak fun σ H Q ⟨φ, ρ, S, QD, r, h, c⟩ => ?_
  refine ⟨φ, ρ, S, _, r, h, fun v H1 φ1 d S1 ok1 e1 i1 q1 => ?_⟩
  cases d with
  | bl k =>
    cases k with
    | true => exact ⟨true, i1, iteT ⟨φ1, ρ, S1, QD, r.ext ok1 e1, q1, c.ext e1⟩⟩
    | false => exact ⟨false, i1, iteF (c _ H1 φ1 (.bl false) S1 ok1 e1 rfl q1)⟩
  | _ => exact q1.elim
theorem de_or (ha : DE X G a ta) (hb : DE X G (.BoolOp .Or (b :: rest) pos) tb) : DE X G (.BoolOp .Or (a :: b :: rest) pos) (dOrV ta tb) := by
  refine (pe_or ha hb).weak fun σ H Q ⟨φ, ρ, S, QD, r, h, c⟩ => ?_
  refine ⟨φ, ρ, S, _, r, h, fun v H1 φ1 d S1 ok1 e1 i1 q1 => ?_⟩
  cases d with
  | bl k =>
    cases k with
    | false => exact ⟨false, i1, iteF ⟨φ1, ρ, S1, QD, r.ext ok1 e1, q1, c.ext e1⟩⟩
    | true => exact ⟨true, i1, iteT (c _ H1 φ1 (.bl true) S1 ok1 e1 rfl q1)⟩
  | _ => exact q1.elim
theorem de_not (ha : DE X G a ta) : DE X G (.UnaryOp .Not a pos) (dNotV ta) := by
  refine (pe_not ha).weak fun σ H Q ⟨φ, ρ, S, QD, r, h, c⟩ => ?_
  refine ⟨φ, ρ, S, _, r, h, fun v H1 φ1 d S1 ok1 e1 i1 q1 => ?_⟩
  cases d with
  | bl k => exact ⟨k, i1, c _ H1 φ1 (.bl !k) S1 ok1 e1 rfl q1⟩
  | _ => exact q1.elim
def dIf (t : DTT) (ta tb : DTE) : DTE := fun ρ S Q => t ρ S fun c S1 => if c = true then ta ρ S1 Q else tb ρ S1 Q
theorem de_ifExp {e : Expr} (hc : DT X G e tA) (ha : DE X G a ta) (hb : DE X G b tb) : DE X G (.IfExp e a b pos) (dIf tA ta tb) := by
  refine (pe_ifExp hc ha hb).weak fun σ H Q ⟨φ, ρ, S, QD, r, h, c⟩ => ?_
  refine ⟨φ, ρ, S, _, r, h, fun k H1 φ1 S1 ok1 e1 q1 => ?_⟩
  cases k with
  | true => exact iteT ⟨φ1, ρ, S1, QD, r.ext ok1 e1, (if_pos rfl).mp q1, c.ext e1⟩
  | false => exact iteF ⟨φ1, ρ, S1, QD, r.ext ok1 e1, (if_neg Bool.false_ne_true).mp q1, c.ext e1⟩
/-- a < b < c -/
def dChain (rd rd' : D2) (ta tb tc : DTE) : DTE := fun ρ S Q => ta ρ S fun d S1 => tb ρ S1 fun e S2 => rd d e S2 fun z S3 => match z with
  | .bl true => tc ρ S3 fun f S4 => rd' e f S4 Q
  | .bl false => Q (.bl false) S3
  | _ => False

/-! ### blocks and statements -/
variable {st : Stmt} {sts : List Stmt} {u w : DTS} {e : Expr} {te : DTE}
def sNext : DTS := fun D ρ S => D.nx ρ S
def sSeq (t u : DTS) : DTS := fun D ρ S => t { D with nx := u D } ρ S
theorem dss_nil : DSs X G [] sNext := pss_nil.weak fun D σ H ⟨φ, ρ, S, DD, r, h, c⟩ => c.nx σ H φ ρ S r .refl h
theorem dss_cons (h1 : DS X G st u) (h2 : DSs X G sts w) : DSs X G (st :: sts) (sSeq u w) := by
  refine (pss_cons h1 h2).weak fun D σ H ⟨φ, ρ, S, DD, r, h, c⟩ => ?_
  refine ⟨φ, ρ, S, _, r, h, ⟨fun σ1 H1 φ1 ρ1 S1 r1 e1 q1 => ?_, c.rt, c.bk, c.ct⟩⟩
  exact ⟨φ1, ρ1, S1, DD, r1, q1, c.ext e1⟩
theorem dss_one (h1 : DS X G st u) : DSs X G [st] u := pss_one h1
def sBreak : DTS := fun D ρ S => D.bk ρ S
def sCont : DTS := fun D ρ S => D.ct ρ S
theorem ds_pass : DS X G (.Pass pos) sNext := ps_pass.weak fun D σ H ⟨φ, ρ, S, DD, r, h, c⟩ => c.nx σ H φ ρ S r .refl h
theorem ds_break : DS X G (.Break pos) sBreak := ps_break.weak fun D σ H ⟨φ, ρ, S, DD, r, h, c⟩ => c.bk σ H φ ρ S r .refl h
theorem ds_continue : DS X G (.Continue pos) sCont := ps_continue.weak fun D σ H ⟨φ, ρ, S, DD, r, h, c⟩ => c.ct σ H φ ρ S r .refl h
theorem ds_doc {x : Str} {j : Nat} {p p' : Pos} : DS X G (.Expr (.Constant (.str x) j p) p') sNext := ps_doc.weak fun D σ H ⟨φ, ρ, S, DD, r, h, c⟩ => c.nx σ H φ ρ S r .refl h
def sDrop (te : DTE) : DTS := fun D ρ S => te ρ S fun _ S1 => D.nx ρ S1
theorem ds_expr (he : DE X G e te) (hs : swapsWith e none pos.line X.env = pure false := by rfl) : DS X G (.Expr e pos) (sDrop te) := by
  refine (ps_expr he hs).weak fun D σ H ⟨φ, ρ, S, DD, r, h, c⟩ => ?_
  exact ⟨φ, ρ, S, _, r, h, fun v H1 φ1 d S1 ok1 e1 i1 q1 => c.nx σ H1 φ1 ρ S1 (r.ext ok1 e1) e1 q1⟩
def sRet (te : DTE) : DTS := fun D ρ S => te ρ S D.rt
theorem ds_ret (he : DE X G e te) : DS X G (.Return (some e) pos) (sRet te) := by
  refine (ps_ret he).weak fun D σ H ⟨φ, ρ, S, DD, r, h, c⟩ => ?_
  exact ⟨φ, ρ, S, _, r, h, c.rt⟩
def sRetN : DTS := fun D _ S => D.rt .non S
theorem ds_retN : DS X G (.Return none pos) sRetN := ps_retN.weak fun D σ H ⟨φ, ρ, S, DD, r, h, c⟩ => c.rt .non H φ .non S r.sto .refl rfl h
def sIf (t : DTT) (u w : DTS) : DTS := fun D ρ S => t ρ S fun b S1 => if b = true then u D ρ S1 else w D ρ S1
theorem ds_if {ys : List Stmt} (hc : DT X G e tA) (ha : DSs X G sts u) (hb : DSs X G ys w) : DS X G (.If e sts ys pos) (sIf tA u w) := by
  refine (ps_if hc ha hb).weak fun D σ H ⟨φ, ρ, S, DD, r, h, c⟩ => ?_
  refine ⟨φ, ρ, S, _, r, h, fun k H1 φ1 S1 ok1 e1 q1 => ?_⟩
  cases k with
  | true => exact iteT ⟨φ1, ρ, S1, DD, r.ext ok1 e1, (if_pos rfl).mp q1, c.ext e1⟩
  | false => exact iteF ⟨φ1, ρ, S1, DD, r.ext ok1 e1, (if_neg Bool.false_ne_true).mp q1, c.ext e1⟩
def sNever : DTS := fun _ _ _ => False
theorem ds_never : DS X G st sNever := ps_never.weak fun D σ H ⟨φ, ρ, S, DD, r, h, c⟩ => h
theorem dss_never : DSs X G sts sNever := pss_never.weak fun D σ H ⟨φ, ρ, S, DD, r, h, c⟩ => h
end
end DL

/-! DL2: targets, assignments, loops, list comprehensions, displays, calls of own defs, the rule of a def. -/
namespace DL
open PySem PySem.Spec L2
open PyProof.Rows hiding St

/-! ### targets -/
inductive Tg where
  | nm (i : Nat)
  | tp (ts : List Tg)
mutual
def bindT : Tg → D → Env → Option Env
  | .nm i, d, ρ => some (ρ.set i (some d))
  | .tp ts, .tup ds, ρ => bindTs ts ds ρ
  | .tp _, _, _ => none
def bindTs : List Tg → List D → Env → Option Env
  | [], [], ρ => some ρ
  | t :: ts, d :: ds, ρ => match bindT t d ρ with
    | some ρ' => bindTs ts ds ρ'
    | none => none
  | _, _, _ => none
end
mutual
def gT (K : PySem.W.Frag) : Tg → TG
  | .nm i => gName i
  | .tp ts => gTup K ts.length (gTs K ts)
def gTs (K : PySem.W.Frag) : List Tg → TGs
  | [] => gNil
  | t :: ts => gCons (gT K t) (gTs K ts)
end
mutual
def slotsT : Tg → List Nat
  | .nm i => [i]
  | .tp ts => slotsTs ts
def slotsTs : List Tg → List Nat
  | [] => []
  | t :: ts => slotsT t ++ slotsTs ts
end
theorem bindTs_len : ∀ {ts : List Tg} {ds : List D} {ρ ρ' : Env}, bindTs ts ds ρ = some ρ' → ts.length = ds.length
  | [], [], _, _, _ => rfl
  | [], _ :: _, _, _, h => by simp [bindTs] at h
  | _ :: _, [], _, _, h => by simp [bindTs] at h
  | t :: ts, d :: ds, ρ, ρ', h => by
    simp only [bindTs] at h
    split at h
    · rename_i ρ1 _
      simp [bindTs_len h]
    · cases h
theorem wipe_get (σ : St) (vs : List Nat) (j : Nat) : (wipe σ vs)[j]? = if j ∈ vs then (σ[j]?).map (fun _ => none) else σ[j]? := by
  induction vs with
  | nil => simp [wipe]
  | cons v vs ih =>
    unfold wipe
    by_cases hj : v = j
    · subst hj
      by_cases hl : v < σ.length
      · rw [List.getElem?_set_self (by rw [wipe_length]; exact hl)]
        simp [List.getElem?_eq_getElem hl]
      · rw [List.getElem?_eq_none (by rw [List.length_set, wipe_length]; omega), List.getElem?_eq_none (by omega)]
        simp
    · rw [List.getElem?_set_ne hj, ih]
      have : (j ∈ v :: vs) ↔ j ∈ vs := by simp [Ne.symm hj]
      simp only [this]
theorem wipe_set {σ : St} {vs : List Nat} {i : Nat} {x : Option V} (h : i ∈ vs) : wipe (σ.set i x) vs = wipe σ vs := by
  apply List.ext_getElem?
  intro j
  rw [wipe_get, wipe_get]
  by_cases hj : j ∈ vs
  · rw [if_pos hj, if_pos hj]
    by_cases e : i = j
    · subst e
      by_cases hl : i < σ.length
      · rw [List.getElem?_set_self hl, List.getElem?_eq_getElem hl]; rfl
      · rw [List.getElem?_eq_none (by simpa using hl), List.getElem?_eq_none (by omega)]
    · rw [List.getElem?_set_ne e]
  · rw [if_neg hj, if_neg hj]
    rw [List.getElem?_set_ne (fun e => hj (by rw [← e]; exact h))]
section
variable {K : PySem.W.Frag} {G : GX} {H : Hp} {φ : Phi} {S : Sto}
mutual
theorem bindT_ok : ∀ (T : Tg) (d : D) (v : V) (σ : St) (ρ ρ' : Env) (vs : List Nat) (Q : St → Hp → Prop), bindT T d ρ = some ρ' → Rel K G σ H φ ρ S → Is K H φ d v → (∀ i ∈ slotsT T, i ∈ vs) →
    (∀ σ', Rel K G σ' H φ ρ' S → wipe σ' vs = wipe σ vs → Q σ' H) → gT K T v σ H Q
  | .nm i, d, v, σ, ρ, ρ', vs, Q, h, r, hi, hv, q => by
    simp only [bindT, Option.some.injEq] at h
    subst h
    exact q _ (r.set i hi) (wipe_set (hv i (by simp [slotsT])))
  | .tp ts, .tup ds, v, σ, ρ, ρ', vs, Q, h, r, hi, hv, q => by
    simp only [bindT] at h
    obtain ⟨a, xs, rfl, hs, hl⟩ := hi
    exact ⟨a, xs, rfl, hs, by rw [← hl.length, bindTs_len h], bindTs_ok ts ds xs σ ρ ρ' vs Q h r hl (by simpa [slotsT] using hv) q⟩
  | .tp _, .non, _, _, _, _, _, _, h, _, _, _, _ => by simp [bindT] at h
  | .tp _, .bl _, _, _, _, _, _, _, h, _, _, _, _ => by simp [bindT] at h
  | .tp _, .int _, _, _, _, _, _, _, h, _, _, _, _ => by simp [bindT] at h
  | .tp _, .str _, _, _, _, _, _, _, h, _, _, _, _ => by simp [bindT] at h
  | .tp _, .ty _, _, _, _, _, _, _, h, _, _, _, _ => by simp [bindT] at h
  | .tp _, .glob _, _, _, _, _, _, _, h, _, _, _, _ => by simp [bindT] at h
  | .tp _, .ref _, _, _, _, _, _, _, h, _, _, _, _ => by simp [bindT] at h
  | .tp _, .lst _, _, _, _, _, _, _, h, _, _, _, _ => by simp [bindT] at h
  | .tp _, .dK _ _, _, _, _, _, _, _, h, _, _, _, _ => by simp [bindT] at h
  | .tp _, .dT _ _, _, _, _, _, _, _, h, _, _, _, _ => by simp [bindT] at h
theorem bindTs_ok : ∀ (ts : List Tg) (ds : List D) (xs : List V) (σ : St) (ρ ρ' : Env) (vs : List Nat) (Q : St → Hp → Prop), bindTs ts ds ρ = some ρ' → Rel K G σ H φ ρ S → IsL K H φ ds xs → (∀ i ∈ slotsTs ts, i ∈ vs) →
    (∀ σ', Rel K G σ' H φ ρ' S → wipe σ' vs = wipe σ vs → Q σ' H) → gTs K ts xs σ H Q
  | [], [], xs, σ, ρ, ρ', vs, Q, h, r, hi, hv, q => by
    simp only [bindTs, Option.some.injEq] at h
    subst h
    exact ⟨hi, q σ r rfl⟩
  | [], _ :: _, _, _, _, _, _, _, h, _, _, _, _ => by simp [bindTs] at h
  | _ :: _, [], _, _, _, _, _, _, h, _, _, _, _ => by simp [bindTs] at h
  | t :: ts, d :: ds, xs, σ, ρ, ρ', vs, Q, h, r, hi, hv, q => by
    obtain ⟨x, xr, rfl, h2, h3⟩ := hi
    simp only [bindTs] at h
    split at h
    · rename_i ρ1 e1
      refine ⟨x, xr, rfl, ?_⟩
      refine bindT_ok t d x σ ρ ρ1 vs _ e1 r h2 (fun i hi => hv i (by simp [slotsTs, hi])) fun σ1 r1 w1 => ?_
      exact bindTs_ok ts ds xr σ1 ρ1 ρ' vs Q h r1 h3 (fun i hi => hv i (by simp [slotsTs, hi])) fun σ2 r2 w2 => q σ2 r2 (w2.trans w1)
    · cases h
end
end
def DG (X : Cx) (G : GX) (e : Expr) (T : Tg) : Prop := PG X e (gT X.K T)
def DGs (X : Cx) (G : GX) (es : List Expr) (ts : List Tg) : Prop := PGs X es (gTs X.K ts)
section
variable {X : Cx} {G : GX} {pos : Pos}
theorem dg_name (i : Nat) {x : Str} (hN : X.N.Nodup) (hi : X.N[i]? = some x := by rfl) (hx : Loc X.env.scope x := by first | exact Or.inl rfl | exact Or.inr rfl) (hf : X.fn x = true ∨ X.env.scope.names.lookup x = some .local := by first | exact .inl rfl | exact .inr rfl | assumption) : DG X G (.Name x pos) (.nm i) := pg_name hN hi hx hf
theorem dgs_nil : DGs X G [] [] := pgs_nil
theorem dgs_cons {e : Expr} {es : List Expr} {t : Tg} {ts : List Tg} (h1 : DG X G e t) (h2 : DGs X G es ts) (hs : (assignEach (e :: es) X.env).map (·.2) = assign e X.env :: (assignEach es X.env).map (·.2) := by rfl) : DGs X G (e :: es) (t :: ts) := pgs_cons h1 h2 hs
theorem dg_tup {es : List Expr} {k : Nat} {ts : List Tg} (hc : X.calm = true) (h : DGs X G es ts) (hn : (assignEach es X.env).length = ts.length := by rfl) (hst : (assignEach es X.env).findIdx? (·.1) = none := by rfl) : DG X G (.Tuple es k pos) (.tp ts) := pg_tup hc h hn hst

/-! ### assignments -/
def bound (T : Tg) (d : D) (ρ : Env) (k : Env → Prop) : Prop := match bindT T d ρ with
  | some ρ' => k ρ'
  | none => False
def sAsg (te : DTE) (T : Tg) : DTS := fun D ρ S => te ρ S fun d S1 => bound T d ρ fun ρ' => D.nx ρ' S1
variable {e : Expr} {te : DTE}
theorem bound_run {K : PySem.W.Frag} {G : GX} {H : Hp} {φ : Phi} {S : Sto} {T : Tg} {d : D} {v : V} {σ : St} {ρ : Env} {k : Env → Prop} {vs : List Nat} {Q : St → Hp → Prop} (h : bound T d ρ k) (r : Rel K G σ H φ ρ S) (hi : Is K H φ d v) (hv : ∀ i ∈ slotsT T, i ∈ vs)
    (q : ∀ ρ' σ', k ρ' → Rel K G σ' H φ ρ' S → wipe σ' vs = wipe σ vs → Q σ' H) : gT K T v σ H Q := by
  unfold bound at h
  split at h
  · rename_i ρ' e1
    exact bindT_ok T d v σ ρ ρ' vs Q e1 r hi hv fun σ' r' w => q ρ' σ' h r' w
  · exact h.elim
theorem asg_weak {T : Tg} (D : Ends) (σ : St) (H : Hp) (h : liftS X.K G (sAsg te T) D σ H) : tAsg (lift X.K G te) (gT X.K T) D σ H := by
  obtain ⟨φ, ρ, S, DD, r, h, c⟩ := h
  refine ⟨φ, ρ, S, _, r, h, fun v H1 φ1 d S1 ok1 e1 i1 q1 => ?_⟩
  exact bound_run q1 (r.ext ok1 e1) i1 (fun i hi => hi) fun ρ' σ' k r' _ => c.nx σ' H1 φ1 ρ' S1 r' e1 k
theorem ds_asg {tg : Expr} {T : Tg} (he : DE X G e te) (hg : DG X G tg T) (hs : swapsWithSole [tg] e pos.line X.env = pure false := by rfl) (hw : swappedStores [tg] e X.env = pure none := by rfl)
    (h1 : (assignEach [tg] X.env).map (·.2) = [assign tg X.env] := by rfl) : DS X G (.Assign [tg] e pos) (sAsg te T) := (ps_asg he hg hs hw h1).weak asg_weak
theorem ds_set (i : Nat) {x : Str} {pos' : Pos} (hN : X.N.Nodup) (he : DE X G e te) (hi : X.N[i]? = some x := by rfl) (hx : Loc X.env.scope x := by first | exact Or.inl rfl | exact Or.inr rfl) (hs : swapsWith e (some (.Name x pos')) pos.line X.env = pure false := by rfl)
    (hf : X.fn x = true ∨ X.env.scope.names.lookup x = some .local := by first | exact .inl rfl | exact .inr rfl | assumption) : DS X G (.Assign [.Name x pos'] e pos) (sAsg te (.nm i)) :=
  (ps_set hN hi hx he hs hf).weak fun D σ H h => asg_weak (T := .nm i) D σ H h
/-- a, b = x, y with plain locals -/
def sPar (i j : Nat) (ta tb : DTE) : DTS := fun D ρ S => ta ρ S fun d S1 => tb ρ S1 fun e S2 => D.nx ((ρ.set i (some d)).set j (some e)) S2
theorem ds_par (i j : Nat) {x y : Str} {a b : Expr} {ta tb : DTE} {px py pt : Pos} {kt k2 pt2} (hc : X.calm = true) (hN : X.N.Nodup) (ha : DE X G a ta) (hb : DE X G b tb) (hi : X.N[i]? = some x := by rfl) (hj : X.N[j]? = some y := by rfl) (hij : i ≠ j := by decide)
    (hx : X.env.scope.names.lookup x = some .local := by rfl) (hy : X.env.scope.names.lookup y = some .local := by rfl)
    (hw : swappedStores [.Tuple [.Name x px, .Name y py] kt pt] (.Tuple [a, b] k2 pt2) X.env = pure (some [x, y]) := by rfl)
    (hs : swapsWithSole [.Tuple [.Name x px, .Name y py] kt pt] (.Tuple [a, b] k2 pt2) pos.line X.env = pure false := by rfl)
    (hs1 : starEach [a, b] X.env = (false, eval a X.env) :: starEach [b] X.env := by rfl) (hs2 : starEach [b] X.env = (false, eval b X.env) :: starEach [] X.env := by rfl) :
    DS X G (.Assign [.Tuple [.Name x px, .Name y py] kt pt] (.Tuple [a, b] k2 pt2) pos) (sPar i j ta tb) := by
  refine (ps_par hc hN hi hj hij hx hy (pa_cons ha (pa_cons hb pa_nil hs2) hs1) hw hs).weak fun D σ H h => ?_
  obtain ⟨φ, ρ, S, DD, r, h, c⟩ := h
  refine ⟨φ, ρ, S, _, r, h, fun v H1 φ1 d S1 ok1 e1 i1 q1 => ?_⟩
  refine ⟨φ1, ρ, S1, _, r.ext ok1 e1, q1, fun u H2 φ2 e S2 ok2 e2 i2 q2 => ?_⟩
  exact ⟨v, u, rfl, c.nx _ H2 φ2 _ S2 (((r.ext ok2 (e1.trans e2)).set i (i1.ext e2)).set j i2) (e1.trans e2) q2⟩

/-! ### what a loop walks -/
structure ItOk (K : PySem.W.Frag) (J : It) (ds : List D) (fz : Hp → Phi → Prop) (lv : Sto → Prop) : Prop where
  item : ∀ (i : Nat) (d : D) (H : Hp) (φ : Phi) (S : Sto), StoOk K H φ S → fz H φ → lv S → ds[i]? = some d → J.go i H ∧ ∀ x H', J.yld i H x H' → StoOk K H' φ S ∧ Ext φ H φ H' ∧ Is K H' φ d x
  stop : ∀ (H : Hp) (φ : Phi) (S : Sto), StoOk K H φ S → fz H φ → lv S → J.stop ds.length H
def Stable (fz : Hp → Phi → Prop) : Prop := ∀ (φ : Phi) (H : Hp) (φ' : Phi) (H' : Hp), Ext0 φ H φ' H' → fz H φ → fz H' φ'
abbrev DTI := Env → Sto → (List D → (Sto → Prop) → Sto → Prop) → Prop
def liftI (K : PySem.W.Frag) (G : GX) (ti : DTI) : TI := fun σ H R => ∃ φ ρ S RD, Rel K G σ H φ ρ S ∧ ti ρ S RD ∧
  ∀ J H' φ' ds fz lv S', StoOk K H' φ' S' → Ext φ H φ' H' → ItOk K J ds fz lv → Stable fz → fz H' φ' → RD ds lv S' → R J H'
def DI (X : Cx) (G : GX) (tg e : Expr) (ti : DTI) : Prop := PI X tg e (liftI X.K G ti)

/-! ### for -/
def forD (lv : Sto → Prop) (T : Tg) (tb : DTS) (DD : DEnds) : List D → Env → Sto → Prop
  | [], ρ, S => lv S ∧ DD.nx ρ S
  | d :: r, ρ, S => lv S ∧ bound T d ρ fun ρ' => tb { nx := forD lv T tb DD r, rt := DD.rt, bk := DD.nx, ct := forD lv T tb DD r } ρ' S
def sFor (ti : DTI) (T : Tg) (tb : DTS) : DTS := fun DD ρ S => ti ρ S fun ds lv S1 => forD lv T tb DD ds ρ S1
theorem ds_for {tg iter : Expr} {body : List Stmt} {ti : DTI} {T : Tg} {tb : DTS} (hp : PassesOwn (model X.prog X.w) X.A X.env X.xe) (hc : X.calm = true) (hi : DI X G tg iter ti) (hg : DG X G tg T) (hb : DSs X G body tb)
    (hs : ∀ x, foldedSetIterable iter X.env x = pure x := by intro _; rfl) : DS X G (.For tg iter body [] pos) (sFor ti T tb) := by
  refine (ps_for hp hc hi hg hb hs).weak fun D σ H h => ?_
  obtain ⟨φ, ρ, S, DD, r, h, c⟩ := h
  refine ⟨φ, ρ, S, _, r, h, fun J H1 φ1 ds fz lv S1 ok1 e1 it st f1 q1 => ?_⟩
  refine ⟨fun i m σ' H' => ∃ φ' ρ' S', Rel X.K G σ' H' φ' ρ' S' ∧ Ext φ H φ' H' ∧ fz H' φ' ∧ m = ds.length - i ∧ i ≤ ds.length ∧ forD lv T tb DD (ds.drop i) ρ' S', ⟨ds.length, φ1, ρ, S1, r.ext ok1 e1, e1, f1, rfl, Nat.zero_le _, q1⟩, ?_⟩
  rintro i m σ' H' ⟨φ', ρ', S', r', e', f', rfl, hi, q⟩
  by_cases hlt : i < ds.length
  · rw [List.drop_eq_getElem_cons hlt] at q
    obtain ⟨hl, q⟩ := q
    obtain ⟨go, yl⟩ := it.item i ds[i] H' φ' S' r'.sto f' hl (List.getElem?_eq_getElem hlt)
    refine .inr ⟨go, fun σ2 H2 => ∃ φ2 ρ2 S2, Rel X.K G σ2 H2 φ2 ρ2 S2 ∧ Ext φ' H' φ2 H2 ∧ forD lv T tb DD (ds.drop (i + 1)) ρ2 S2, fun σ2 H2 n2 => ?_, fun x H2 y => ?_⟩
    · obtain ⟨φ2, ρ2, S2, r2, e2, q2⟩ := n2
      exact ⟨_, by omega, φ2, ρ2, S2, r2, e'.trans e2, st _ _ _ _ e2.toExt0 f', rfl, hlt, q2⟩
    · obtain ⟨ok2, e2, i2⟩ := yl x H2 y
      refine bound_run q (r'.ext ok2 e2) i2 (fun i hi => hi) fun ρ3 σ3 k3 r3 _ => ?_
      refine ⟨φ', ρ3, S', _, r3, k3, ⟨fun σ4 H4 φ4 ρ4 S4 r4 e4 q4 => ⟨φ4, ρ4, S4, r4, e2.trans e4, q4⟩, c.rt.ext (e'.trans e2), c.nx.ext (e'.trans e2), fun σ4 H4 φ4 ρ4 S4 r4 e4 q4 => ⟨φ4, ρ4, S4, r4, e2.trans e4, q4⟩⟩⟩
  · have ei : i = ds.length := by omega
    subst ei
    rw [List.drop_length] at q
    exact .inl ⟨it.stop H' φ' S' r'.sto f' q.1, c.nx σ' H' φ' ρ' S' r' e' q.2⟩
/-! ### while -/
def whileD (c : DTT) (tb : DTS) (DD : DEnds) : Nat → Env → Sto → Prop
  | 0, _, _ => False
  | n + 1, ρ, S => c ρ S fun b S1 => if b = true then tb { nx := whileD c tb DD n, rt := DD.rt, bk := DD.nx, ct := whileD c tb DD n } ρ S1 else DD.nx ρ S1
def sWhile (c : DTT) (tb : DTS) : DTS := fun DD ρ S => ∃ n, whileD c tb DD n ρ S
theorem ds_while {c : Expr} {body : List Stmt} {tc : DTT} {tb : DTS} (hp : PassesOwn (model X.prog X.w) X.A X.env X.xe) (hc : DT X G c tc) (hb : DSs X G body tb) : DS X G (.While c body [] pos) (sWhile tc tb) := by
  refine (ps_while hp hc hb).weak fun D σ H h => ?_
  obtain ⟨φ, ρ, S, DD, r, ⟨n, h⟩, cc⟩ := h
  refine ⟨fun m σ' H' => ∃ φ' ρ' S', Rel X.K G σ' H' φ' ρ' S' ∧ Ext φ H φ' H' ∧ whileD tc tb DD m ρ' S', ⟨n, φ, ρ, S, r, .refl, h⟩, ?_⟩
  rintro m σ' H' ⟨φ', ρ', S', r', e', q⟩
  cases m with
  | zero => exact q.elim
  | succ m =>
    refine ⟨φ', ρ', S', _, r', q, fun b H1 φ1 S1 ok1 e1 q1 => ?_⟩
    cases b with
    | true =>
      refine iteT ⟨fun σ2 H2 => ∃ φ2 ρ2 S2, Rel X.K G σ2 H2 φ2 ρ2 S2 ∧ Ext φ H φ2 H2 ∧ whileD tc tb DD m ρ2 S2, fun σ2 H2 n2 => ⟨m, Nat.lt_succ_self m, n2⟩, ?_⟩
      have e2 := e'.trans e1
      refine ⟨φ1, ρ', S1, _, r'.ext ok1 e1, (if_pos rfl).mp q1, ⟨fun σ4 H4 φ4 ρ4 S4 r4 e4 q4 => ⟨φ4, ρ4, S4, r4, e2.trans e4, q4⟩, cc.rt.ext e2, cc.nx.ext e2, fun σ4 H4 φ4 ρ4 S4 r4 e4 q4 => ⟨φ4, ρ4, S4, r4, e2.trans e4, q4⟩⟩⟩
    | false => exact iteF (cc.nx σ' H1 φ1 ρ' S1 (r'.ext ok1 e1) (e'.trans e1) ((if_neg Bool.false_ne_true).mp q1))

/-! ### list comprehensions -/
def wipeD (ρ : Env) : List Nat → Env
  | [] => ρ
  | v :: vs => (wipeD ρ vs).set v none
theorem wipeD_get {ρ : Env} {i : Nat} {d : D} : ∀ {vs : List Nat}, (wipeD ρ vs)[i]? = some (some d) → ρ[i]? = some (some d) ∧ i ∉ vs
  | [], h => ⟨h, by simp⟩
  | v :: vs, h => by
    unfold wipeD at h
    by_cases hi : v = i
    · subst hi
      by_cases hv : v < (wipeD ρ vs).length
      · rw [List.getElem?_set_self hv] at h; cases h
      · rw [List.getElem?_eq_none (by simpa using hv)] at h; cases h
    · rw [List.getElem?_set_ne hi] at h
      obtain ⟨h1, h2⟩ := wipeD_get h
      exact ⟨h1, by simp only [List.mem_cons, not_or]; exact ⟨fun e => hi e.symm, h2⟩⟩
theorem wipeD_length (ρ : Env) : ∀ vs : List Nat, (wipeD ρ vs).length = ρ.length
  | [] => rfl
  | v :: vs => by unfold wipeD; rw [List.length_set, wipeD_length ρ vs]
theorem Rel.wipe {K : PySem.W.Frag} {G : GX} {σ : St} {H : Hp} {φ : Phi} {ρ : Env} {S : Sto} (r : Rel K G σ H φ ρ S) (vs : List Nat) : Rel K G (wipe σ vs) H φ (wipeD ρ vs) S := by
  refine ⟨r.sto, by rw [wipeD_length, wipe_length]; exact r.len, fun i d h => ?_, r.g⟩
  obtain ⟨h1, h2⟩ := wipeD_get h
  obtain ⟨v, h3, h4⟩ := r.env i d h1
  exact ⟨v, by rw [wipe_out h2]; exact h3, h4⟩
def lcD (lv : Sto → Prop) (T : Tg) (tt : DTT) (te : DTE) (ρ : Env) : List D → List D → Sto → (List D → Sto → Prop) → Prop
  | [], acc, S, k => lv S ∧ k acc S
  | d :: r, acc, S, k => lv S ∧ bound T d ρ fun ρ' => tt ρ' S fun b S1 => if b = true then te ρ' S1 fun y S2 => acc.length < sizeLine ∧ lcD lv T tt te ρ r (acc ++ [y]) S2 k else lcD lv T tt te ρ r acc S1 k
/-- its value: a list that is not changed again -/
def dLc (ti : DTI) (T : Tg) (tt : DTT) (te : DTE) (vs : List Nat) : DTE := fun ρ S Q => ti ρ S fun ds lv S1 => lcD lv T tt te (wipeD ρ vs) ds [] S1 fun acc S2 => Q (.lst acc) S2
theorem lc_weak {ti : DTI} {T : Tg} {tt : DTT} {te : DTE} {vs : List Nat} (hv : ∀ i ∈ slotsT T, i ∈ vs) (σ : St) (H : Hp) (Q : VK) (h : lift X.K G (dLc ti T tt te vs) σ H Q) : tLc (liftI X.K G ti) (gT X.K T) (liftT X.K GX.tt tt) (lift X.K GX.tt te) vs σ H Q := by
  obtain ⟨φ, ρ, S, QD, r, h, c⟩ := h
  refine ⟨φ, ρ, S, _, r, h, fun J H1 φ1 ds fz lv S1 ok1 e1 it st f1 q1 => ?_⟩
  intro D hD
  have ok1' : StoOk X.K (upd H1 D (.lst [])) ⟨φ1.L, D :: φ1.R⟩ S1 := ok1.allocR hD trivial
  have e1' : Ext0 φ1 H1 ⟨φ1.L, D :: φ1.R⟩ (upd H1 D (.lst [])) := Ext0.allocR ok1 hD
  have rw1 : Rel X.K G (wipe σ vs) H1 φ1 (wipeD ρ vs) S1 := (r.wipe vs).ext ok1 e1
  have nDR : D ∉ φ1.R := fun z => ok1.notIn hD (.inr z)
  refine ⟨fun i m H' => ∃ φ' S' acc xs, StoOk X.K H' φ' S' ∧ Ext0 φ1 H1 φ' H' ∧ φ'.R = D :: φ1.R ∧ (∀ a ∈ φ1.R, ∀ o, H1 a = some o → H' a = some o) ∧ fz H' φ' ∧ m = ds.length - i ∧ i ≤ ds.length ∧ H' D = some (.lst xs) ∧ IsL X.K H' φ' acc xs ∧
    lcD lv T tt te (wipeD ρ vs) (ds.drop i) acc S' fun acc S2 => QD (.lst acc) S2, ⟨ds.length, _, S1, [], [], ok1', e1', rfl, fun a _ o h => same_upd hD a o h, st _ _ _ _ e1' f1, rfl, Nat.zero_le _, upd_same, rfl, q1⟩, ?_⟩
  rintro i m H' ⟨φ', S', acc, xs, ok', e', eR, hR, f', rfl, hi, hx, hacc, q⟩
  have inD : D ∈ φ'.R := by rw [eR]; exact List.mem_cons_self
  by_cases hlt : i < ds.length
  · rw [List.drop_eq_getElem_cons hlt] at q
    obtain ⟨hl, q⟩ := q
    obtain ⟨go, yl⟩ := it.item i ds[i] H' φ' S' ok' f' hl (List.getElem?_eq_getElem hlt)
    refine .inr ⟨go, fun H2 => ∃ φ2 S2 acc2 xs2, StoOk X.K H2 φ2 S2 ∧ Ext0 φ' H' φ2 H2 ∧ φ2.R = D :: φ1.R ∧ (∀ a ∈ φ1.R, ∀ o, H1 a = some o → H2 a = some o) ∧ H2 D = some (.lst xs2) ∧ IsL X.K H2 φ2 acc2 xs2 ∧
      lcD lv T tt te (wipeD ρ vs) (ds.drop (i + 1)) acc2 S2 fun acc S2 => QD (.lst acc) S2, fun H2 n2 => ?_, fun x H2 y => ?_⟩
    · obtain ⟨φ2, S2, acc2, xs2, ok2, e2, eR2, hR2, hx2, ha2, q2⟩ := n2
      exact ⟨_, by omega, φ2, S2, acc2, xs2, ok2, e'.trans e2, eR2, hR2, st _ _ _ _ e2 f', rfl, hlt, hx2, ha2, q2⟩
    · obtain ⟨ok2, e2, i2⟩ := yl x H2 y
      -- the slots as the block has them
      have rr : ∀ {φ3 : Phi} {H3 : Hp} {S3 : Sto}, StoOk X.K H3 φ3 S3 → Ext φ' H' φ3 H3 → Rel X.K GX.tt (L2.wipe σ vs) H3 φ3 (wipeD ρ vs) S3 := fun {φ3 H3 S3} ok3 e3 =>
        ⟨ok3, rw1.len, fun j d h => let ⟨v, h1, h2⟩ := rw1.env j d h; ⟨v, h1, h2.ext0 (e'.trans e3.toExt0)⟩, trivial⟩
      refine bound_run q (rr ok2 e2) i2 hv fun ρ3 σ3 k3 r3 w3 => ⟨?_, ?_⟩
      · have wi : ∀ l : List Nat, (∀ j ∈ l, j ∈ vs) → L2.wipe (L2.wipe σ vs) l = L2.wipe σ vs := fun l hl => by
          apply List.ext_getElem?
          intro j
          rw [wipe_get, wipe_get]
          by_cases hj : j ∈ l
          · rw [if_pos hj, if_pos (hl j hj)]
            cases σ[j]? <;> rfl
          · rw [if_neg hj]
        rw [w3]
        exact wi vs fun _ h => h
      refine ⟨φ', ρ3, S', _, r3, k3, fun b H3 φ3 S3 ok3 e3 q3 => ?_⟩
      have e23 := e2.trans e3
      cases b with
      | true =>
        refine iteT ⟨φ3, ρ3, S3, _, r3.ext ok3 e3, (if_pos rfl).mp q3, fun y H4 φ4 d S4 ok4 e4 i4 q4 => ?_⟩
        have e24 := e23.trans e4
        have hD4 := e24.held D inD _ hx
        have inD4 : D ∈ φ4.R := by rw [e24.res]; exact inD
        have a4 : IsL X.K H4 φ4 (acc ++ [d]) (xs ++ [y]) := (hacc.ext e24).append (.cons i4 .nil)
        have e5 : Ext0 φ4 H4 φ4 (upd H4 D (.lst (xs ++ [y]))) := Ext0.putH ok4 (.inr inD4)
        refine ⟨xs, hD4, by rw [← hacc.length]; exact q4.1, φ4, S4, acc ++ [d], xs ++ [y], ok4.putR inD4 trivial, e24.toExt0.trans e5, by rw [e24.res, eR], fun a ha o h => ?_, upd_same, a4.ext0 e5, q4.2⟩
        refine upd_keep H4 (fun z => nDR (by rw [← z]; exact ha)) (e24.held a (by rw [eR]; exact List.mem_cons_of_mem _ ha) o (hR a ha o h))
      | false =>
        exact iteF ⟨φ3, S3, acc, xs, ok3, e23.toExt0, by rw [e23.res, eR], fun a ha o h => e23.held a (by rw [eR]; exact List.mem_cons_of_mem _ ha) o (hR a ha o h), e23.held D inD _ hx, hacc.ext e23, (if_neg Bool.false_ne_true).mp q3⟩
  · have ei : i = ds.length := by omega
    subst ei
    rw [List.drop_length] at q
    refine .inl ⟨it.stop H' φ' S' ok' f' q.1, ?_⟩
    obtain ⟨L', R'⟩ := φ'
    have eR' : R' = D :: φ1.R := eR
    subst eR'
    have e6 : Ext0 ⟨L', D :: φ1.R⟩ H' ⟨L', φ1.R⟩ H' := Ext0.popR (φ := ⟨L', φ1.R⟩)
    have e7 : Ext φ1 H1 ⟨L', φ1.R⟩ H' := ⟨e'.trans e6, rfl, hR⟩
    refine c (.ref D) H' ⟨L', φ1.R⟩ (.lst acc) S' ok'.popR (e1.trans e7) ⟨D, xs, rfl, .inl ⟨.inl hx, fun z => ?_⟩, hacc.ext0 e6⟩ q.2
    rcases z with z | z
    · exact (ok'.res D List.mem_cons_self).2 z
    · exact nDR z
/-- tests of a comprehension -/
def DTs (X : Cx) (G : GX) (ifs : List Expr) (t : DTT) : Prop := PTs X ifs (liftT X.K G t)
def dYes : DTT := fun _ S Q => Q true S
theorem dts_nil : DTs X G [] dYes := ⟨fun pins s σ H Q I h => pts_nil.run pins s σ H Q I (let ⟨φ, ρ, S, QD, r, h, c⟩ := h; c true H φ S r.sto .refl h)⟩
theorem dts_one {c : Expr} {t : DTT} (h : DT X G c t) : DTs X G [c] t := pts_one h
variable {elt tg iter : Expr} {ifs : List Expr} {scope : Scope} {own : List (Str × Nat)} {ti : DTI} {T : Tg} {tt : DTT}
theorem de_lc (own : List (Str × Nat)) (hc : X.calm = true) (hN : X.N.Nodup) (hi : DI X G tg iter ti) (ok : BlkOk X.N X.env.scope scope own)
    (hg : ∀ (s : Shared) (H : Hp) (C : Addr) (cl : List (Str × Addr)) (fp : List Addr), DG (X.blk s H scope (compEnvC scope cl C X.env) fp) GX.tt tg T) (ht : ∀ (s : Shared) (H : Hp) (C : Addr) (cl : List (Str × Addr)) (fp : List Addr), DTs (X.blk s H scope (compEnvC scope cl C X.env) fp) GX.tt ifs tt)
    (he : ∀ (s : Shared) (H : Hp) (C : Addr) (cl : List (Str × Addr)) (fp : List Addr), DE (X.blk s H scope (compEnvC scope cl C X.env) fp) GX.tt elt te) (hv : ∀ i ∈ slotsT T, i ∈ own.map (·.2) := by decide) (hs : ∀ x, foldedSetIterable iter X.env x = pure x := by intro _; rfl) :
    DE X G (.ListComp elt [⟨tg, iter, ifs, 0⟩] scope pos) (dLc ti T tt te (own.map (·.2))) := (pe_lc (wi := liftI X.K G ti) (g := gT X.K T) (tt := liftT X.K GX.tt tt) (te := lift X.K GX.tt te) hc hN hi ok hg ht he hs).weak (lc_weak hv)
theorem ds_setLc (i : Nat) (own : List (Str × Nat)) {y : Str} {py spos : Pos} (hc : X.calm = true) (hN : X.N.Nodup) (hi : DI X G tg iter ti) (ok : BlkOk X.N X.env.scope scope own)
    (hg : ∀ (s : Shared) (H : Hp) (C : Addr) (cl : List (Str × Addr)) (fp : List Addr), DG (X.blk s H scope (compEnvC scope cl C X.env) fp) GX.tt tg T) (ht : ∀ (s : Shared) (H : Hp) (C : Addr) (cl : List (Str × Addr)) (fp : List Addr), DTs (X.blk s H scope (compEnvC scope cl C X.env) fp) GX.tt ifs tt)
    (he : ∀ (s : Shared) (H : Hp) (C : Addr) (cl : List (Str × Addr)) (fp : List Addr), DE (X.blk s H scope (compEnvC scope cl C X.env) fp) GX.tt elt te)
    (hsw : swapsWith (.ListComp elt [⟨tg, iter, ifs, 0⟩] scope pos) (some (.Name y py)) spos.line X.env = pure true) (hy : X.N[i]? = some y := by rfl) (hyl : X.env.scope.names.lookup y = some .local := by rfl)
    (hv : ∀ i ∈ slotsT T, i ∈ own.map (·.2) := by decide) (hs : ∀ x, foldedSetIterable iter X.env x = pure x := by intro _; rfl) :
    DS X G (.Assign [.Name y py] (.ListComp elt [⟨tg, iter, ifs, 0⟩] scope pos) spos) (sAsg (dLc ti T tt te (own.map (·.2))) (.nm i)) := by
  refine (ps_setLc (wi := liftI X.K G ti) (g := gT X.K T) (tt := liftT X.K GX.tt tt) (te := lift X.K GX.tt te) hc hN hy hyl hsw hi ok hg ht he hs).weak fun D σ H h => ?_
  obtain ⟨φ, ρ, S, DD, r, h, c⟩ := h
  refine lc_weak (G := G) hv σ H _ ⟨φ, ρ, S, _, r, h, fun v H1 φ1 d S1 ok1 e1 i1 q1 => ?_⟩
  exact bound_run (T := .nm i) q1 (r.ext ok1 e1) i1 (fun i hi => hi) fun ρ' σ' k r' _ => c.nx σ' H1 φ1 ρ' S1 r' e1 k

/-! ### displays -/
theorem Is.newTup {K : PySem.W.Frag} {H : Hp} {φ : Phi} {p : Addr} {xs : List V} {ds : List D} (n : H p = none) (h : IsL K H φ ds xs) : Is K (upd H p (.tup xs)) φ (.tup ds) (.ref p) := ⟨p, xs, rfl, .inl (.inl upd_same), h.ext (Ext.fresh n)⟩
theorem Is.newLst {K : PySem.W.Frag} {H : Hp} {φ : Phi} {S : Sto} {p : Addr} {xs : List V} {ds : List D} (ok : StoOk K H φ S) (n : H p = none) (h : IsL K H φ ds xs) : Is K (upd H p (.lst xs)) φ (.lst ds) (.ref p) := ⟨p, xs, rfl, .inl ⟨.inl upd_same, ok.notIn n⟩, h.ext (Ext.fresh n)⟩
variable {es : List Expr} {ta : DTA}
def dTup (t : DTA) : DTE := fun ρ S Q => t ρ S fun ds S1 => ds.length ≤ sizeLine ∧ Q (.tup ds) S1
def dLst (t : DTA) : DTE := fun ρ S Q => t ρ S fun ds S1 => ds.length ≤ sizeLine ∧ Q (.lst ds) S1
/-- a list that is to be changed -/
def dLstM (t : DTA) : DTE := fun ρ S Q => t ρ S fun ds S1 => ds.length ≤ sizeLine ∧ Q (.ref S1.length) (S1 ++ [.lst ds])
theorem de_tup {k : Nat} (h : DA X G es ta) : DE X G (.Tuple es k pos) (dTup ta) := by
  refine (pe_tup h).weak fun σ H Q ⟨φ, ρ, S, QD, r, h, c⟩ => ?_
  refine ⟨φ, ρ, S, _, r, h, fun vs H1 φ1 ds S1 ok1 e1 i1 q1 => ⟨by rw [← i1.length]; exact q1.1, fun p hp => ?_⟩⟩
  exact c _ _ φ1 (.tup ds) S1 (ok1.fresh hp) (e1.trans (Ext.fresh hp)) (.newTup hp i1) q1.2
theorem de_lst (h : DA X G es ta) : DE X G (.List es pos) (dLst ta) := by
  refine (pe_lst h).weak fun σ H Q ⟨φ, ρ, S, QD, r, h, c⟩ => ?_
  refine ⟨φ, ρ, S, _, r, h, fun vs H1 φ1 ds S1 ok1 e1 i1 q1 => ⟨by rw [← i1.length]; exact q1.1, fun p hp => ?_⟩⟩
  exact c _ _ φ1 (.lst ds) S1 (ok1.fresh hp) (e1.trans (Ext.fresh hp)) (.newLst ok1 hp i1) q1.2
theorem CQ.alloc {K : PySem.W.Frag} {H H1 : Hp} {φ φ1 : Phi} {S1 : Sto} {QD : DQ} {Q : VK} {p : Addr} {o : HO} {m : MO} (c : CQ K φ H QD Q) (ok1 : StoOk K H1 φ1 S1) (e1 : Ext φ H φ1 H1) (hp : H1 p = none) (hm : MObj K (upd H1 p o) (φ1.add p) p m) (q : QD (.ref S1.length) (S1 ++ [m])) : Q (.ref p) (upd H1 p o) :=
  c _ _ (φ1.add p) (.ref S1.length) _ (ok1.alloc hp hm) (e1.trans (Ext.alloc ok1 hp)) ⟨some p, by rw [← ok1.len]; exact snoc_get, fun a e => by cases e; rfl⟩ q
theorem de_lstM (h : DA X G es ta) : DE X G (.List es pos) (dLstM ta) := by
  refine (pe_lst h).weak fun σ H Q ⟨φ, ρ, S, QD, r, h, c⟩ => ?_
  refine ⟨φ, ρ, S, _, r, h, fun vs H1 φ1 ds S1 ok1 e1 i1 q1 => ⟨by rw [← i1.length]; exact q1.1, fun p hp => ?_⟩⟩
  exact c.alloc (m := .lst ds) ok1 e1 hp ⟨vs, upd_same, i1.ext (Ext.alloc ok1 hp)⟩ q1.2

/-! ### own defs -/
/-- what is wanted of an exception: its class, its fields' values, the store -/
abbrev DXK := Value → List D → Sto → Prop
def PL (K : PySem.W.Frag) (H : Hp) (φ : Phi) (d : Option Addr) (pl : List D) : Prop := pl = [] ∨ ∃ a f v e, d = some a ∧ H a = some (.xd [(f, v)]) ∧ pl = [e] ∧ Is K H φ e v
def CX (K : PySem.W.Frag) (φ : Phi) (H : Hp) (XD : DXK) (E : XK) : Prop := ∀ cls d H' φ' pl S', StoOk K H' φ' S' → Ext φ H φ' H' → PL K H' φ' d pl → XD cls pl S' → E cls d H'
theorem CX.ext {K : PySem.W.Frag} {H H' : Hp} {φ φ' : Phi} {XD : DXK} {E : XK} (c : CX K φ H XD E) (e : Ext φ H φ' H') : CX K φ' H' XD E := fun cls d H2 φ2 pl S2 ok x p q => c cls d H2 φ2 pl S2 ok (e.trans x) p q
def GX.of (K : PySem.W.Frag) (XD : DXK) (E : XK) : GX := ⟨fun φ H => CX K φ H XD E, fun _ _ _ _ e h => h.ext e⟩
abbrev DSp := List D → Sto → DQ → DXK → Prop
def liftSp (K : PySem.W.Frag) (sp : DSp) : Sp := fun vs H Q E => ∃ φ ds S QD XD, StoOk K H φ S ∧ IsL K H φ ds vs ∧ sp ds S QD XD ∧ CQ K φ H QD Q ∧ CX K φ H XD E
def X0 : DXK := fun _ _ _ => False
theorem CX.zero {K : PySem.W.Frag} {H : Hp} {φ : Phi} {E : XK} : CX K φ H X0 E := fun _ _ _ _ _ _ _ _ _ h => h.elim
/-- f(..) -/
def dCall (sp : DSp) (XD : DXK) (t : DTA) : DTE := fun ρ S Q => t ρ S fun ds S1 => sp ds S1 Q XD
section
variable {k : Nat} {f : Addr} {fd : FuncData} {ps : List Str} {sp : DSp} {x : Str} {p : Pos}
/-- a call of a def that lets no exception out -/
theorem de_call (F : FnOk X.prog X.w X.K X.mg X.base CX0 k f fd ps (liftSp X.K sp)) (hr : Room k X.A) (hm : X.mg x = some (.ref f)) (hk : PySem.W.keepIn X.K (.ref f) = true) (hb : Binds X.K fd ps []) (ha : DA X G (e :: es) ta)
    (hg : Gl X x := by rfl) (hdb : (x == ("__debug__" : Str)) = false := by decide) (he : starEach (e :: es) X.env = (false, eval e X.env) :: starEach es X.env := by rfl) (hpl : (backTo pos (starEach es X.env)).any (·.1) = false := by rfl) :
    DE X G (.Call (.Name x p) (e :: es) [] pos) (dCall sp X0 ta) := by
  refine (pe_call F hr hg hm hk hb .nil pass0 ha hdb he hpl).weak fun σ H Q ⟨φ, ρ, S, QD, r, h, c⟩ => ?_
  refine ⟨φ, ρ, S, _, r, h, fun vs H1 φ1 ds S1 ok1 e1 i1 q1 => ?_⟩
  show liftSp X.K sp (vs ++ []) H1 Q E0
  rw [List.append_nil]
  exact ⟨φ1, ds, S1, QD, X0, ok1, i1, q1, c.ext e1, .zero⟩
/-- a call of a def that may let one out, where XD is what this def wants of exceptions -/
theorem de_callX {CXf : CXT} {XD : DXK} {E : XK} (F : FnOk X.prog X.w X.K X.mg X.base CXf k f fd ps (liftSp X.K sp)) (hx : Passes CXf X E) (hr : Room k X.A) (hm : X.mg x = some (.ref f)) (hk : PySem.W.keepIn X.K (.ref f) = true) (hb : Binds X.K fd ps []) (ha : DA X (GX.of X.K XD E) (e :: es) ta)
    (hg : Gl X x := by rfl) (hdb : (x == ("__debug__" : Str)) = false := by decide) (he : starEach (e :: es) X.env = (false, eval e X.env) :: starEach es X.env := by rfl) (hpl : (backTo pos (starEach es X.env)).any (·.1) = false := by rfl) :
    DE X (GX.of X.K XD E) (.Call (.Name x p) (e :: es) [] pos) (dCall sp XD ta) := by
  refine (pe_call F hr hg hm hk hb .nil hx ha hdb he hpl).weak fun σ H Q ⟨φ, ρ, S, QD, r, h, c⟩ => ?_
  refine ⟨φ, ρ, S, _, r, h, fun vs H1 φ1 ds S1 ok1 e1 i1 q1 => ?_⟩
  show liftSp X.K sp (vs ++ []) H1 Q E
  rw [List.append_nil]
  exact ⟨φ1, ds, S1, QD, XD, ok1, i1, q1, c.ext e1, CX.ext r.g e1⟩
end

/-! ### a def's body -/
/-- the slots at the entry -/
def startD (n : Nat) (ds : List D) : Env := ds.map some ++ List.replicate (n - ds.length) none
theorem rel_start {K : PySem.W.Frag} {G : GX} {H : Hp} {φ : Phi} {S : Sto} {ds : List D} {vs : List V} {N : List Str} (ok : StoOk K H φ S) (h : IsL K H φ ds vs) (g : G.p φ H) : Rel K G (L2.start N vs) H φ (startD N.length ds) S := by
  refine ⟨ok, ?_, fun i d e => ?_, g⟩
  · unfold startD L2.start
    rw [List.length_append, List.length_map, List.length_replicate, List.length_append, List.length_map, List.length_replicate, h.length]
    exact Nat.le_refl _
  · unfold startD at e
    by_cases hi : i < ds.length
    · rw [List.getElem?_append_left (by simpa using hi), List.getElem?_map] at e
      cases q : ds[i]? with
      | none => rw [q] at e; cases e
      | some d' =>
        rw [q] at e
        cases e
        obtain ⟨x, h1, h2⟩ := h.get q
        refine ⟨x, ?_, h2⟩
        unfold L2.start
        rw [List.getElem?_append_left (by rw [List.length_map, ← h.length]; exact hi), List.getElem?_map, h1]
        rfl
    · rw [List.getElem?_append_right (by simpa using hi), List.getElem?_replicate] at e
      split at e <;> cases e
mutual
/-- it knows of the store's first n things alone -/
def D.ltn (n : Nat) : D → Bool
  | .ref m => decide (m < n)
  | .tup ds => ltnL n ds
  | .lst ds => ltnL n ds
  | .dK _ ds => ltnL n ds
  | .dT _ ds => ltnL n ds
  | .non => true
  | .bl _ => true
  | .int _ => true
  | .str _ => true
  | .ty _ => true
  | .glob _ => true
def ltnL (n : Nat) : List D → Bool
  | [] => true
  | d :: ds => d.ltn n && ltnL n ds
end
theorem ltnL_all (n : Nat) : ∀ ds : List D, ltnL n ds = ds.all (fun d => d.ltn n)
  | [] => rfl
  | d :: ds => by simp [ltnL, ltnL_all n ds]
theorem ltnL_map {α : Type} {n : Nat} {f : α → D} {l : List α} (h : ∀ x ∈ l, (f x).ltn n = true) : ltnL n (l.map f) = true := by
  rw [ltnL_all, List.all_map, List.all_eq_true]
  exact h
theorem ltnL_append (n : Nat) (a b : List D) : ltnL n (a ++ b) = (ltnL n a && ltnL n b) := by
  rw [ltnL_all, ltnL_all, ltnL_all, List.all_append]
def MO.ltn (n : Nat) : MO → Bool
  | .gone => true
  | .lst ds => ltnL n ds
  | .dK _ ds => ltnL n ds
  | .dT _ ds => ltnL n ds
  | .ins _ _ ds => ltnL n ds
section
variable {K : PySem.W.Frag} {H : Hp} {φ φ' : Phi}
mutual
theorem Is.ltn : ∀ (d : D) (v : V), Is K H φ d v → d.ltn φ.L.length = true
  | .non, _, _ => rfl
  | .bl _, _, _ => rfl
  | .int _, _, _ => rfl
  | .str _, _, _ => rfl
  | .ty _, _, _ => rfl
  | .glob _, _, _ => rfl
  | .ref n, v, h => by
    obtain ⟨o, h1, _⟩ := h
    simp only [D.ltn, decide_eq_true_eq]
    exact (List.getElem?_eq_some_iff.mp h1).1
  | .tup ds, v, h => by obtain ⟨a, xs, h1, h2, h3⟩ := h; exact IsL.ltn ds xs h3
  | .lst ds, v, h => by obtain ⟨a, xs, h1, h2, h4⟩ := h; exact IsL.ltn ds xs h4
  | .dK ks ds, v, h => by obtain ⟨a, xs, h1, h2, h3, h5, h4⟩ := h; exact IsL.ltn ds xs h4
  | .dT ks ds, v, h => by obtain ⟨a, xs, h1, h2, h3, h5, h4⟩ := h; exact IsL.ltn ds xs h4
theorem IsL.ltn : ∀ (ds : List D) (xs : List V), IsL K H φ ds xs → ltnL φ.L.length ds = true
  | [], _, _ => rfl
  | d :: ds, xs, h => by
    obtain ⟨x, r, h1, h2, h3⟩ := h
    simp only [ltnL, Bool.and_eq_true]
    exact ⟨Is.ltn d x h2, IsL.ltn ds r h3⟩
end
theorem MObj.ltn {a : Addr} {m : MO} (h : MObj K H φ a m) : m.ltn φ.L.length = true := by
  cases m with
  | gone => rfl
  | lst _ => obtain ⟨xs, q, r⟩ := h; exact IsL.ltn _ _ r
  | dK _ _ => obtain ⟨xs, q, l, r⟩ := h; exact IsL.ltn _ _ r
  | dT _ _ => obtain ⟨xs, q, l, r⟩ := h; exact IsL.ltn _ _ r
  | ins _ _ _ => obtain ⟨dx, xs, q, l, r⟩ := h; exact IsL.ltn _ _ r
theorem cut_has {n : Nat} {a : Addr} (h : (Phi.mk (φ.L.take n) φ.R).has a) : φ.has a := h.imp List.mem_of_mem_take fun z => z
mutual
theorem Is.cut (n : Nat) : ∀ (d : D) (v : V), d.ltn n = true → Is K H φ d v → Is K H ⟨φ.L.take n, φ.R⟩ d v
  | .non, _, _, h => h
  | .bl _, _, _, h => h
  | .int _, _, _, h => h
  | .str _, _, _, h => h
  | .ty _, _, _, h => h
  | .glob _, _, _, h => h
  | .ref m, _, c, h => by
    obtain ⟨o, h1, h2⟩ := h
    exact ⟨o, by show (φ.L.take n)[m]? = _; rw [List.getElem?_take_of_lt (by simpa [D.ltn] using c)]; exact h1, h2⟩
  | .tup ds, v, c, h => by
    obtain ⟨a, xs, h1, h2, h3⟩ := h
    exact ⟨a, xs, h1, h2, IsL.cut n ds xs (by simpa [D.ltn] using c) h3⟩
  | .lst ds, v, c, h => by
    obtain ⟨a, xs, h1, h2, h4⟩ := h
    exact ⟨a, xs, h1, h2.imp (fun z => ⟨z.1, fun y => z.2 (cut_has y)⟩) fun z => z, IsL.cut n ds xs (by simpa [D.ltn] using c) h4⟩
  | .dK ks ds, v, c, h => by
    obtain ⟨a, xs, h1, h2, h3, h5, h4⟩ := h
    exact ⟨a, xs, h1, h2, fun z => h3 (cut_has z), h5, IsL.cut n ds xs (by simpa [D.ltn] using c) h4⟩
  | .dT ks ds, v, c, h => by
    obtain ⟨a, xs, h1, h2, h3, h5, h4⟩ := h
    exact ⟨a, xs, h1, h2, fun z => h3 (cut_has z), h5, IsL.cut n ds xs (by simpa [D.ltn] using c) h4⟩
theorem IsL.cut (n : Nat) : ∀ (ds : List D) (xs : List V), ltnL n ds = true → IsL K H φ ds xs → IsL K H ⟨φ.L.take n, φ.R⟩ ds xs
  | [], _, _, h => h
  | d :: ds, xs, c, h => by
    obtain ⟨x, r, h1, h2, h3⟩ := h
    simp only [ltnL, Bool.and_eq_true] at c
    exact ⟨x, r, h1, Is.cut n d x c.1 h2, IsL.cut n ds r c.2 h3⟩
end
theorem MObj.cut {n : Nat} {a : Addr} {m : MO} (c : m.ltn n = true) (h : MObj K H φ a m) : MObj K H ⟨φ.L.take n, φ.R⟩ a m := by
  cases m with
  | gone => exact h
  | lst _ => obtain ⟨xs, q, r⟩ := h; exact ⟨xs, q, IsL.cut n _ _ c r⟩
  | dK _ _ => obtain ⟨xs, q, l, r⟩ := h; exact ⟨xs, q, l, IsL.cut n _ _ c r⟩
  | dT _ _ => obtain ⟨xs, q, l, r⟩ := h; exact ⟨xs, q, l, IsL.cut n _ _ c r⟩
  | ins _ _ _ => obtain ⟨dx, xs, q, l, r⟩ := h; exact ⟨dx, xs, q, l, IsL.cut n _ _ c r⟩
/-- what stood in S, and what S' has in its place, know of S's things alone -/
def Kept (S S' : Sto) : Prop := ∀ (i : Nat) (m : MO), i < S.length → S'[i]? = some m → S[i]? = some m ∨ m.ltn S.length = true
theorem Kept.app (S T : Sto) : Kept S (S ++ T) := fun i m hi h => by
  rw [List.getElem?_append_left hi] at h; exact .inl h
theorem Kept.self (S : Sto) : Kept S S := fun _ _ _ h => .inl h
theorem Ext.cut {S : Sto} {H0 : Hp} {φ0 : Phi} (ok0 : StoOk K H0 φ0 S) (e : Ext φ0 H0 φ H) : Ext φ0 H0 ⟨φ.L.take S.length, φ.R⟩ H := by
  refine ⟨⟨fun a o h n => ⟨(e.keep a o h n).1, fun z => (e.keep a o h n).2 (cut_has z)⟩, fun i o h => ?_, e.tups⟩, e.res, e.held⟩
  have hi : i < S.length := by rw [← ok0.len]; exact (List.getElem?_eq_some_iff.mp h).1
  show (φ.L.take S.length)[i]? = _ ∨ (φ.L.take S.length)[i]? = _
  rw [List.getElem?_take_of_lt hi]
  exact e.ref i o h
theorem StoOk.cutS {S S' : Sto} {H0 : Hp} {φ0 : Phi} (ok0 : StoOk K H0 φ0 S) (ok : StoOk K H φ S') (k : Kept S S') : StoOk K H ⟨φ.L.take S.length, φ.R⟩ (S'.take S.length) := by
  refine ok.cut S.length fun i m hi h a q => ?_
  rcases k i m hi h with z | z
  · rcases ok0.obj i m z with ⟨rfl, _⟩ | ⟨b, _, r⟩
    · exact q.elim
    · exact MObj.cut (by rw [← ok0.len]; exact r.ltn) q
  · exact MObj.cut z q
end
/-- a thing of the store (from n on) is handed out as a value -/
def fin (S : Sto) : D → Option D
  | .ref m => match S[m]? with
    | some (.lst ds) => some (.lst ds)
    | some (.dK ks ds) => some (.dK ks ds)
    | some (.dT ks ds) => some (.dT ks ds)
    | _ => none
  | d => some d
/-- a def's end: as it is, or with what it made let go -/
def RT (S : Sto) (QD : DQ) : DQ := fun d S' => QD d S' ∨ (Kept S S' ∧ ∃ r, ((d.ltn S.length = true ∧ r = d) ∨ (∃ m, d = .ref m ∧ S.length ≤ m ∧ fin S' d = some r ∧ r.ltn S.length = true)) ∧ QD r (S'.take S.length))
theorem CQ.rt {K : PySem.W.Frag} {H : Hp} {φ : Phi} {S : Sto} {QD : DQ} {Q : VK} (ok0 : StoOk K H φ S) (c : CQ K φ H QD Q) : CQ K φ H (RT S QD) Q := by
  intro v H' φ' d S' ok e i q
  rcases q with q | ⟨kp, r, q1, q2⟩
  · exact c v H' φ' d S' ok e i q
  · refine c v H' ⟨φ'.L.take S.length, φ'.R⟩ r (S'.take S.length) (ok0.cutS ok kp) (Ext.cut ok0 e) ?_ q2
    rcases q1 with ⟨q1, rfl⟩ | ⟨m, rfl, hm, q1, q3⟩
    · exact Is.cut _ _ _ q1 i
    · obtain ⟨o, h1, h2⟩ := i
      have no : ∀ a, o = some a → ¬ (Phi.mk (φ'.L.take S.length) φ'.R).has a := fun a ea z => by
        subst ea
        rcases z with z | z
        · obtain ⟨j, hj, ej⟩ := List.getElem_of_mem z
          have hj2 : j < S.length := by rw [List.length_take] at hj; omega
          have : φ'.L[j]? = some (some a) := by
            rw [← List.getElem?_take_of_lt hj2, List.getElem?_eq_getElem hj, ej]
          have := ok.inj j m a this h1
          omega
        · exact (ok.res a z).2 (List.mem_of_getElem? h1)
      unfold fin at q1
      simp only at q1
      split at q1
      · rename_i ds es
        rcases ok.obj m _ es with ⟨z, _⟩ | ⟨a, ea, xs, hx, hl⟩
        · cases z
        · cases q1
          rw [h1] at ea
          have eo : o = some a := Option.some.inj ea
          have := h2 a eo
          subst this
          exact ⟨a, xs, rfl, .inl ⟨.inl hx, no a eo⟩, IsL.cut _ _ _ (by simpa [D.ltn] using q3) hl⟩
      · rename_i ks ds es
        rcases ok.obj m _ es with ⟨z, _⟩ | ⟨a, ea, xs, hx, hkl, hl⟩
        · cases z
        · cases q1
          rw [h1] at ea
          have eo : o = some a := Option.some.inj ea
          have := h2 a eo
          subst this
          exact ⟨a, xs, rfl, .inl hx, no a eo, hkl, IsL.cut _ _ _ (by simpa [D.ltn] using q3) hl⟩
      · rename_i ks ds es
        rcases ok.obj m _ es with ⟨z, _⟩ | ⟨a, ea, xs, hx, hkl, hl⟩
        · cases z
        · cases q1
          rw [h1] at ea
          have eo : o = some a := Option.some.inj ea
          have := h2 a eo
          subst this
          exact ⟨a, xs, rfl, .inl hx, no a eo, hkl, IsL.cut _ _ _ (by simpa [D.ltn] using q3) hl⟩
      · cases q1
section
variable {P : Program} {w : World} {K : PySem.W.Frag} {mg : Str → Option Value} {base : Heap}
/-- THE RULE for a def that lets no exception out -/
theorem dfn {x qual : Str} {st : Stmt} {f : Addr} {fd : FuncData} {N ps : List Str} {k n : Nat} {sp : DSp} (F : Fun K x qual st f fd) (Sc : FnScope N ps (defScope st)) (hn : N.length = n) (len : ∀ ds S Q X, sp ds S Q X → ds.length = ps.length)
    (hbody : ∀ (cdv : Value) (A : Around) (outer : List PySem.Env) (s : Shared) (H : Hp) (E : XK), Room k (A.deeper (envOfC qual (defScope st) s.heap.objs.size f cdv)) →
      ∃ t, DSs (cxOf CX0 P w K mg base N qual (defScope st) f cdv A outer s H E).nox GX.tt (defBody st) t ∧
        ∀ ds S QD, sp ds S QD X0 → t { nx := fun _ S' => RT S QD .non S', rt := RT S QD } (startD n ds) S) (sx : ∀ ds S QD XD, sp ds S QD XD → sp ds S QD X0) : FnOk P w K mg base CX0 (k + 1) f fd ps (liftSp K sp) := by
  refine F.ok Sc (fun vs H Q E h => ?_) fun cdv A outer s H vs Q E hr h => ?_
  · obtain ⟨φ, ds, S, QD, XD, ok, hl, h, _⟩ := h
    rw [← hl.length]
    exact len _ _ _ _ h
  · obtain ⟨φ, ds, S, QD, XD, ok, hl, h, c, _⟩ := h
    obtain ⟨t, ht, hq⟩ := hbody cdv A outer s H E hr
    refine ⟨_, ht, φ, startD n ds, S, _, hn ▸ rel_start ok hl trivial, hq ds S QD (sx _ _ _ _ h), ⟨?_, c.rt ok, fun _ _ _ _ _ _ _ z => z.elim, fun _ _ _ _ _ _ _ z => z.elim⟩⟩
    intro σ' H' φ' ρ' S' r' e' q'
    exact (c.rt ok) .non H' φ' .non S' r'.sto e' rfl q'
/-- .. for a def that may let one out -/
theorem dfnX {x qual : Str} {st : Stmt} {f : Addr} {fd : FuncData} {N ps : List Str} {k n : Nat} {sp : DSp} (F : Fun K x qual st f fd) (Sc : FnScope N ps (defScope st)) (hn : N.length = n) (len : ∀ ds S Q X, sp ds S Q X → ds.length = ps.length)
    (hbody : ∀ (cdv : Value) (A : Around) (outer : List PySem.Env) (s : Shared) (H : Hp) (E : XK), Room k (A.deeper (envOfC qual (defScope st) s.heap.objs.size f cdv)) →
      ∀ XD, ∃ t, DSs (cxOf (L2.CX P w) P w K mg base N qual (defScope st) f cdv A outer s H E) (GX.of K XD E) (defBody st) t ∧
        ∀ ds S QD, sp ds S QD XD → t { nx := fun _ S' => RT S QD .non S', rt := RT S QD } (startD n ds) S) : FnOk P w K mg base (L2.CX P w) (k + 1) f fd ps (liftSp K sp) := by
  refine F.okX Sc (fun vs H Q E h => ?_) fun cdv A outer s H vs Q E hr h => ?_
  · obtain ⟨φ, ds, S, QD, XD, ok, hl, h, _⟩ := h
    rw [← hl.length]
    exact len _ _ _ _ h
  · obtain ⟨φ, ds, S, QD, XD, ok, hl, h, c, cx⟩ := h
    obtain ⟨t, ht, hq⟩ := hbody cdv A outer s H E hr XD
    refine ⟨_, ht, φ, startD n ds, S, _, hn ▸ rel_start ok hl cx, hq ds S QD h, ⟨?_, c.rt ok, fun _ _ _ _ _ _ _ z => z.elim, fun _ _ _ _ _ _ _ z => z.elim⟩⟩
    intro σ' H' φ' ρ' S' r' e' q'
    exact (c.rt ok) .non H' φ' .non S' r'.sto e' rfl q'
end

/-! ### letting go -/
section
variable {X : Cx} {G : GX} {sts : List Stmt} {t : DTS}
/-- what a block makes is let go behind it; ρ2 forgets what is known of it -/
def Cut (S : Sto) (k : Env → Sto → Prop) : Env → Sto → Prop := fun ρ S' => ∃ ρ2 : Env, Kept S S' ∧ ρ2.length ≤ ρ.length ∧ (∀ (i : Nat) (d : D), ρ2[i]? = some (some d) → ρ[i]? = some (some d) ∧ d.ltn S.length = true) ∧ k ρ2 (S'.take S.length)
def sCut (t : DTS) : DTS := fun D ρ S => t { nx := Cut S D.nx, rt := D.rt, bk := Cut S D.bk, ct := Cut S D.ct } ρ S
theorem CN.cut {K : PySem.W.Frag} {G : GX} {H : Hp} {φ : Phi} {S : Sto} {nd : Env → Sto → Prop} {n : St → Hp → Prop} (ok0 : StoOk K H φ S) (g0 : G.p φ H) (c : CN K G φ H nd n) : CN K G φ H (Cut S nd) n := by
  intro σ' H' φ' ρ' S' r e q
  obtain ⟨ρ2, kp, hl, hρ, q⟩ := q
  have e2 := Ext.cut ok0 e
  refine c σ' H' ⟨φ'.L.take S.length, φ'.R⟩ ρ2 (S'.take S.length) ⟨ok0.cutS r.sto kp, Nat.le_trans hl r.len, fun i d h => ?_, G.st _ _ _ _ e2 g0⟩ e2 q
  obtain ⟨h1, h2⟩ := hρ i d h
  obtain ⟨v, h3, h4⟩ := r.env i d h1
  exact ⟨v, h3, Is.cut _ _ _ h2 h4⟩
theorem dss_cut (h : DSs X G sts t) : DSs X G sts (sCut t) := by
  refine PSs.weak h fun D σ H ⟨φ, ρ, S, DD, r, q, c⟩ => ?_
  exact ⟨φ, ρ, S, _, r, q, ⟨c.nx.cut r.sto r.g, c.rt, c.bk.cut r.sto r.g, c.ct.cut r.sto r.g⟩⟩
/-- the thing of the store in slot i is a value from here on -/
def sFrz (i : Nat) (t : DTS) : DTS := fun D ρ S => match ρ[i]? with
  | some (some (.ref m)) => match fin S (.ref m) with
    | some r => t D (ρ.set i (some r)) (S.set m .gone)
    | none => False
  | _ => False
theorem rel_frz {K : PySem.W.Frag} {G : GX} {σ : St} {H : Hp} {φ : Phi} {ρ : Env} {S : Sto} {i m : Nat} {r : D} (R : Rel K G σ H φ ρ S) (h : ρ[i]? = some (some (.ref m))) (hf : fin S (.ref m) = some r) : Rel K G σ H (φ.drop m) (ρ.set i (some r)) (S.set m .gone) := by
  have e : Ext φ H (φ.drop m) H := Ext.letGo
  refine ⟨R.sto.letGo m, by simpa using R.len, fun j d q => ?_, G.st _ _ _ _ e R.g⟩
  by_cases hj : j = i
  · subst hj
    have hl : j < ρ.length := (List.getElem?_eq_some_iff.mp h).1
    rw [List.getElem?_set_self hl] at q
    cases q
    obtain ⟨v, h1, o, h2, h3⟩ := R.env j _ h
    refine ⟨v, h1, ?_⟩
    have no : ∀ a, o = some a → ¬ (φ.drop m).has a := fun a ea z => by
      subst ea
      rcases z with z | z
      · obtain ⟨k, hk, ek⟩ := List.getElem_of_mem z
        have hk' : (φ.L.set m none)[k]? = some (some a) := by
          have q : (φ.drop m).L[k]? = some (some a) := by rw [List.getElem?_eq_getElem hk, ek]
          exact q
        by_cases hkm : k = m
        · subst hkm
          rw [List.getElem?_set_self (List.getElem?_eq_some_iff.mp h2).1] at hk'; cases hk'
        · rw [List.getElem?_set_ne (Ne.symm hkm)] at hk'
          exact hkm (R.sto.inj k m a hk' h2)
      · exact (R.sto.res a z).2 (List.mem_of_getElem? h2)
    unfold fin at hf
    simp only at hf
    split at hf
    · rename_i ds es
      rcases R.sto.obj m _ es with ⟨z, _⟩ | ⟨a, ea, xs, hx, hl⟩
      · cases z
      · cases hf
        rw [h2] at ea
        have eo : o = some a := Option.some.inj ea
        have := h3 a eo
        subst this
        exact ⟨a, xs, rfl, .inl ⟨.inl hx, no a eo⟩, hl.ext e⟩
    · rename_i ks ds es
      rcases R.sto.obj m _ es with ⟨z, _⟩ | ⟨a, ea, xs, hx, hkl, hl⟩
      · cases z
      · cases hf
        rw [h2] at ea
        have eo : o = some a := Option.some.inj ea
        have := h3 a eo
        subst this
        exact ⟨a, xs, rfl, .inl hx, no a eo, hkl, hl.ext e⟩
    · rename_i ks ds es
      rcases R.sto.obj m _ es with ⟨z, _⟩ | ⟨a, ea, xs, hx, hkl, hl⟩
      · cases z
      · cases hf
        rw [h2] at ea
        have eo : o = some a := Option.some.inj ea
        have := h3 a eo
        subst this
        exact ⟨a, xs, rfl, .inl hx, no a eo, hkl, hl.ext e⟩
    · cases hf
  · rw [List.getElem?_set_ne (Ne.symm hj)] at q
    obtain ⟨v, h1, h2⟩ := R.env j d q
    exact ⟨v, h1, h2.ext e⟩
theorem dss_frz (i : Nat) (h : DSs X G sts t) : DSs X G sts (sFrz i t) := by
  refine PSs.weak h fun D σ H ⟨φ, ρ, S, DD, r, q, c⟩ => ?_
  unfold sFrz at q
  split at q
  · rename_i m em
    split at q
    · rename_i r' er
      exact ⟨φ.drop m, _, _, DD, rel_frz r em er, q, c.ext Ext.letGo⟩
    · exact q.elim
  · exact q.elim
end
end
end DL

/-! DL3: operators, built-ins and methods over data. -/
namespace DL
open PySem PySem.Spec L2
open PyProof.Rows hiding St

/-! ### what may be read as a list -/
def asL (S : Sto) : D → Option (List D)
  | .lst ds => some ds
  | .ref n => match S[n]? with
    | some (.lst ds) => some ds
    | _ => none
  | _ => none
/-- a list as a value -/
def vw (S : Sto) : D → D
  | .ref n => match S[n]? with
    | some (.lst ds) => .lst ds
    | _ => .ref n
  | d => d
section
variable {K : PySem.W.Frag} {H : Hp} {φ : Phi} {S : Sto}
theorem asL_is {d : D} {v : V} {ds : List D} (ok : StoOk K H φ S) (h : asL S d = some ds) (i : Is K H φ d v) : ∃ a xs, v = .ref a ∧ SqL K H a xs ∧ IsL K H φ ds xs := by
  cases d with
  | lst es =>
    simp only [asL, Option.some.injEq] at h
    subst h
    obtain ⟨a, xs, h1, h2, h4⟩ := i
    exact ⟨a, xs, h1, h2.sq, h4⟩
  | ref n =>
    simp only [asL] at h
    split at h
    · rename_i es e
      cases h
      obtain ⟨a, h1, xs, h2, h3⟩ := ok.at e (fun z => nomatch z)
      obtain ⟨o, h4, h5⟩ := i
      rw [h1] at h4
      cases h4
      exact ⟨a, xs, h5 a rfl, .of h2, h3⟩
    · cases h
  | _ => simp [asL] at h

/-! ### plain data: ==, in -/
mutual
def toP : D → PyData
  | .bl b => .bool b
  | .int i => .int i
  | .str l => .str (sx l)
  | .tup ds => .tuple (toPs ds)
  | .lst ds => .list (toPs ds)
  | _ => .none
def toPs : List D → List PyData
  | [] => []
  | d :: ds => toP d :: toPs ds
end
mutual
/-- plain data, nested at most n deep -/
def okd : Nat → D → Bool
  | _, .non => true
  | _, .bl _ => true
  | _, .int _ => true
  | _, .str _ => true
  | n + 1, .tup ds => okds n ds
  | n + 1, .lst ds => okds n ds
  | _, _ => false
def okds : Nat → List D → Bool
  | _, [] => true
  | n, d :: ds => okd n d && okds n ds
end
theorem okds_all (n : Nat) : ∀ ds : List D, okds n ds = ds.all (okd n)
  | [] => rfl
  | d :: ds => by simp [okds, okds_all n ds]
theorem okds_map {α : Type} {n : Nat} {f : α → D} {l : List α} (h : ∀ x ∈ l, okd n (f x) = true) : okds n (l.map f) = true := by
  rw [okds_all, List.all_map, List.all_eq_true]
  exact h
theorem toPs_map (ds : List D) : toPs ds = ds.map toP := by
  induction ds with
  | nil => rfl
  | cons d ds ih => simp [toPs, ih]
mutual
theorem okd_dp : ∀ (n : Nat) (d : D) (v : V), okd n d = true → Is K H φ d v → Dp K H v (toP d) ∧ (toP d).canLay0 = true ∧ (toP d).depth ≤ n
  | n, .non, v, _, i => by cases i; exact ⟨.non, rfl, by simp [toP, PyData.depth]⟩
  | n, .bl b, v, _, i => by cases i; exact ⟨.bl b, rfl, by simp [toP, PyData.depth]⟩
  | n, .int z, v, _, i => by cases i; exact ⟨.int z, rfl, by simp [toP, PyData.depth]⟩
  | n, .str l, v, _, i => by
    obtain ⟨rfl, hc⟩ := i
    refine ⟨.str _, ?_, by simp [toP, PyData.depth]⟩
    simp only [toP, PyData.canLay0]
    show (sx l).cps.all (· < 0x110000) = true
    simp only [sx, List.all_toArray, List.all_eq_true, decide_eq_true_eq]
    exact hc
  | 0, .tup ds, v, h, _ => by simp [okd] at h
  | n + 1, .tup ds, v, h, i => by
    obtain ⟨a, xs, rfl, hs, hl⟩ := i
    obtain ⟨h1, h2, h3⟩ := okds_dp n ds xs (by simpa [okd] using h) hl
    exact ⟨.tup hs h1, by simpa [toP, PyData.canLay0] using h2, by simp only [toP, PyData.depth]; omega⟩
  | 0, .lst ds, v, h, _ => by simp [okd] at h
  | n + 1, .lst ds, v, h, i => by
    obtain ⟨a, xs, rfl, hs, hl⟩ := i
    obtain ⟨h1, h2, h3⟩ := okds_dp n ds xs (by simpa [okd] using h) hl
    exact ⟨.lst hs.sq h1, by simpa [toP, PyData.canLay0] using h2, by simp only [toP, PyData.depth]; omega⟩
  | n, .ty _, v, h, _ => by cases n <;> simp [okd] at h
  | n, .glob _, v, h, _ => by cases n <;> simp [okd] at h
  | n, .ref _, v, h, _ => by cases n <;> simp [okd] at h
  | n, .dK _ _, v, h, _ => by cases n <;> simp [okd] at h
  | n, .dT _ _, v, h, _ => by cases n <;> simp [okd] at h
theorem okds_dp : ∀ (n : Nat) (ds : List D) (xs : List V), okds n ds = true → IsL K H φ ds xs → DpAll K H xs (toPs ds) ∧ PyData.canLayAll0 (toPs ds) = true ∧ PyData.depthAll (toPs ds) ≤ n
  | n, [], xs, _, i => by
    obtain rfl : xs = [] := i
    exact ⟨.nil, rfl, by simp [toPs, PyData.depthAll]⟩
  | n, d :: ds, xs, h, i => by
    obtain ⟨x, r, rfl, i1, i2⟩ := i
    have h' : okd n d = true ∧ okds n ds = true := by simpa [okds] using h
    obtain ⟨a1, a2, a3⟩ := okd_dp n d x h'.1 i1
    obtain ⟨b1, b2, b3⟩ := okds_dp n ds r h'.2 i2
    exact ⟨.cons a1 b1, by simp [toPs, PyData.canLayAll0, a2, b2], by simp only [toPs, PyData.depthAll]; omega⟩
end
/-- .. a list of the store too -/
theorem vw_dp {n : Nat} {d : D} {v : V} (hn : n ≤ 64) (ok : StoOk K H φ S) (h : okd n (vw S d) = true) (i : Is K H φ d v) : Dp K H v (toP (vw S d)) ∧ SeqAt.shaped (toP (vw S d)) = true := by
  have sh : ∀ e : D, (toP e).canLay0 = true ∧ (toP e).depth ≤ n → SeqAt.shaped (toP e) = true := fun e h => by
    show ((toP e).canLay0 && decide ((toP e).depth ≤ 64)) = true
    rw [Bool.and_eq_true]
    exact ⟨h.1, decide_eq_true (by omega)⟩
  have other : vw S d = d → Dp K H v (toP (vw S d)) ∧ SeqAt.shaped (toP (vw S d)) = true := fun e => by
    rw [e] at h ⊢
    obtain ⟨h1, h2⟩ := okd_dp n d v h i
    exact ⟨h1, sh d h2⟩
  cases d with
  | ref m =>
    simp only [vw] at h ⊢
    split at h
    · rename_i es e
      obtain ⟨a, h1, xs, h2, h3⟩ := ok.at e (fun z => nomatch z)
      obtain ⟨o, h4, h5⟩ := i
      rw [h1] at h4
      cases h4
      obtain rfl := h5 a rfl
      cases n with
      | zero => simp [okd] at h
      | succ n =>
        obtain ⟨b1, b2, b3⟩ := okds_dp n es xs (by simpa [okd] using h) h3
        exact ⟨.lst (.of h2) b1, sh (.lst es) ⟨by simpa [toP, PyData.canLay0] using b2, by simp only [toP, PyData.depth]; omega⟩⟩
    · cases n <;> simp [okd] at h
  | _ => exact other rfl
end
def eqD (d e : D) : Bool := PyData.eqv (toP d) (toP e)
section
variable {X : Cx}
def oEq : D2 := fun d e S Q => okd 8 (vw S d) = true ∧ okd 8 (vw S e) = true ∧ Q (.bl (eqD (vw S d) (vw S e))) S
def oNe : D2 := fun d e S Q => okd 8 (vw S d) = true ∧ okd 8 (vw S e) = true ∧ Q (.bl (!eqD (vw S d) (vw S e))) S
theorem o_eq (hu : X.A.units + 64 < cLine) : Op2 X (compareOp .Eq) oEq := ⟨_, op_eqD hu, fun H φ S d e x y QD Q ok i1 i2 h c => by
  obtain ⟨h1, h2, q⟩ := h
  obtain ⟨a1, a2⟩ := vw_dp (by decide) ok h1 i1
  obtain ⟨b1, b2⟩ := vw_dp (by decide) ok h2 i2
  exact ⟨_, _, a1, b1, a2, b2, c _ H φ (.bl _) S ok .refl rfl q⟩⟩
theorem o_ne (hu : X.A.units + 64 < cLine) : Op2 X (compareOp .NotEq) oNe := ⟨_, op_neD hu, fun H φ S d e x y QD Q ok i1 i2 h c => by
  obtain ⟨h1, h2, q⟩ := h
  obtain ⟨a1, a2⟩ := vw_dp (by decide) ok h1 i1
  obtain ⟨b1, b2⟩ := vw_dp (by decide) ok h2 i2
  exact ⟨_, _, a1, b1, a2, b2, c _ H φ (.bl _) S ok .refl rfl q⟩⟩

/-! ### is, is not -/
def isD : D → D → Option Bool
  | .non, .non => some true
  | .non, _ => some false
  | _, .non => some false
  | .bl a, .bl b => some (decide (a = b))
  | _, _ => none
theorem is_non {K : PySem.W.Frag} {H : Hp} {φ : Phi} {d : D} (h : Is K H φ d .non) : d = .non ∨ ∃ n, d = .ref n := by
  cases d with
  | non => exact .inl rfl
  | ref n => exact .inr ⟨n, rfl⟩
  | bl b => cases (show V.non = .bl b from h)
  | int b => cases (show V.non = .int b from h)
  | str b => cases h.1
  | ty b => cases (show V.non = .ty b from h)
  | glob b => cases (show V.non = .ref b from h)
  | tup b => obtain ⟨_, _, z, _⟩ := h; cases z
  | lst b => obtain ⟨_, _, z, _⟩ := h; cases z
  | dK b _ => obtain ⟨_, _, z, _⟩ := h; cases z
  | dT b _ => obtain ⟨_, _, z, _⟩ := h; cases z
/-- x is None -/
def oIsN : D2 := fun d e S Q => match e, d with
  | .non, .ref _ => False
  | .non, .non => Q (.bl true) S
  | .non, _ => Q (.bl false) S
  | _, _ => False
theorem o_isN : Op2 X (compareOp .Is) oIsN := ⟨_, op_isN, fun H φ S d e x y QD Q ok i1 i2 h c => by
  unfold oIsN at h
  split at h
  · exact h.elim
  · cases i1; cases i2; exact ⟨rfl, c _ H φ (.bl _) S ok .refl rfl h⟩
  · rename_i d' _ n1 n2
    cases i2
    refine ⟨rfl, c _ H φ (.bl false) S ok .refl ?_ h⟩
    show V.bl (decide (x = .non)) = .bl false
    rw [decide_eq_false]
    rintro rfl
    rcases is_non i1 with z | ⟨n, z⟩
    · exact n2 z
    · exact n1 n z
  · exact h.elim⟩
def oNotN : D2 := fun d e S Q => match e, d with
  | .non, .ref _ => False
  | .non, .non => Q (.bl false) S
  | .non, _ => Q (.bl true) S
  | _, _ => False
theorem o_notN : Op2 X (compareOp .IsNot) oNotN := ⟨_, op_notN, fun H φ S d e x y QD Q ok i1 i2 h c => by
  unfold oNotN at h
  split at h
  · exact h.elim
  · cases i1; cases i2; exact ⟨rfl, c _ H φ (.bl _) S ok .refl rfl h⟩
  · rename_i d' _ n1 n2
    cases i2
    refine ⟨rfl, c _ H φ (.bl true) S ok .refl ?_ h⟩
    show V.bl (!decide (x = .non)) = .bl true
    rw [decide_eq_false]
    · rfl
    rintro rfl
    rcases is_non i1 with z | ⟨n, z⟩
    · exact n2 z
    · exact n1 n z
  · exact h.elim⟩
/-- is, is not, of bools -/
def oIsB : D2 := fun d e S Q => match d, e with
  | .bl a, .bl b => Q (.bl (decide (a = b))) S
  | _, _ => False
theorem o_isB : Op2 X (compareOp .Is) oIsB := ⟨_, op_isBl, fun H φ S d e x y QD Q ok i1 i2 h c => by
  unfold oIsB at h
  split at h
  · cases i1; cases i2; exact ⟨_, _, rfl, rfl, c _ H φ (.bl _) S ok .refl rfl h⟩
  · exact h.elim⟩
def oNotB : D2 := fun d e S Q => match d, e with
  | .bl a, .bl b => Q (.bl (!decide (a = b))) S
  | _, _ => False
theorem o_notB : Op2 X (compareOp .IsNot) oNotB := ⟨_, op_notBl, fun H φ S d e x y QD Q ok i1 i2 h c => by
  unfold oNotB at h
  split at h
  · cases i1; cases i2; exact ⟨_, _, rfl, rfl, c _ H φ (.bl _) S ok .refl rfl h⟩
  · exact h.elim⟩

/-! ### in, not in -/
/-- one sign in a text -/
def oInC (neg : Bool) : D2 := fun d e S Q => match d, e with
  | .str [c], .str l => Q (.bl (if neg then !decide (c ∈ l) else decide (c ∈ l))) S
  | _, _ => False
theorem o_inC : Op2 X (compareOp .In) (oInC false) := ⟨_, op_in_sign, fun H φ S d e x y QD Q ok i1 i2 h c => by
  unfold oInC at h
  split at h
  · obtain ⟨rfl, _⟩ := i1; obtain ⟨rfl, _⟩ := i2
    exact ⟨_, _, rfl, rfl, c _ H φ (.bl _) S ok .refl rfl h⟩
  · exact h.elim⟩
theorem o_notInC : Op2 X (compareOp .NotIn) (oInC true) := ⟨_, op_notIn_sign, fun H φ S d e x y QD Q ok i1 i2 h c => by
  unfold oInC at h
  split at h
  · obtain ⟨rfl, _⟩ := i1; obtain ⟨rfl, _⟩ := i2
    exact ⟨_, _, rfl, rfl, c _ H φ (.bl _) S ok .refl rfl h⟩
  · exact h.elim⟩
/-- in a list (of any plain data) -/
def oInL (neg : Bool) : D2 := fun d e S Q => match vw S e with
  | .lst ds => okd 8 d = true ∧ okd 8 (.lst ds) = true ∧ Q (.bl (if neg then !ds.any (fun z => eqD z d) else ds.any (fun z => eqD z d))) S
  | _ => False
theorem any_toPs (p : PyData → Bool) (ds : List D) : (toPs ds).any p = ds.any fun z => p (toP z) := by
  rw [toPs_map, List.any_map]; rfl
theorem o_inL (hu : X.A.units + 65 < cLine) : Op2 X (compareOp .In) (oInL false) := ⟨_, op_inD hu, fun H φ S d e x y QD Q ok i1 i2 h c => by
  unfold oInL at h
  split at h
  · rename_i ds ev
    obtain ⟨h1, h2, q⟩ := h
    obtain ⟨a1, a2, a3⟩ := okd_dp 8 d x h1 i1
    obtain ⟨b1, b2⟩ := vw_dp (n := 8) (by decide) ok (by rw [ev]; exact h2) i2
    rw [ev] at b1 b2
    refine ⟨_, _, a1, b1, ?_, b2, ?_⟩
    · show ((toP d).canLay0 && decide ((toP d).depth ≤ 64)) = true
      rw [Bool.and_eq_true]; exact ⟨a2, decide_eq_true (by omega)⟩
    · rw [any_toPs]; exact c _ H φ (.bl _) S ok .refl rfl q
  · exact h.elim⟩
theorem o_notInL (hu : X.A.units + 65 < cLine) : Op2 X (compareOp .NotIn) (oInL true) := ⟨_, op_notInD hu, fun H φ S d e x y QD Q ok i1 i2 h c => by
  unfold oInL at h
  split at h
  · rename_i ds ev
    obtain ⟨h1, h2, q⟩ := h
    obtain ⟨a1, a2, a3⟩ := okd_dp 8 d x h1 i1
    obtain ⟨b1, b2⟩ := vw_dp (n := 8) (by decide) ok (by rw [ev]; exact h2) i2
    rw [ev] at b1 b2
    refine ⟨_, _, a1, b1, ?_, b2, ?_⟩
    · show ((toP d).canLay0 && decide ((toP d).depth ≤ 64)) = true
      rw [Bool.and_eq_true]; exact ⟨a2, decide_eq_true (by omega)⟩
    · rw [any_toPs]; exact c _ H φ (.bl _) S ok .refl rfl q
  · exact h.elim⟩

/-! ### numbers -/
def oI (C : Int → Int → Prop) (g : Int → Int → D) : D2 := fun d e S Q => match d, e with
  | .int i, .int j => C i j ∧ Q (g i j) S
  | _, _ => False
theorem oI_ok {f : Value → Value → Sem Value} {C : Int → Int → Prop} {g : Int → Int → V} {gd : Int → Int → D} (h : OpR X f (rI C g)) (hg : ∀ i j H φ, Is X.K H φ (gd i j) (g i j)) : Op2 X f (oI C gd) := ⟨_, h, fun H φ S d e x y QD Q ok i1 i2 h c => by
  unfold oI at h
  split at h
  · cases i1; cases i2; exact ⟨_, _, rfl, rfl, h.1, c _ H φ _ S ok .refl (hg _ _ _ _) h.2⟩
  · exact h.elim⟩
theorem oI0_ok {f : Value → Value → Sem Value} {g : Int → Int → V} {gd : Int → Int → D} (h : OpR X f (rI0 g)) (hg : ∀ i j H φ, Is X.K H φ (gd i j) (g i j)) : Op2 X f (oI (fun _ _ => True) gd) := ⟨_, h, fun H φ S d e x y QD Q ok i1 i2 h c => by
  unfold oI at h
  split at h
  · cases i1; cases i2; exact ⟨_, _, rfl, rfl, c _ H φ _ S ok .refl (hg _ _ _ _) h.2⟩
  · exact h.elim⟩
abbrev oSub : D2 := oI (fun _ _ => True) fun i j => .int (i - j)
theorem o_sub : Op2 X (binaryOp .Sub) oSub := oI0_ok op_sub fun _ _ _ _ => rfl
abbrev oMod : D2 := oI (fun _ j => 0 < j) fun i j => .int (i % j)
theorem o_mod : Op2 X (binaryOp .Mod) oMod := oI_ok op_mod fun _ _ _ _ => rfl
abbrev oPow : D2 := oI CPow fun i j => .int (i ^ j.toNat)
theorem o_pow : Op2 X (binaryOp .Pow) oPow := oI_ok op_pow fun _ _ _ _ => rfl
/-- < of ints, of texts -/
def oCmp (p : Int → Int → Bool) (q : Tx → Tx → Bool) : D2 := fun d e S Q => match d, e with
  | .int i, .int j => Q (.bl (p i j)) S
  | .str a, .str b => Q (.bl (q a b)) S
  | _, _ => False
theorem oCmp_ok {f : Value → Value → Sem Value} {p : Int → Int → Bool} {q : Tx → Tx → Bool} (h : OpR X f (rI0 fun i j => .bl (p i j))) (h' : OpR X f (fun x y H Q => ∃ i j, x = .str i ∧ y = .str j ∧ Q (.bl (q i.cps.toList j.cps.toList)) H)) : Op2 X f (oCmp p q) := ⟨_, h.or h', fun H φ S d e x y QD Q ok i1 i2 h c => by
  unfold oCmp at h
  split at h
  · cases i1; cases i2; exact .inl ⟨_, _, rfl, rfl, c _ H φ (.bl _) S ok .refl rfl h⟩
  · obtain ⟨rfl, _⟩ := i1; obtain ⟨rfl, _⟩ := i2
    exact .inr ⟨_, _, rfl, rfl, c _ H φ (.bl _) S ok .refl rfl h⟩
  · exact h.elim⟩
abbrev oLt : D2 := oCmp (fun i j => decide (i < j)) fun a b => decide (a < b)
theorem o_lt : Op2 X (compareOp .Lt) oLt := oCmp_ok op_lt op_lt_str
abbrev oLe : D2 := oCmp (fun i j => decide (i ≤ j)) fun a b => !decide (b < a)
theorem o_le : Op2 X (compareOp .LtE) oLe := oCmp_ok op_le op_le_str
abbrev oGt : D2 := oCmp (fun i j => decide (j < i)) fun a b => decide (b < a)
theorem o_gt : Op2 X (compareOp .Gt) oGt := oCmp_ok op_gt op_gt_str
abbrev oGe : D2 := oCmp (fun i j => decide (j ≤ i)) fun a b => !decide (a < b)
theorem o_ge : Op2 X (compareOp .GtE) oGe := oCmp_ok op_ge op_ge_str
def oNeg : D1 := fun d S Q => match d with
  | .int i => Q (.int (-i)) S
  | _ => False
theorem o_neg : Op1 X (unaryOp .USub) oNeg := ⟨_, un_neg, fun H φ S d x QD Q ok i1 h c => by
  unfold oNeg at h
  split at h
  · cases i1; exact ⟨_, rfl, c _ H φ (.int _) S ok .refl rfl h⟩
  · exact h.elim⟩

/-! ### + -/
def oAdd : D2 := fun d e S Q => match d, e with
  | .int i, .int j => Q (.int (i + j)) S
  | .str a, .str b => a.length + b.length ≤ sizeLine ∧ Q (.str (a ++ b)) S
  | .tup a, .tup b => a.length + b.length ≤ sizeLine ∧ Q (.tup (a ++ b)) S
  | d, e => match asL S d, asL S e with
    | some a, some b => a.length + b.length ≤ sizeLine ∧ Q (.lst (a ++ b)) S
    | _, _ => False
/-- list + list, read -/
def rCatL (K : PySem.W.Frag) : R2 := fun x y H Q => ∃ l b xs zs, x = .ref l ∧ y = .ref b ∧ SqL K H l xs ∧ SqL K H b zs ∧ xs.length + zs.length ≤ sizeLine ∧ ∀ p, H p = none → Q (.ref p) (upd H p (.lst (xs ++ zs)))
theorem op_catL : OpR X (binaryOp .Add) (rCatL X.K) := by
  intro pins s σ H x y v u Q I rx ry h
  obtain ⟨l, b, xs, zs, rfl, rfl, hH, hB, hz, q⟩ := h
  cases rx
  cases ry
  obtain ⟨its, r, pl, z⟩ := I.list hH
  obtain ⟨its2, r2, pl2, z2⟩ := I.list hB
  have hl := r.length
  have hl2 := r2.length
  obtain ⟨⟨cls, dd, data, sl⟩, ho, hc, n, hd⟩ := pl.isList
  obtain ⟨⟨cls2, dd2, data2, sl2⟩, ho2, hc2, n2, hd2⟩ := pl2.isList
  simp only at hc hd hc2 hd2
  subst hc hd hc2 hd2
  refine concat_meets ⟨_, ho, rfl⟩ ⟨_, ho2, rfl⟩ noFill_list_add seq_list_add F.slot_list_add F.entry_list_add (F.args_list_add_2 _ _) (list_addW l b its.toArray its2.toArray n n2 dd dd2 sl sl2 (by simp; omega)) ⟨ho, ho2, ?_⟩
  have ea : its.toArray ++ its2.toArray = (its ++ its2).toArray := by simp
  rw [ea]
  exact ⟨.ref _, _, I.lnew (t' := s.toks) (r.append r2) (by rw [List.length_append]; omega), rfl, q _ I.fresh⟩
theorem sx_app (a b : Tx) : sx a ++ sx b = sx (a ++ b) := by
  show (⟨_⟩ : Str) = ⟨_⟩
  simp [sx]
theorem sx_len (a : Tx) : (sx a).length = a.length := by
  show (a.toArray).size = _
  simp
theorem o_add : Op2 X (binaryOp .Add) oAdd := ⟨_, (op_add.or op_add_str).or (op_catA.or op_catL), fun H φ S d e x y QD Q ok i1 i2 h c => by
  unfold oAdd at h
  split at h
  · cases i1; cases i2; exact .inl (.inl ⟨_, _, rfl, rfl, c _ H φ (.int _) S ok .refl rfl h⟩)
  · rename_i a b
    obtain ⟨rfl, h1⟩ := i1; obtain ⟨rfl, h2⟩ := i2
    refine .inl (.inr ⟨_, _, rfl, rfl, by rw [sx_len, sx_len]; exact h.1, c _ H φ (.str (a ++ b)) S ok .refl ⟨by rw [sx_app], fun z hz => ?_⟩ h.2⟩)
    rcases List.mem_append.mp hz with hz | hz
    · exact h1 z hz
    · exact h2 z hz
  · rename_i a b
    obtain ⟨p, xs, rfl, h1, h2⟩ := i1
    obtain ⟨r, ys, rfl, h3, h4⟩ := i2
    refine .inr (.inl ⟨p, r, xs, ys, rfl, rfl, h1, h3, by rw [← h2.length, ← h4.length]; exact h.1, fun z => ?_, fun z1 z2 => ?_, fun z1 z2 q hq => ?_⟩)
    · subst z
      have : a = [] := List.length_eq_zero_iff.mp h2.length
      subst this
      exact c _ H φ (.tup _) S ok .refl ⟨r, ys, rfl, h3, by simpa using h4⟩ h.2
    · subst z2
      have : b = [] := List.length_eq_zero_iff.mp h4.length
      subst this
      exact c _ H φ (.tup _) S ok .refl ⟨p, xs, rfl, h1, by simpa using h2⟩ h.2
    · exact c _ _ φ (.tup _) S (ok.fresh hq) (Ext.fresh hq) (.newTup hq (h2.append h4)) h.2
  · split at h
    · rename_i a b ea eb
      obtain ⟨p, xs, rfl, h1, h2⟩ := asL_is ok ea i1
      obtain ⟨r, ys, rfl, h3, h4⟩ := asL_is ok eb i2
      exact .inr (.inr ⟨p, r, xs, ys, rfl, rfl, h1, h3, by rw [← h2.length, ← h4.length]; exact h.1, fun q hq => c _ _ φ (.lst _) S (ok.fresh hq) (Ext.fresh hq) (.newLst ok hq (h2.append h4)) h.2⟩)
    · exact h.elim⟩
end
end DL

/-! DL4: chains of comparisons, built-ins, subscripts, slices, methods, what loops walk. -/
namespace DL
open PySem PySem.Spec L2
open PyProof.Rows hiding St
section
variable {X : Cx} {G : GX} {pos : Pos}
/-! ### chains -/
theorem de_chain {op op' : CmpOp} {rd rd' : D2} {a b c : Expr} {ta tb tc : DTE} (ho : Op2 X (compareOp op) rd) (ho' : Op2 X (compareOp op') rd') (ha : DE X G a ta) (hb : DE X G b tb) (hc : DE X G c tc)
    (hm : lastMarks [op, op'] [b, c] = false := by with_unfolding_all rfl) : DE X G (.Compare a [op, op'] [b, c] pos) (dChain rd rd' ta tb tc) := by
  obtain ⟨r, h1, h2⟩ := ho
  obtain ⟨r', h1', h2'⟩ := ho'
  refine (pe_chain h1 h1' ha hb hc hm).weak fun σ H Q ⟨φ, ρ, S, QD, R, h, cq⟩ => ?_
  refine ⟨φ, ρ, S, _, R, h, fun v H1 φ1 d S1 ok1 e1 i1 q1 => ?_⟩
  refine ⟨φ1, ρ, S1, _, R.ext ok1 e1, q1, fun u H2 φ2 e S2 ok2 e2 i2 q2 => ?_⟩
  refine h2 H2 φ2 S2 d e v u _ _ ok2 (i1.ext e2) i2 q2 fun z H3 φ3 dz S3 ok3 e3 i3 q3 => ?_
  have e13 := (e1.trans e2).trans e3
  cases dz with
  | bl k =>
    cases i3
    cases k with
    | true =>
      refine ⟨true, rfl, iteT ⟨φ3, ρ, S3, _, R.ext ok3 e13, q3, fun w H4 φ4 f S4 ok4 e4 i4 q4 => ?_⟩⟩
      exact h2' H4 φ4 S4 e f u w QD Q ok4 ((i2.ext e3).ext e4) i4 q4 (cq.ext (e13.trans e4))
    | false => exact ⟨false, rfl, iteF (cq _ H3 φ3 (.bl false) S3 ok3 e13 rfl q3)⟩
  | _ => exact q3.elim
theorem dt_chain {op op' : CmpOp} {rd rd' : D2} {a b c : Expr} {ta tb tc : DTE} (ho : Op2 X (compareOp op) rd) (ho' : Op2 X (compareOp op') rd') (ha : DE X G a ta) (hb : DE X G b tb) (hc : DE X G c tc)
    (hm : lastMarks [op, op'] [b, c] = false := by with_unfolding_all rfl) : DT X G (.Compare a [op, op'] [b, c] pos) (dTest (dChain rd rd' ta tb tc)) := by
  obtain ⟨r, h1, h2⟩ := ho
  obtain ⟨r', h1', h2'⟩ := ho'
  refine (pt_chain h1 h1' ha hb hc hm).weak fun σ H Q h => ?_
  obtain ⟨φ, ρ, S, QD, R, h, cq⟩ := liftT_test σ H Q h
  refine ⟨φ, ρ, S, _, R, h, fun v H1 φ1 d S1 ok1 e1 i1 q1 => ?_⟩
  refine ⟨φ1, ρ, S1, _, R.ext ok1 e1, q1, fun u H2 φ2 e S2 ok2 e2 i2 q2 => ?_⟩
  refine h2 H2 φ2 S2 d e v u _ _ ok2 (i1.ext e2) i2 q2 fun z H3 φ3 dz S3 ok3 e3 i3 q3 => ?_
  have e13 := (e1.trans e2).trans e3
  cases dz with
  | bl k =>
    cases i3
    cases k with
    | true =>
      refine ⟨true, rfl, iteT ⟨φ3, ρ, S3, _, R.ext ok3 e13, q3, fun w H4 φ4 f S4 ok4 e4 i4 q4 => ?_⟩⟩
      exact h2' H4 φ4 S4 e f u w QD _ ok4 ((i2.ext e3).ext e4) i4 q4 (cq.ext (e13.trans e4))
    | false => exact ⟨false, rfl, iteF (cq _ H3 φ3 (.bl false) S3 ok3 e13 rfl q3)⟩
  | _ => exact q3.elim

/-! ### built-ins by name -/
def OpN (X : Cx) (f : Value) (rd : DN) : Prop :=
  ∃ r, CallR X f r ∧ ∀ (H : Hp) (φ : Phi) (S : Sto) (ds : List D) (xs : List V) (QD : DQ) (Q : VK), StoOk X.K H φ S → IsL X.K H φ ds xs → rd ds S QD → CQ X.K φ H QD Q → r xs H Q
def dCB (rd : DN) (t : DTA) : DTE := fun ρ S Q => t ρ S fun ds S1 => rd ds S1 Q
variable {x : Str} {p : Pos} {e : Expr} {es : List Expr} {t : DTA} {te : DTE}
theorem cb_weak {r : List V → Hp → VK → Prop} {rd : DN} (hw : ∀ (H : Hp) (φ : Phi) (S : Sto) (ds : List D) (xs : List V) (QD : DQ) (Q : VK), StoOk X.K H φ S → IsL X.K H φ ds xs → rd ds S QD → CQ X.K φ H QD Q → r xs H Q) (σ : St) (H : Hp) (Q : VK)
    (h : lift X.K G (dCB rd t) σ H Q) : tCB r (liftA X.K G t) σ H Q := by
  obtain ⟨φ, ρ, S, QD, R, h, c⟩ := h
  exact ⟨φ, ρ, S, _, R, h, fun vs H1 φ1 ds S1 ok1 e1 i1 q1 => hw H1 φ1 S1 ds vs QD Q ok1 i1 q1 (c.ext e1)⟩
theorem de_callB {id : String} {rd : DN} (hc : OpN X (.builtin id) rd) (hm : X.mg x = none) (hv : bootBuiltins x = some (.builtin id)) (ha : DA X G (e :: es) t) (hg : Gl X x := by rfl) (hn : x ≠ "__name__" := by decide) (hdb : (x == ("__debug__" : Str)) = false := by decide)
    (he : starEach (e :: es) X.env = (false, eval e X.env) :: starEach es X.env := by rfl) (hpl : (backTo pos (starEach es X.env)).any (·.1) = false := by rfl) : DE X G (.Call (.Name x p) (e :: es) [] pos) (dCB rd t) := by
  obtain ⟨r, h1, h2⟩ := hc
  exact (pe_callB h1 hg hm hv ha hn hdb he hpl).weak (cb_weak h2)
theorem de_callTy {T : String} {rd : DN} (hc : OpN X (.type T) rd) (hm : X.mg x = none) (hv : bootBuiltins x = some (.type T)) (ha : DA X G (e :: es) t) (hg : Gl X x := by rfl) (hn : x ≠ "__name__" := by decide) (hdb : (x == ("__debug__" : Str)) = false := by decide)
    (he : starEach (e :: es) X.env = (false, eval e X.env) :: starEach es X.env := by rfl) (hpl : (backTo pos (starEach es X.env)).any (·.1) = false := by rfl) : DE X G (.Call (.Name x p) (e :: es) [] pos) (dCB rd t) := by
  obtain ⟨r, h1, h2⟩ := hc
  exact (pe_callTy h1 hg hm hv ha hn hdb he hpl).weak (cb_weak h2)
/-- len of a text, a list, a tuple -/
def bLen : DN := fun ds S Q => match ds with
  | [.str l] => l.length ≤ sizeLine ∧ Q (.int l.length) S
  | [.tup ds] => Q (.int ds.length) S
  | [d] => match asL S d with
    | some ds => Q (.int ds.length) S
    | none => False
  | _ => False
theorem IsL.one {K : PySem.W.Frag} {H : Hp} {φ : Phi} {d : D} {xs : List V} (h : IsL K H φ [d] xs) : ∃ x, xs = [x] ∧ Is K H φ d x := by
  obtain ⟨x, r, rfl, h1, h2⟩ := h
  obtain rfl : r = [] := h2
  exact ⟨x, rfl, h1⟩
theorem IsL.two {K : PySem.W.Frag} {H : Hp} {φ : Phi} {d e : D} {xs : List V} (h : IsL K H φ [d, e] xs) : ∃ x y, xs = [x, y] ∧ Is K H φ d x ∧ Is K H φ e y := by
  obtain ⟨x, r, rfl, h1, h2⟩ := h
  obtain ⟨y, rfl, h3⟩ := IsL.one h2
  exact ⟨x, y, rfl, h1, h3⟩
theorem b_len : OpN X (.builtin "len") bLen := ⟨_, call_len_str.or call_len_seq, fun H φ S ds xs QD Q ok i h c => by
  unfold bLen at h
  split at h
  · rename_i l
    obtain ⟨v, rfl, rfl, _⟩ := i.one
    exact .inl ⟨_, rfl, by rw [sx_len]; exact h.1, c _ H φ (.int l.length) S ok .refl (by rw [sx_len]; rfl) h.2⟩
  · rename_i es
    obtain ⟨v, rfl, a, ys, rfl, h2, h3⟩ := i.one
    exact .inr ⟨a, ys, rfl, .inr h2, c _ H φ (.int es.length) S ok .refl (by rw [h3.length]; rfl) h⟩
  · split at h
    · rename_i es ee
      obtain ⟨v, rfl, iv⟩ := i.one
      obtain ⟨a, ys, rfl, h2, h3⟩ := asL_is ok ee iv
      exact .inr ⟨a, ys, rfl, .inl h2, c _ H φ (.int es.length) S ok .refl (by rw [h3.length]; rfl) h⟩
    · exact h.elim
  · exact h.elim⟩
/-- isinstance -/
def tyD (S : Sto) : D → Option String
  | .non => some "NoneType"
  | .bl _ => some "bool"
  | .int _ => some "int"
  | .str _ => some "str"
  | .tup _ => some "tuple"
  | .lst _ => some "list"
  | .ref n => match S[n]? with
    | some (.lst _) => some "list"
    | _ => none
  | _ => none
def isiB (t T : String) : Bool := t == T || (t == "bool" && T == "int")
theorem kit_tab : ∀ t ∈ ["NoneType", "bool", "int", "str", "tuple", "list"], ∀ T ∈ ["bool", "int", "str", "tuple", "list"], kitB t T = some (isiB t T) := by decide +kernel
theorem tyD_mem {S : Sto} {d : D} {t : String} (h : tyD S d = some t) : t ∈ ["NoneType", "bool", "int", "str", "tuple", "list"] := by
  cases d with
  | ref n =>
    simp only [tyD] at h
    split at h
    · cases h; decide
    · cases h
  | ty _ => cases h
  | glob _ => cases h
  | dK _ _ => cases h
  | dT _ _ => cases h
  | _ => (first | (cases h; decide))
theorem tyD_is {K : PySem.W.Frag} {H : Hp} {φ : Phi} {S : Sto} {d : D} {v : V} {t : String} (ok : StoOk K H φ S) (h : tyD S d = some t) (i : Is K H φ d v) : TyX K H v (.type t) := by
  cases d with
  | non => cases h; cases i; exact .base .non
  | bl b => cases h; cases i; exact .base (.bl b)
  | int z => cases h; cases i; exact .base (.int z)
  | str l => cases h; obtain ⟨rfl, _⟩ := i; exact .base (.str _)
  | tup ds =>
    cases h
    obtain ⟨a, xs, rfl, h2, _⟩ := i
    rcases h2 with (h2 | ⟨o, h2⟩) | ⟨o, its, n, hk, hc, _⟩
    · exact .base (.tup h2)
    · exact .fTuple h2
    · exact .kTuple hk hc
  | lst ds =>
    cases h
    obtain ⟨a, xs, rfl, h2, _⟩ := i
    rcases h2 with ⟨h2 | ⟨o, h2⟩, _⟩ | ⟨o, its, n, hk, hc, _⟩
    · exact .base (.lst h2)
    · exact .base (.frz h2)
    · exact .kList hk hc
  | ref n =>
    simp only [tyD] at h
    split at h
    · rename_i es e
      cases h
      obtain ⟨a, h1, xs, h2, h3⟩ := ok.at e (fun z => nomatch z)
      obtain ⟨o, h4, h5⟩ := i
      rw [h1] at h4
      cases h4
      obtain rfl := h5 a rfl
      exact .base (.lst h2)
    · cases h
  | ty _ => cases h
  | glob _ => cases h
  | dK _ _ => cases h
  | dT _ _ => cases h
def bIsi : DN := fun ds S Q => match ds with
  | [d, .ty T] => T ∈ ["bool", "int", "str", "tuple", "list"] ∧ match tyD S d with
    | some t => Q (.bl (isiB t T)) S
    | none => False
  | _ => False
theorem b_isi : OpN X (.builtin "isinstance") bIsi := ⟨_, call_isi, fun H φ S ds xs QD Q ok i h c => by
  unfold bIsi at h
  split at h
  · rename_i d T
    obtain ⟨hT, h⟩ := h
    split at h
    · rename_i t et
      obtain ⟨u, v, rfl, i1, i2⟩ := i.two
      cases i2
      exact ⟨u, .ty T, .type t, .type T, _, rfl, .ty T, tyD_is ok et i1, kit_ty (kit_tab t (tyD_mem et) T hT), c _ H φ (.bl _) S ok .refl rfl h⟩
    · exact h.elim
  · exact h.elim⟩
/-- all, any of a list of bools -/
def blsD : List D → Option (List Bool)
  | [] => some []
  | .bl b :: r => (blsD r).map (b :: ·)
  | _ => none
theorem blsD_is {K : PySem.W.Frag} {H : Hp} {φ : Phi} : ∀ {ds : List D} {bs : List Bool} {xs : List V}, blsD ds = some bs → IsL K H φ ds xs → xs = bs.map V.bl
  | [], bs, xs, h, i => by
    simp only [blsD, Option.some.injEq] at h
    subst h
    exact i
  | d :: ds, bs, xs, h, i => by
    obtain ⟨x, r, rfl, h1, h2⟩ := i
    cases d with
    | bl b =>
      simp only [blsD, Option.map_eq_some_iff] at h
      obtain ⟨cs, h3, rfl⟩ := h
      cases h1
      rw [blsD_is h3 h2]
      rfl
    | _ => simp [blsD] at h
theorem blsD_map {α : Type} (f : α → Bool) : ∀ l : List α, blsD (l.map fun x => .bl (f x)) = some (l.map f)
  | [] => rfl
  | x :: l => by simp [blsD, blsD_map f l]
def bAll : DN := fun ds S Q => match ds with
  | [d] => match asL S d with
    | some es => match blsD es with
      | some bs => Q (.bl (bs.all id)) S
      | none => False
    | none => False
  | _ => False
def bAny : DN := fun ds S Q => match ds with
  | [d] => match asL S d with
    | some es => match blsD es with
      | some bs => Q (.bl (bs.any id)) S
      | none => False
    | none => False
  | _ => False
theorem b_all (hc : X.calm = true) : OpN X (.builtin "all") bAll := ⟨_, cr_all hc, fun H φ S ds xs QD Q ok i h c => by
  unfold bAll at h
  split at h
  · split at h
    · rename_i es ee
      split at h
      · rename_i bs eb
        obtain ⟨v, rfl, iv⟩ := i.one
        obtain ⟨a, ys, rfl, h2, h3⟩ := asL_is ok ee iv
        exact ⟨a, bs, rfl, by rw [← blsD_is eb h3]; exact h2, c _ H φ (.bl _) S ok .refl rfl h⟩
      · exact h.elim
    · exact h.elim
  · exact h.elim⟩
theorem b_any (hc : X.calm = true) : OpN X (.builtin "any") bAny := ⟨_, cr_any hc, fun H φ S ds xs QD Q ok i h c => by
  unfold bAny at h
  split at h
  · split at h
    · rename_i es ee
      split at h
      · rename_i bs eb
        obtain ⟨v, rfl, iv⟩ := i.one
        obtain ⟨a, ys, rfl, h2, h3⟩ := asL_is ok ee iv
        exact ⟨a, bs, rfl, by rw [← blsD_is eb h3]; exact h2, c _ H φ (.bl _) S ok .refl rfl h⟩
      · exact h.elim
    · exact h.elim
  · exact h.elim⟩
def bI1 (g : Int → Int) : DN := fun ds S Q => match ds with
  | [.int i] => Q (.int (g i)) S
  | _ => False
theorem b_abs : OpN X (.builtin "abs") (bI1 fun i => if i < 0 then -i else i) := ⟨_, call_abs, fun H φ S ds xs QD Q ok i h c => by
  unfold bI1 at h
  split at h
  · obtain ⟨v, rfl, rfl⟩ := i.one
    exact ⟨_, rfl, c _ H φ (.int _) S ok .refl rfl h⟩
  · exact h.elim⟩
/-- int(n), int(flag) -/
def bInt : DN := fun ds S Q => match ds with
  | [.int i] => Q (.int i) S
  | [.bl k] => Q (.int (if k then 1 else 0)) S
  | _ => False
theorem b_int : OpN X (.type "int") bInt := ⟨_, call_int1, fun H φ S ds xs QD Q ok i h c => by
  unfold bInt at h
  split at h
  · obtain ⟨v, rfl, rfl⟩ := i.one
    exact .inl ⟨_, rfl, c _ H φ (.int _) S ok .refl rfl h⟩
  · obtain ⟨v, rfl, rfl⟩ := i.one
    exact .inr ⟨_, rfl, c _ H φ (.int _) S ok .refl rfl h⟩
  · exact h.elim⟩
def bI2 (g : Int → Int → Int) : DN := fun ds S Q => match ds with
  | [.int i, .int j] => Q (.int (g i j)) S
  | _ => False
theorem b_min2 (hc : X.calm = true) : OpN X (.builtin "min") (bI2 fun i j => if j < i then j else i) := ⟨_, call_min2 hc, fun H φ S ds xs QD Q ok i h c => by
  unfold bI2 at h
  split at h
  · obtain ⟨u, v, rfl, rfl, rfl⟩ := i.two
    exact ⟨_, _, rfl, c _ H φ (.int _) S ok .refl rfl h⟩
  · exact h.elim⟩
theorem b_max2 (hc : X.calm = true) : OpN X (.builtin "max") (bI2 fun i j => if j > i then j else i) := ⟨_, call_max2 hc, fun H φ S ds xs QD Q ok i h c => by
  unfold bI2 at h
  split at h
  · obtain ⟨u, v, rfl, rfl, rfl⟩ := i.two
    exact ⟨_, _, rfl, c _ H φ (.int _) S ok .refl rfl h⟩
  · exact h.elim⟩
/-- sum of a list of ints -/
def intsD : List D → Option (List Int)
  | [] => some []
  | .int b :: r => (intsD r).map (b :: ·)
  | _ => none
theorem intsD_is {K : PySem.W.Frag} {H : Hp} {φ : Phi} : ∀ {ds : List D} {bs : List Int} {xs : List V}, intsD ds = some bs → IsL K H φ ds xs → xs = bs.map V.int
  | [], bs, xs, h, i => by
    simp only [intsD, Option.some.injEq] at h
    subst h
    exact i
  | d :: ds, bs, xs, h, i => by
    obtain ⟨x, r, rfl, h1, h2⟩ := i
    cases d with
    | int b =>
      simp only [intsD, Option.map_eq_some_iff] at h
      obtain ⟨cs, h3, rfl⟩ := h
      cases h1
      rw [intsD_is h3 h2]
      rfl
    | _ => simp [intsD] at h
theorem intsD_map {α : Type} (f : α → Int) : ∀ l : List α, intsD (l.map fun x => .int (f x)) = some (l.map f)
  | [] => rfl
  | x :: l => by simp [intsD, intsD_map f l]
def bSum : DN := fun ds S Q => match ds with
  | [d] => match asL S d with
    | some es => match intsD es with
      | some bs => Q (.int bs.sum) S
      | none => False
    | none => False
  | _ => False
theorem b_sum (hc : X.calm = true) : OpN X (.builtin "sum") bSum := ⟨_, cr_sum hc, fun H φ S ds xs QD Q ok i h c => by
  unfold bSum at h
  split at h
  · split at h
    · rename_i es ee
      split at h
      · rename_i bs eb
        obtain ⟨v, rfl, iv⟩ := i.one
        obtain ⟨a, ys, rfl, h2, h3⟩ := asL_is ok ee iv
        exact ⟨a, bs, rfl, by rw [← intsD_is eb h3]; exact h2, c _ H φ (.int _) S ok .refl rfl h⟩
      · exact h.elim
    · exact h.elim
  · exact h.elim⟩
/-- tuple(xs), list(xs) of lists, tuples -/
def bTuple : DN := fun ds S Q => match ds with
  | [.tup es] => Q (.tup es) S
  | [d] => match asL S d with
    | some es => Q (.tup es) S
    | none => False
  | _ => False
theorem b_tuple : OpN X (.type "tuple") bTuple := ⟨_, call_tuple_of, fun H φ S ds xs QD Q ok i h c => by
  unfold bTuple at h
  split at h
  · rename_i es
    obtain ⟨v, rfl, a, ys, rfl, h2, h3⟩ := i.one
    exact ⟨a, ys, rfl, .inr ⟨h2, c _ H φ (.tup es) S ok .refl ⟨a, ys, rfl, h2, h3⟩ h⟩⟩
  · split at h
    · rename_i es ee
      obtain ⟨v, rfl, iv⟩ := i.one
      obtain ⟨a, ys, rfl, h2, h3⟩ := asL_is ok ee iv
      exact ⟨a, ys, rfl, .inl ⟨h2, fun q hq => c _ _ φ (.tup es) S (ok.fresh hq) (Ext.fresh hq) (.newTup hq h3) h⟩⟩
    · exact h.elim
  · exact h.elim⟩
def seqD (S : Sto) : D → Option (List D)
  | .tup es => some es
  | d => asL S d
theorem seqD_is {K : PySem.W.Frag} {H : Hp} {φ : Phi} {S : Sto} {d : D} {v : V} {ds : List D} (ok : StoOk K H φ S) (h : seqD S d = some ds) (i : Is K H φ d v) : ∃ a xs, v = .ref a ∧ (SqL K H a xs ∨ SqT K H a xs) ∧ IsL K H φ ds xs := by
  cases d with
  | tup es =>
    cases h
    obtain ⟨a, xs, h1, h2, h3⟩ := i
    exact ⟨a, xs, h1, .inr h2, h3⟩
  | lst es => obtain ⟨a, xs, h1, h2, h3⟩ := asL_is ok (show asL S (.lst es) = some ds from h) i; exact ⟨a, xs, h1, .inl h2, h3⟩
  | ref n => obtain ⟨a, xs, h1, h2, h3⟩ := asL_is ok (show asL S (.ref n) = some ds from h) i; exact ⟨a, xs, h1, .inl h2, h3⟩
  | _ => exact absurd h (by simp [seqD, asL])
def bList : DN := fun ds S Q => match ds with
  | [d] => match seqD S d with
    | some es => Q (.lst es) S
    | none => False
  | _ => False
theorem b_list : OpN X (.type "list") bList := ⟨_, call_list_of, fun H φ S ds xs QD Q ok i h c => by
  unfold bList at h
  split at h
  · split at h
    · rename_i es ee
      obtain ⟨v, rfl, iv⟩ := i.one
      obtain ⟨a, ys, rfl, h2, h3⟩ := seqD_is ok ee iv
      exact ⟨a, ys, rfl, h2, fun q hq => c _ _ φ (.lst es) S (ok.fresh hq) (Ext.fresh hq) (.newLst ok hq h3) h⟩
    · exact h.elim
  · exact h.elim⟩
/-- a list to be changed -/
def bListM : DN := fun ds S Q => match ds with
  | [d] => match seqD S d with
    | some es => Q (.ref S.length) (S ++ [.lst es])
    | none => False
  | _ => False
theorem b_listM : OpN X (.type "list") bListM := ⟨_, call_list_of, fun H φ S ds xs QD Q ok i h c => by
  unfold bListM at h
  split at h
  · split at h
    · rename_i es ee
      obtain ⟨v, rfl, iv⟩ := i.one
      obtain ⟨a, ys, rfl, h2, h3⟩ := seqD_is ok ee iv
      exact ⟨a, ys, rfl, h2, fun q hq => c.alloc (m := .lst es) ok .refl hq ⟨ys, upd_same, h3.ext (Ext.alloc ok hq)⟩ h⟩
    · exact h.elim
  · exact h.elim⟩

/-! ### products, quotients -/
abbrev oMul : D2 := oI CMulW fun i j => .int (i * j)
theorem o_mul : Op2 X (binaryOp .Mult) oMul := oI_ok op_mulW fun _ _ _ _ => rfl
abbrev oDiv : D2 := oI CDivW fun i j => .int (i / j)
theorem o_div : Op2 X (binaryOp .FloorDiv) oDiv := oI_ok op_fdivW fun _ _ _ _ => rfl

/-! ### subscripts, slices -/
def oIx : D2 := fun d e S Q => match d, e with
  | .tup ds, .int i => match atI ds i with
    | some r => Q r S
    | none => False
  | .str l, .int i => l.length ≤ sizeLine ∧ match atI l i with
    | some r => Q (.str [r]) S
    | none => False
  | d, .int i => match asL S d with
    | some ds => match atI ds i with
      | some r => Q r S
      | none => False
    | none => False
  | _, _ => False
theorem IsL.atI {K : PySem.W.Frag} {H : Hp} {φ : Phi} {ds : List D} {xs : List V} {i : Int} {d : D} (h : IsL K H φ ds xs) (e : atI ds i = some d) : ∃ x, L2.atI xs i = some x ∧ Is K H φ d x := by
  unfold L2.atI at e ⊢
  rw [← h.length]
  cases q : ixN ds.length i with
  | none => rw [q] at e; cases e
  | some j =>
    rw [q] at e
    exact h.get e
theorem atI_mem {α : Type} {l : List α} {i : Int} {a : α} (h : atI l i = some a) : a ∈ l := by
  unfold L2.atI at h
  cases q : ixN l.length i with
  | none => rw [q] at h; cases h
  | some j => rw [q] at h; exact List.mem_of_getElem? h
theorem o_ix : ∃ r : R2, IxR X r ∧ ∀ (H : Hp) (φ : Phi) (S : Sto) (d e : D) (x y : V) (QD : DQ) (Q : VK), StoOk X.K H φ S → Is X.K H φ d x → Is X.K H φ e y → oIx d e S QD → CQ X.K φ H QD Q → r x y H Q := ⟨_, ix_seq, fun H φ S d e x y QD Q ok i1 i2 h c => by
  unfold oIx at h
  split at h
  · rename_i ds i
    split at h
    · rename_i r er
      cases i2
      obtain ⟨a, xs, rfl, h2, h3⟩ := i1
      obtain ⟨v, hv, iv⟩ := h3.atI er
      exact .inr (.inl ⟨a, xs, i, v, rfl, rfl, h2, hv, c v H φ r S ok .refl iv h⟩)
    · exact h.elim
  · rename_i l i
    obtain ⟨h0, h⟩ := h
    split at h
    · rename_i r er
      cases i2
      obtain ⟨rfl, hc⟩ := i1
      refine .inr (.inr ⟨_, i, r, rfl, rfl, by rw [sx_len]; exact h0, er, c _ H φ (.str [r]) S ok .refl ⟨rfl, fun z hz => ?_⟩ h⟩)
      rw [List.mem_singleton.mp hz]
      exact hc r (atI_mem er)
    · exact h.elim
  · rename_i d i _ _
    split at h
    · rename_i ds ee
      split at h
      · rename_i r er
        cases i2
        obtain ⟨a, xs, rfl, h2, h3⟩ := asL_is ok ee i1
        obtain ⟨v, hv, iv⟩ := h3.atI er
        exact .inl ⟨a, xs, i, v, rfl, rfl, h2, hv, c v H φ r S ok .refl iv h⟩
      · exact h.elim
    · exact h.elim
  · exact h.elim⟩
theorem de_ix {a b : Expr} {ta tb : DTE} (ha : DE X G a ta) (hb : DE X G b tb) (hs : PlainIx b := by exact fun _ _ => rfl) : DE X G (.Subscript a b pos) (dOp oIx ta tb) := by
  obtain ⟨r, h1, h2⟩ := o_ix (X := X)
  exact (pe_ix h1 ha hb hs).weak (lift_op h2)
/-- a part of a slice -/
abbrev DTO := Env → Sto → (Option Int → Sto → Prop) → Prop
def liftO (K : PySem.W.Frag) (G : GX) (t : DTO) : TO := fun σ H Q => ∃ φ ρ S QD, Rel K G σ H φ ρ S ∧ t ρ S QD ∧ ∀ o H' φ' S', StoOk K H' φ' S' → Ext φ H φ' H' → QD o S' → Q o H'
def DO (X : Cx) (G : GX) (e : Option Expr) (t : DTO) : Prop := PO X e (liftO X.K G t)
def pNone : DTO := fun _ S Q => Q none S
def pSome (t : DTE) : DTO := fun ρ S Q => t ρ S fun d S1 => match d with
  | .int i => Q (some i) S1
  | _ => False
theorem do_none : DO X G none pNone := ⟨fun pins s σ H Q I ⟨φ, ρ, S, QD, R, h, c⟩ => po_none.run pins s σ H Q I (c none H φ S R.sto .refl h)⟩
theorem do_some (h : DE X G e te) : DO X G (some e) (pSome te) := ⟨fun pins s σ H Q I ⟨φ, ρ, S, QD, R, q, c⟩ => (po_some h).run pins s σ H Q I (by
  refine ⟨φ, ρ, S, _, R, q, fun v H1 φ1 d S1 ok1 e1 i1 q1 => ?_⟩
  cases d with
  | int i => cases i1; exact ⟨i, rfl, c _ H1 φ1 S1 ok1 e1 q1⟩
  | _ => exact q1.elim)⟩
def cutD {α : Type} (xs : List α) (lo hi : Option Int) : List α := (xs.drop (HT.sIx xs.length 0 lo)).take (HT.sIx xs.length xs.length hi - HT.sIx xs.length 0 lo)
def rSl : D → Option Int → Option Int → Sto → DQ → Prop := fun d lo hi S Q => match d with
  | .tup ds => Q (.tup (cutD ds lo hi)) S
  | .str l => l.length ≤ sizeLine ∧ Q (.str (cutD l lo hi)) S
  | d => match asL S d with
    | some ds => Q (.lst (cutD ds lo hi)) S
    | none => False
def dSl (te : DTE) (tl th : DTO) : DTE := fun ρ S Q => te ρ S fun d S1 => tl ρ S1 fun l S2 => th ρ S2 fun u S3 => rSl d l u S3 Q
theorem IsL.cut2 {K : PySem.W.Frag} {H : Hp} {φ : Phi} {ds : List D} {xs : List V} (h : IsL K H φ ds xs) (lo hi : Option Int) : IsL K H φ (cutD ds lo hi) (cutV xs lo hi) := by
  unfold cutD cutV
  rw [← h.length]
  exact (h.drop _).take _
theorem de_slice {lo hi : Option Expr} {tl th : DTO} {p2 : Pos} (he : DE X G e te) (hl : DO X G lo tl) (hu : DO X G hi th) : DE X G (.Subscript e (.Slice lo hi none p2) pos) (dSl te tl th) := by
  refine (pe_slice ((sl_tupA.or sl_str).or sl_list) he hl hu).weak fun σ H Q ⟨φ, ρ, S, QD, R, h, c⟩ => ?_
  refine ⟨φ, ρ, S, _, R, h, fun v H1 φ1 d S1 ok1 e1 i1 q1 => ?_⟩
  refine ⟨φ1, ρ, S1, _, R.ext ok1 e1, q1, fun l H2 φ2 S2 ok2 e2 q2 => ?_⟩
  refine ⟨φ2, ρ, S2, _, (R.ext ok1 e1).ext ok2 e2, q2, fun u H3 φ3 S3 ok3 e3 q3 => ?_⟩
  have i3 := (i1.ext e2).ext e3
  have c3 := c.ext ((e1.trans e2).trans e3)
  unfold rSl at q3
  split at q3
  · rename_i ds
    obtain ⟨a, xs, rfl, h2, h3⟩ := i3
    refine .inl (.inl ⟨a, xs, rfl, h2, fun z => ?_, fun z q hq => ?_⟩)
    · refine c3 _ H3 φ3 (.tup (cutD ds l u)) S3 ok3 .refl ⟨a, xs, rfl, h2, ?_⟩ q3
      have e : cutD ds l u = ds := by
        unfold cutD
        rw [h3.length, z.1, z.2, List.drop_zero, Nat.sub_zero]
        exact List.take_of_length_le (by rw [h3.length]; exact Nat.le_refl _)
      rw [e]; exact h3
    · exact c3 _ _ φ3 (.tup (cutD ds l u)) S3 (ok3.fresh hq) (Ext.fresh hq) (.newTup hq (h3.cut2 l u)) q3
  · rename_i z
    obtain ⟨rfl, hc⟩ := i3
    refine .inl (.inr ⟨_, rfl, by rw [sx_len]; exact q3.1, c3 _ H3 φ3 (.str (cutD z l u)) S3 ok3 .refl ⟨?_, fun y hy => hc y (List.mem_of_mem_drop (List.mem_of_mem_take hy))⟩ q3.2⟩)
    unfold cutS cutD
    rw [sx_len]
    rfl
  · split at q3
    · rename_i ds ee
      obtain ⟨a, xs, rfl, h2, h3⟩ := asL_is ok3 ee i3
      exact .inr ⟨a, xs, rfl, h2, fun q hq => c3 _ _ φ3 (.lst (cutD ds l u)) S3 (ok3.fresh hq) (Ext.fresh hq) (.newLst ok3 hq (h3.cut2 l u)) q3⟩
    · exact q3.elim
end
end DL

/-! DL5: methods of texts and lists, s[::-1], what loops walk. -/
namespace DL
open PySem PySem.Spec L2 TL
open PyProof.Rows hiding St
section
variable {X : Cx} {G : GX} {pos apos cpos p1 p2 p3 : Pos} {e o : Expr} {es : List Expr} {te to : DTE} {ta : DTA}
/-! ### s[::-1] -/
theorem fm_congr {α β : Type} {f g : α → Option β} : ∀ {l : List α}, (∀ x ∈ l, f x = g x) → l.filterMap f = l.filterMap g
  | [], _ => rfl
  | x :: l, h => by
    rw [List.filterMap_cons, List.filterMap_cons, h x (by simp), fm_congr (l := l) fun y hy => h y (List.mem_cons_of_mem _ hy)]
theorem filterMap_rev {α : Type} (l : List α) : ((List.range l.length).map fun k => l.length - 1 - k).filterMap (l[·]?) = l.reverse := by
  apply List.ext_getElem?
  intro i
  rw [List.filterMap_map]
  have e : (List.range l.length).filterMap ((fun x => l[x]?) ∘ fun k => l.length - 1 - k) = (List.range l.length).filterMap (fun k => l.reverse[k]?) := by
    apply fm_congr
    intro k hk
    have hk := List.mem_range.mp hk
    show l[l.length - 1 - k]? = l.reverse[k]?
    rw [List.getElem?_reverse hk]
  rw [e]
  have e2 : (List.range l.length).filterMap (fun k => l.reverse[k]?) = l.reverse := by
    have h := PySem.W.krv_all l.reverse.toArray
    simpa using h
  rw [e2]
def tRevS (te : TE) : TE := fun σ H Q => te σ H fun x H1 => ∃ z, x = .str z ∧ z.length ≤ sizeLine ∧ Q (.str ⟨z.cps.toList.reverse.toArray⟩) H1
theorem pe_revS {te : TE} {k : Nat} (he : PE X e te) : PE X (.Subscript e (.Slice none none (some (.UnaryOp .USub (.Constant (.int 1) k p1) p2)) p3) pos) (tRevS te) := by
  refine ⟨fun pins s σ H Q I h => ?_⟩
  refine Subscript_ (thn (he.run pins s σ H _ I h) fun v s1 ⟨x, H1, I1, r1, q1⟩ => ?_)
  obtain ⟨z, ex, hz, q⟩ := q1
  subst ex
  obtain ⟨t, rfl⟩ := r1
  have hst : PO X (some (.UnaryOp .USub (.Constant (.int 1) k p1) p2)) (tPart (tUn (rU fun i => .int (-i)) (tC (.int 1)))) := po_some (pe_un un_neg pe_int)
  refine wpAny_Slice (thn (po_none.run pins s1 σ H1 (fun o H2 => o = none ∧ H2 = H1) I1 ⟨rfl, rfl⟩) fun vl s2 ⟨l, H2, I2, pl, el, e2⟩ => ?_)
  subst el e2
  refine thn (po_none.run pins s2 σ H2 (fun o H3 => o = none ∧ H3 = H2) I2 ⟨rfl, rfl⟩) fun vu s3 ⟨u, H3, I3, pu, eu, e3⟩ => ?_
  subst eu e3
  refine thn (hst.run pins s3 σ H3 (fun o H4 => o = some (-1) ∧ H4 = H3) I3 ⟨1, rfl, -1, rfl, rfl, rfl⟩) fun vs s4 ⟨o, H4, I4, ps, eo, e4⟩ => ?_
  subst eo e4
  have I5 : Inv X pins σ H4 { s4 with heap := s4.heap.push { cls := .type "slice", data := .fields #[vl, vu, vs] } } := I4.kept (t' := s4.toks) fun b ob q => Heap.get?_push_of_some _ q
  obtain ⟨l, el, hl⟩ := IsPart.raw pl
  obtain ⟨u, eu, hu⟩ := IsPart.raw pu
  obtain ⟨w, ew, hw⟩ := IsPart.raw ps
  subst el eu ew
  show wpAny (model X.prog X.w) X.A (subscriptTail e (.Slice none none (some (.UnaryOp .USub (.Constant (.int 1) k p1) p2)) p3) (.str z t) (.ref s4.heap.objs.size)) (EP X pins σ Q) X.xe { s4 with heap := s4.heap.push { cls := .type "slice", data := .fields #[partValue l, partValue u, partValue w] } }
  refine tail_any (ops := [.str z t, .ref s4.heap.objs.size]) (typeIs_str _ _ _) F.slot_str_getitem.lookup ?_ (by with_unfolding_all rfl)
  refine wpAny_getItem_str_slice (l := l) (u := u) (st := w) ⟨_, Heap.get?_push_size _ rfl, rfl, rfl⟩ (by rw [hw]; rfl) ?_
  have ep : slicePicked z l u w = (List.range z.length).map fun k => z.length - 1 - k := by
    unfold slicePicked
    rw [hl, hu, hw]
    show Builtin.Str.strSliceIndices none none (-1) z.length = _
    unfold Builtin.Str.strSliceIndices
    exact PySem.W.krv_sliceRange z.length
  have em : ((List.range z.length).map fun k => z.length - 1 - k).filterMap (z.cps[·]?) = z.cps.toList.reverse := by
    have h := filterMap_rev z.cps.toList
    have e1 : z.cps.toList.length = z.length := Array.length_toList
    rw [e1] at h
    rw [← h]
    apply fm_congr
    intro k _
    simp
  unfold sliceMade
  rw [hw, ep, em]
  show Made.post (if ((-1 : Int) == 1 && _) = true then Made.val (.str z t) else Made.str ⟨z.cps.toList.reverse.toArray⟩) (EP X pins σ Q) _
  rw [if_neg (by simp)]
  refine ⟨?_, .str _, H4, I5.tok _, ⟨_, rfl⟩, q⟩
  show (z.cps.toList.reverse.toArray).size ≤ sizeLine
  rw [List.size_toArray, List.length_reverse, Array.length_toList]
  exact hz
def dRev (te : DTE) : DTE := fun ρ S Q => te ρ S fun d S1 => match d with
  | .str l => l.length ≤ sizeLine ∧ Q (.str l.reverse) S1
  | _ => False
theorem de_rev {k : Nat} (he : DE X G e te) : DE X G (.Subscript e (.Slice none none (some (.UnaryOp .USub (.Constant (.int 1) k p1) p2)) p3) pos) (dRev te) := by
  refine (pe_revS he).weak fun σ H Q ⟨φ, ρ, S, QD, R, h, c⟩ => ?_
  refine ⟨φ, ρ, S, _, R, h, fun v H1 φ1 d S1 ok1 e1 i1 q1 => ?_⟩
  cases d with
  | str l =>
    obtain ⟨rfl, hc⟩ := i1
    exact ⟨_, rfl, by rw [sx_len]; exact q1.1, c _ H1 φ1 (.str l.reverse) S1 ok1 e1 ⟨rfl, fun z hz => hc z (List.mem_reverse.mp hz)⟩ q1.2⟩
  | _ => exact q1.elim

/-! ### methods -/
abbrev DM := D → List D → Sto → DQ → Prop
def OpM (X : Cx) (id : String) (rd : DM) : Prop :=
  ∃ r, MtR X id r ∧ ∀ (H : Hp) (φ : Phi) (S : Sto) (d : D) (ds : List D) (x : V) (xs : List V) (QD : DQ) (Q : VK), StoOk X.K H φ S → Is X.K H φ d x → IsL X.K H φ ds xs → rd d ds S QD → CQ X.K φ H QD Q → r x xs H Q
def isS : D → Prop
  | .str _ => True
  | _ => False
def dMS (rd : DM) (to : DTE) (ta : DTA) : DTE := fun ρ S Q => to ρ S fun d S1 => isS d ∧ ta ρ S1 fun ds S2 => rd d ds S2 Q
/-- a method of a text -/
theorem de_mS {name : Str} {id : String} {rd : DM} (slot : Slot "str" name id) (hty : typeOf (.builtin id) = pure (.type "method_descriptor")) (hm : OpM X id rd) (ho : DE X G o to) (ha : DA X G (e :: es) ta)
    (hbase : attributeBase o name X.env (eval o X.env) = eval o X.env := by rfl)
    (hfew : ((backTo cpos (starEach (e :: es) X.env)).all (fun x => !x.1) && (backToKw cpos (keywordEach [] X.env)).all (fun x => x.1.isSome)
      && decide ((e :: es).length + ([] : List Keyword).length + (if ([] : List Keyword).isEmpty then 0 else 1) < 30)) = true := by rfl)
    (hline : (apos.endLine == cpos.line) = true := by rfl) (hs : starEach (e :: es) X.env = (false, eval e X.env) :: starEach es X.env := by rfl) (hplain : (backTo cpos (starEach es X.env)).any (·.1) = false := by rfl) :
    DE X G (.Call (.Attribute o name apos) (e :: es) [] cpos) (dMS rd to ta) := by
  obtain ⟨r, h1, h2⟩ := hm
  refine (pe_bm PySem.F.plainAttrs_str slot hty h1 ho ha hbase hfew hline hs hplain).weak fun σ H Q ⟨φ, ρ, S, QD, R, h, c⟩ => ?_
  refine ⟨φ, ρ, S, _, R, h, fun v H1 φ1 d S1 ok1 e1 i1 q1 => ?_⟩
  obtain ⟨q0, q1⟩ := q1
  refine ⟨?_, φ1, ρ, S1, _, R.ext ok1 e1, q1, fun vs H2 φ2 ds S2 ok2 e2 i2 q2 => h2 H2 φ2 S2 d ds v vs QD Q ok2 (i1.ext e2) i2 q2 (c.ext (e1.trans e2))⟩
  cases d with
  | str l => obtain ⟨rfl, _⟩ := i1; rfl
  | _ => exact q0.elim
theorem de_mS0 {name : Str} {id : String} {rd : DM} (slot : Slot "str" name id) (hty : typeOf (.builtin id) = pure (.type "method_descriptor")) (hm : OpM X id rd) (ho : DE X G o to)
    (hbase : attributeBase o name X.env (eval o X.env) = eval o X.env := by rfl) (hline : (apos.endLine == cpos.line) = true := by rfl) :
    DE X G (.Call (.Attribute o name apos) [] [] cpos) (dMS rd to aNil) := by
  obtain ⟨r, h1, h2⟩ := hm
  refine (pe_bm0 PySem.F.plainAttrs_str slot hty h1 ho hbase hline).weak fun σ H Q ⟨φ, ρ, S, QD, R, h, c⟩ => ?_
  refine ⟨φ, ρ, S, _, R, h, fun v H1 φ1 d S1 ok1 e1 i1 q1 => ?_⟩
  obtain ⟨q0, q1⟩ := q1
  refine ⟨?_, h2 H1 φ1 S1 d [] v [] QD Q ok1 i1 .nil q1 (c.ext e1)⟩
  cases d with
  | str l => obtain ⟨rfl, _⟩ := i1; rfl
  | _ => exact q0.elim
def dML (rd : DM) (to : DTE) (ta : DTA) : DTE := fun ρ S Q => to ρ S fun d S1 => (asL S1 d).isSome = true ∧ ta ρ S1 fun ds S2 => rd d ds S2 Q
/-- a method of a list -/
theorem de_mL {name : Str} {id : String} {rd : DM} (slot : Slot "list" name id) (hty : typeOf (.builtin id) = pure (.type "method_descriptor")) (hm : OpM X id rd) (ho : DE X G o to) (ha : DA X G (e :: es) ta)
    (hbase : attributeBase o name X.env (eval o X.env) = eval o X.env := by rfl)
    (hfew : ((backTo cpos (starEach (e :: es) X.env)).all (fun x => !x.1) && (backToKw cpos (keywordEach [] X.env)).all (fun x => x.1.isSome)
      && decide ((e :: es).length + ([] : List Keyword).length + (if ([] : List Keyword).isEmpty then 0 else 1) < 30)) = true := by rfl)
    (hline : (apos.endLine == cpos.line) = true := by rfl) (hs : starEach (e :: es) X.env = (false, eval e X.env) :: starEach es X.env := by rfl) (hplain : (backTo cpos (starEach es X.env)).any (·.1) = false := by rfl) :
    DE X G (.Call (.Attribute o name apos) (e :: es) [] cpos) (dML rd to ta) := by
  obtain ⟨r, h1, h2⟩ := hm
  refine (pe_bm PySem.F.plainAttrs_list slot hty h1 ho ha hbase hfew hline hs hplain).weak fun σ H Q ⟨φ, ρ, S, QD, R, h, c⟩ => ?_
  refine ⟨φ, ρ, S, _, R, h, fun v H1 φ1 d S1 ok1 e1 i1 q1 => ?_⟩
  obtain ⟨q0, q1⟩ := q1
  refine ⟨?_, φ1, ρ, S1, _, R.ext ok1 e1, q1, fun vs H2 φ2 ds S2 ok2 e2 i2 q2 => h2 H2 φ2 S2 d ds v vs QD Q ok2 (i1.ext e2) i2 q2 (c.ext (e1.trans e2))⟩
  obtain ⟨zs, hz⟩ := Option.isSome_iff_exists.mp q0
  obtain ⟨a, xs, rfl, hq, _⟩ := asL_is ok1 hz i1
  exact .inl ⟨rfl, xs, hq⟩
theorem de_mL0 {name : Str} {id : String} {rd : DM} (slot : Slot "list" name id) (hty : typeOf (.builtin id) = pure (.type "method_descriptor")) (hm : OpM X id rd) (ho : DE X G o to)
    (hbase : attributeBase o name X.env (eval o X.env) = eval o X.env := by rfl) (hline : (apos.endLine == cpos.line) = true := by rfl) :
    DE X G (.Call (.Attribute o name apos) [] [] cpos) (dML rd to aNil) := by
  obtain ⟨r, h1, h2⟩ := hm
  refine (pe_bm0 PySem.F.plainAttrs_list slot hty h1 ho hbase hline).weak fun σ H Q ⟨φ, ρ, S, QD, R, h, c⟩ => ?_
  refine ⟨φ, ρ, S, _, R, h, fun v H1 φ1 d S1 ok1 e1 i1 q1 => ?_⟩
  obtain ⟨q0, q1⟩ := q1
  refine ⟨?_, h2 H1 φ1 S1 d [] v [] QD Q ok1 i1 .nil q1 (c.ext e1)⟩
  obtain ⟨zs, hz⟩ := Option.isSome_iff_exists.mp q0
  obtain ⟨a, xs, rfl, hq, _⟩ := asL_is ok1 hz i1
  exact .inl ⟨rfl, xs, hq⟩
theorem CQ.put {K : PySem.W.Frag} {H : Hp} {φ : Phi} {S : Sto} {QD : DQ} {Q : VK} {n : Nat} {a : Addr} {ho : HO} {m : MO} {d : D} {v : V} (c : CQ K φ H QD Q) (ok : StoOk K H φ S) (h : φ.L[n]? = some (some a)) (hm : MObj K (upd H a ho) φ a m) (i : Is K (upd H a ho) φ d v) (q : QD d (S.set n m)) : Q v (upd H a ho) :=
  c v _ φ d _ (ok.put h hm) (Ext.put ok h) i q
/-- append, pop -/
def mAppend : DM := fun d ds S Q => match d, ds with
  | .ref n, [e] => match S[n]? with
    | some (.lst xs) => xs.length < sizeLine ∧ Q .non (S.set n (.lst (xs ++ [e])))
    | _ => False
  | _, _ => False
theorem m_append : OpM X "list.append" mAppend := ⟨_, mt_append, fun H φ S d ds x xs QD Q ok i1 i2 h c => by
  unfold mAppend at h
  split at h
  · rename_i n e'
    split at h
    · rename_i es ee
      obtain ⟨a, h1, ys, h2, h3⟩ := ok.at ee (fun z => nomatch z)
      obtain ⟨o', h4, h5⟩ := i1
      rw [h1] at h4
      cases h4
      obtain rfl := h5 a rfl
      obtain ⟨y, rfl, iy⟩ := i2.one
      have ex : Ext φ H φ (upd H a (.lst (ys ++ [y]))) := Ext.put ok h1
      exact ⟨a, ys, y, rfl, rfl, h2, by rw [← h3.length]; exact h.1, c.put (m := .lst (es ++ [e'])) (d := .non) ok h1 ⟨_, upd_same, (h3.append (.cons iy .nil)).ext ex⟩ rfl h.2⟩
    · exact h.elim
  · exact h.elim⟩
def mPop : DM := fun d ds S Q => match d, ds with
  | .ref n, [] => match S[n]? with
    | some (.lst xs) => match xs.getLast? with
      | some e => Q e (S.set n (.lst xs.dropLast))
      | none => False
    | _ => False
  | _, _ => False
theorem m_pop : OpM X "list.pop" mPop := ⟨_, mt_pop, fun H φ S d ds x xs QD Q ok i1 i2 h c => by
  unfold mPop at h
  split at h
  · rename_i n
    split at h
    · rename_i es ee
      split at h
      · rename_i e' el
        obtain ⟨a, h1, ys, h2, h3⟩ := ok.at ee (fun z => nomatch z)
        obtain ⟨o', h4, h5⟩ := i1
        rw [h1] at h4
        cases h4
        obtain rfl := h5 a rfl
        obtain rfl : xs = [] := i2
        have ex : Ext φ H φ (upd H a (.lst ys.dropLast)) := Ext.put ok h1
        rw [List.getLast?_eq_getElem?, h3.length] at el
        obtain ⟨y, hy, iy⟩ := h3.get el
        exact ⟨a, ys, y, rfl, rfl, h2, hy, c.put (m := .lst es.dropLast) ok h1 ⟨_, upd_same, h3.dropLast.ext ex⟩ (iy.ext ex) h⟩
      · exact h.elim
    · exact h.elim
  · exact h.elim⟩
/-- startswith, endswith -/
def stw (a b : Tx) : Bool := a.take b.length == b
def edw (a b : Tx) : Bool := decide (b.length ≤ a.length) && (a.drop (a.length - b.length) == b)
theorem stw_eq (a b : Tx) : Txt.startswith (sx a) (sx b) = stw a b := by
  unfold Txt.startswith stw
  rw [sx_len, sx_len, PySem.StrLaws.subAt_eq, sx_len, List.drop_zero, Nat.zero_add]
  show (decide (b.length ≤ a.length) && (a.toArray.toList.take b.length == b.toArray.toList)) = _
  by_cases h : b.length ≤ a.length
  · simp [h]
  · simp only [h, decide_false, Bool.false_and]
    symm
    rw [beq_eq_false_iff_ne]
    intro e
    have := congrArg List.length e
    rw [List.length_take] at this
    omega
theorem edw_eq (a b : Tx) : Txt.endswith (sx a) (sx b) = edw a b := by
  unfold Txt.endswith edw
  rw [sx_len, sx_len, PySem.StrLaws.subAt_eq, sx_len, Nat.zero_add]
  show (decide (b.length ≤ a.length) && ((a.toArray.toList.drop (a.length - b.length)).take b.length == b.toArray.toList)) = _
  by_cases h : b.length ≤ a.length
  · simp only [h, decide_true, Bool.true_and]
    rw [List.take_of_length_le (by rw [List.length_drop]; simp; omega)]
  · simp [h]
def mS1 (g : Tx → Tx → Bool) : DM := fun d ds S Q => match d, ds with
  | .str a, [.str b] => Q (.bl (g a b)) S
  | _, _ => False
theorem m_startswith : OpM X "str.startswith" (mS1 stw) := ⟨_, mt_startswith, fun H φ S d ds x xs QD Q ok i1 i2 h c => by
  unfold mS1 at h
  split at h
  · obtain ⟨rfl, _⟩ := i1
    obtain ⟨y, rfl, rfl, _⟩ := i2.one
    exact ⟨_, _, rfl, rfl, c _ H φ (.bl _) S ok .refl (by rw [stw_eq]; rfl) h⟩
  · exact h.elim⟩
theorem m_endswith : OpM X "str.endswith" (mS1 edw) := ⟨_, mt_endswith, fun H φ S d ds x xs QD Q ok i1 i2 h c => by
  unfold mS1 at h
  split at h
  · obtain ⟨rfl, _⟩ := i1
    obtain ⟨y, rfl, rfl, _⟩ := i2.one
    exact ⟨_, _, rfl, rfl, c _ H φ (.bl _) S ok .refl (by rw [edw_eq]; rfl) h⟩
  · exact h.elim⟩
/-- join -/
def txD : List D → Option (List Tx)
  | [] => some []
  | .str b :: r => (txD r).map (b :: ·)
  | _ => none
theorem txD_is {K : PySem.W.Frag} {H : Hp} {φ : Phi} : ∀ {ds : List D} {bs : List Tx} {xs : List V}, txD ds = some bs → IsL K H φ ds xs → xs = (bs.map sx).map V.str ∧ ∀ b ∈ bs, ∀ c ∈ b, c < 1114112
  | [], bs, xs, h, i => by
    simp only [txD, Option.some.injEq] at h
    subst h
    exact ⟨i, fun b hb => by simp at hb⟩
  | d :: ds, bs, xs, h, i => by
    obtain ⟨x, r, rfl, h1, h2⟩ := i
    cases d with
    | str b =>
      simp only [txD, Option.map_eq_some_iff] at h
      obtain ⟨cs, h3, rfl⟩ := h
      obtain ⟨rfl, hb⟩ := h1
      obtain ⟨rfl, hc⟩ := txD_is h3 h2
      refine ⟨rfl, fun y hy => ?_⟩
      rcases List.mem_cons.mp hy with rfl | hy
      · exact hb
      · exact hc y hy
    | _ => simp [txD] at h
theorem txD_map {α : Type} (f : α → Tx) : ∀ l : List α, txD (l.map fun x => .str (f x)) = some (l.map f)
  | [] => rfl
  | x :: l => by simp [txD, txD_map f l]
theorem mem_joinL {s : Tx} {c : Nat} : ∀ {ps : List Tx}, c ∈ joinL s ps → c ∈ s ∨ ∃ p ∈ ps, c ∈ p
  | [], h => by simp [joinL] at h
  | [p], h => .inr ⟨p, by simp, h⟩
  | p :: q :: r, h => by
    simp only [joinL, List.mem_append] at h
    rcases h with h | h | h
    · exact .inr ⟨p, by simp, h⟩
    · exact .inl h
    · rcases mem_joinL h with h | ⟨z, hz, h⟩
      · exact .inl h
      · exact .inr ⟨z, List.mem_cons_of_mem _ hz, h⟩
theorem join_sx (s : Tx) (ps : List Tx) : Txt.join (sx s) (ps.map sx) = sx (joinL s ps) := by
  rw [join_eq]
  have h := tl_join (sx s) (ps.map sx)
  have e : (ps.map sx).map tl = ps := by
    rw [List.map_map]
    conv => rhs; rw [← List.map_id ps]
    apply List.map_congr_left
    intro p _
    show (sx p).cps.toList = p
    simp [sx]
  have e2 : tl (sx s) = s := by show (sx s).cps.toList = s; simp [sx]
  rw [e, e2] at h
  have : (Str.join (sx s) (ps.map sx)).cps = (joinL s ps).toArray := by
    rw [← h]
  show Str.join (sx s) (ps.map sx) = ⟨(joinL s ps).toArray⟩
  rw [← this]
def mJoin : DM := fun d ds S Q => match d, ds with
  | .str a, [b] => match seqD S b with
    | some es => match txD es with
      | some ys => (ys.map (·.length)).sum + ys.length * a.length ≤ 16777216 ∧ Q (.str (joinL a ys)) S
      | none => False
    | none => False
  | _, _ => False
theorem m_join : OpM X "str.join" mJoin := ⟨_, mt_join, fun H φ S d ds x xs QD Q ok i1 i2 h c => by
  unfold mJoin at h
  split at h
  · rename_i a b
    split at h
    · rename_i es ee
      split at h
      · rename_i ys ey
        obtain ⟨rfl, ha⟩ := i1
        obtain ⟨y, rfl, iy⟩ := i2.one
        obtain ⟨p, zs, rfl, hq, hl⟩ := seqD_is ok ee iy
        obtain ⟨rfl, hy⟩ := txD_is ey hl
        refine ⟨_, p, ys.map sx, rfl, rfl, hq, ?_, c _ H φ (.str (joinL a ys)) S ok .refl ⟨by rw [join_sx], fun z hz => ?_⟩ h.2⟩
        · have e1 : ((ys.map sx).map (·.length)).sum = (ys.map (·.length)).sum := by
            rw [List.map_map]
            rfl
          rw [e1, sx_len, List.length_map]
          exact h.1
        · rcases mem_joinL hz with hz | ⟨q, hq, hz⟩
          · exact ha z hz
          · exact hy q hq z hz
      · exact h.elim
    · exact h.elim
  · exact h.elim⟩
/-- split by one sign -/
theorem tl_sx (l : Tx) : tl (sx l) = l := by show (sx l).cps.toList = l; simp [sx]
theorem sx_tl (z : Str) : sx (tl z) = z := by
  show (⟨z.cps.toList.toArray⟩ : Str) = z
  simp
def mSplit : DM := fun d ds S Q => match d, ds with
  | .str a, [.str [c]] => c < 256 ∧ a.length + 2 ≤ sizeLine ∧ Q (.lst ((spl [c] 0 [] a).map D.str)) S
  | _, _ => False
theorem spl_mem {S : Tx} : ∀ (l : Tx) (k : Nat) (acc : Tx), ∀ p ∈ spl S k acc l, ∀ c ∈ p, c ∈ acc ∨ c ∈ l
  | [], k, acc, p, hp, c, hc => by
    simp only [spl, List.mem_singleton] at hp
    subst hp
    exact .inl hc
  | x :: l, 0, acc, p, hp, c, hc => by
    simp only [spl] at hp
    split at hp
    · rcases List.mem_cons.mp hp with rfl | hp
      · exact .inl hc
      · rcases spl_mem l _ _ p hp c hc with q | q
        · cases q
        · exact .inr (List.mem_cons_of_mem _ q)
    · rcases spl_mem l _ _ p hp c hc with q | q
      · rcases List.mem_append.mp q with q | q
        · exact .inl q
        · rw [List.mem_singleton.mp q]; exact .inr (by simp)
      · exact .inr (List.mem_cons_of_mem _ q)
  | x :: l, k + 1, acc, p, hp, c, hc => by
    simp only [spl] at hp
    rcases spl_mem l _ _ p hp c hc with q | q
    · exact .inl q
    · exact .inr (List.mem_cons_of_mem _ q)
theorem m_split : OpM X "str.split" mSplit := ⟨_, mt_split, fun H φ S d ds x xs QD Q ok i1 i2 h c => by
  unfold mSplit at h
  split at h
  · rename_i a b
    obtain ⟨rfl, ha⟩ := i1
    obtain ⟨y, rfl, rfl, _⟩ := i2.one
    obtain ⟨h0, h1, h2⟩ := h
    refine ⟨_, _, rfl, rfl, by rw [sx_len]; rfl, by rw [sx_len]; exact h1, fun p hp => ?_⟩
    have e : (Txt.split (sx a) (sx [b])).map tl = spl [b] 0 [] a := by
      have := split_spl (sx a) (sx [b]) (by rw [tl_sx]; simp) (kind_ok (by show ([b].toArray).all (· < 256) = true; simp [h0]))
      rw [tl_sx, tl_sx] at this
      exact this
    refine c _ _ φ _ S (ok.fresh hp) (Ext.fresh hp) (.newLst ok hp ?_) h2
    rw [← e]
    have all : ∀ z ∈ Txt.split (sx a) (sx [b]), ∀ c ∈ tl z, c < 1114112 := fun z hz c hc => by
      have : tl z ∈ spl [b] 0 [] a := by rw [← e]; exact List.mem_map_of_mem hz
      rcases spl_mem a 0 [] _ this c hc with q | q
      · cases q
      · exact ha c q
    generalize Txt.split (sx a) (sx [b]) = zs at all
    clear e h2 c
    induction zs with
    | nil => rfl
    | cons z zs ih =>
      exact ⟨.str z, _, rfl, ⟨by rw [sx_tl], all z (by simp)⟩, ih fun y hy => all y (List.mem_cons_of_mem _ hy)⟩
  · exact h.elim⟩
end
end DL

/-! DL6: what loops walk: lists, tuples, texts, ranges, enumerate, zip. -/
namespace DL
open PySem PySem.Spec L2 TL
open PyProof.Rows hiding St
section
variable {X : Cx} {G : GX} {pos p : Pos} {tg e e2 : Expr} {te : DTE} {ta : DTA}
theorem stable_is {K : PySem.W.Frag} {d : D} {v : V} : Stable fun H φ => Is K H φ d v := fun _ _ _ _ e h => h.ext0 e
theorem itOk_tup {K : PySem.W.Frag} {a : Addr} {ds : List D} : ItOk K (Itt K a) ds (fun H φ => Is K H φ (.tup ds) (.ref a)) (fun _ => True) where
  item := fun i d H φ S ok f _ hd => by
    obtain ⟨b, xs, eb, hs, hl⟩ := f
    cases eb
    obtain ⟨x, hx, ix⟩ := hl.get hd
    refine ⟨⟨xs, x, hs, hx⟩, fun y H' hy => ?_⟩
    obtain ⟨rfl, hy⟩ := hy
    have e := hy xs hs
    rw [hx] at e
    cases e
    exact ⟨ok, .refl, ix⟩
  stop := fun H φ S ok f _ => by
    obtain ⟨b, xs, eb, hs, hl⟩ := f
    cases eb
    exact ⟨xs, hs, by rw [hl.length]; exact Nat.le_refl _⟩
theorem itOk_lst {K : PySem.W.Frag} {a : Addr} {ds : List D} : ItOk K (Itl K a) ds (fun H φ => Is K H φ (.lst ds) (.ref a)) (fun _ => True) where
  item := fun i d H φ S ok f _ hd => by
    obtain ⟨b, xs, eb, hs, hl⟩ := f
    cases eb
    obtain ⟨x, hx, ix⟩ := hl.get hd
    refine ⟨⟨xs, x, hs.sq, hx⟩, fun y H' hy => ?_⟩
    obtain ⟨rfl, hy⟩ := hy
    have e := hy xs hs.sq
    rw [hx] at e
    cases e
    exact ⟨ok, .refl, ix⟩
  stop := fun H φ S ok f _ => by
    obtain ⟨b, xs, eb, hs, hl⟩ := f
    cases eb
    exact ⟨xs, hs.sq, by rw [hl.length]; exact Nat.le_refl _⟩
theorem ref_is {K : PySem.W.Frag} {H : Hp} {φ : Phi} {S : Sto} {n : Nat} {a : Addr} {ds : List D} (ok : StoOk K H φ S) (i : Is K H φ (.ref n) (.ref a)) (h : S[n]? = some (.lst ds)) : ∃ xs, SqL K H a xs ∧ IsL K H φ ds xs := by
  obtain ⟨b, h1, xs, h2, h3⟩ := ok.at h (fun z => nomatch z)
  obtain ⟨o', h4, h5⟩ := i
  rw [h1] at h4
  cases h4
  cases h5 b rfl
  exact ⟨xs, .of h2, h3⟩
theorem itOk_ref {K : PySem.W.Frag} {a : Addr} {n : Nat} {ds : List D} : ItOk K (Itl K a) ds (fun H φ => Is K H φ (.ref n) (.ref a)) (fun S => S[n]? = some (.lst ds)) where
  item := fun i d H φ S ok f lv hd => by
    obtain ⟨xs, hs, hl⟩ := ref_is ok f lv
    obtain ⟨x, hx, ix⟩ := hl.get hd
    refine ⟨⟨xs, x, hs, hx⟩, fun y H' hy => ?_⟩
    obtain ⟨rfl, hy⟩ := hy
    have e := hy xs hs
    rw [hx] at e
    cases e
    exact ⟨ok, .refl, ix⟩
  stop := fun H φ S ok f lv => by
    obtain ⟨xs, hs, hl⟩ := ref_is ok f lv
    exact ⟨xs, hs, by rw [hl.length]; exact Nat.le_refl _⟩
theorem itOk_str {K : PySem.W.Frag} {l : Tx} (hc : ∀ c ∈ l, c < 1114112) : ItOk K (Its (sx l)) (l.map fun c => .str [c]) (fun _ _ => True) (fun _ => True) where
  item := fun i d H φ S ok f _ hd => by
    rw [List.getElem?_map] at hd
    obtain ⟨c, hc1, rfl⟩ := Option.map_eq_some_iff.mp hd
    have hi : i < l.length := (List.getElem?_eq_some_iff.mp hc1).1
    refine ⟨?_, fun y H' hy => ?_⟩
    · show i < (sx l).cps.size
      simp [sx, hi]
    · obtain ⟨rfl, c', h1, rfl⟩ := hy
      have : l[i]? = some c' := by simpa [sx] using h1
      rw [hc1] at this
      cases this
      exact ⟨ok, .refl, rfl, fun z hz => by rw [List.mem_singleton.mp hz]; exact hc c (List.mem_of_getElem? hc1)⟩
  stop := fun H φ S ok f _ => by
    show (sx l).cps.size ≤ _
    simp [sx]
/-- over a tuple, a list, a text -/
def iSeq (te : DTE) : DTI := fun ρ S R => te ρ S fun d S1 => match d with
  | .tup ds => R ds (fun _ => True) S1
  | .lst ds => R ds (fun _ => True) S1
  | .str l => R (l.map fun c => .str [c]) (fun _ => True) S1
  | .ref n => match S1[n]? with
    | some (.lst ds) => R ds (fun S' => S'[n]? = some (.lst ds)) S1
    | _ => False
  | _ => False
theorem di_seq (he : DE X G e te) : DI X G tg e (iSeq te) := by
  refine ⟨fun pins s σ H R I h => ?_⟩
  obtain ⟨φ, ρ, S, RD, r, h, c⟩ := h
  refine thn (PE.run he pins s σ H (fun v H1 => ∃ φ1 d S1, StoOk X.K H1 φ1 S1 ∧ Ext φ H φ1 H1 ∧ Is X.K H1 φ1 d v ∧ (match d with
    | .tup ds => RD ds (fun _ => True) S1
    | .lst ds => RD ds (fun _ => True) S1
    | .str l => RD (l.map fun c => .str [c]) (fun _ => True) S1
    | .ref n => match S1[n]? with
      | some (.lst ds) => RD ds (fun S' => S'[n]? = some (.lst ds)) S1
      | _ => False
    | _ => False)) I ⟨φ, ρ, S, _, r, h, fun v H1 φ1 d S1 ok1 e1 i1 q1 => ⟨φ1, d, S1, ok1, e1, i1, q1⟩⟩) fun u s1 ⟨v, H1, I1, r1, φ1, d, S1, ok1, e1, i1, q1⟩ => ?_
  have one : ∀ b, b ∈ [s1.heap.objs.size] → FpOk X pins H1 b := fun b hb => by
    have e : b = s1.heap.objs.size := by simpa using hb
    subst e
    exact I1.fpOk (Nat.le_refl _) (I1.hok.fresh (Nat.le_refl _))
  split at q1
  · rename_i ds
    have i1' := i1
    obtain ⟨a, xs, rfl, hs, hl⟩ := i1
    cases r1
    obtain ⟨its, rv, p, hz⟩ := I1.tuple hs
    refine wpAny_pyIter_tuple (show s1.heap.IsTuple a its.toArray from p) ?_
    exact ⟨s1.heap.objs.size, [s1.heap.objs.size], _, _, H1, rfl, I1.kept (t' := s1.toks) fun b o e => Heap.get?_push_of_some _ e, turn_tuple a _, ⟨_, Heap.get?_push_size _ rfl, rfl, rfl⟩, one, c _ H1 φ1 ds _ _ S1 ok1 e1 itOk_tup stable_is i1' q1⟩
  · rename_i ds
    have i1' := i1
    obtain ⟨a, xs, rfl, hs, hl⟩ := i1
    cases r1
    obtain ⟨its, rv, p, hz⟩ := I1.list hs.sq
    refine wpAny_pyIter_list p.isList ?_
    exact ⟨s1.heap.objs.size, [s1.heap.objs.size], _, _, H1, rfl, I1.kept (t' := s1.toks) fun b o e => Heap.get?_push_of_some _ e, turn_list a _, ⟨_, Heap.get?_push_size _ rfl, rfl, rfl⟩, one, c _ H1 φ1 ds _ _ S1 ok1 e1 itOk_lst stable_is i1' q1⟩
  · rename_i l
    obtain ⟨rfl, hc⟩ := i1
    obtain ⟨t, rfl⟩ := r1
    have q := c _ H1 φ1 _ (fun _ _ => True) _ S1 ok1 e1 (itOk_str hc) (fun _ _ _ _ _ _ => trivial) trivial q1
    cases ha : (sx l).cps.all (· < 128)
    · exact wpAny_pyIter_wide ha (pi_one (tk := s1.toks) I1 _ (turn_str _ (sx l) t "str_iterator" (.inr rfl)) ⟨_, Heap.get?_push_size _ rfl, rfl, rfl⟩ q)
    · exact wpAny_pyIter_ascii ha (pi_one (tk := s1.toks) I1 _ (turn_str _ (sx l) t "str_ascii_iterator" (.inl rfl)) ⟨_, Heap.get?_push_size _ rfl, rfl, rfl⟩ q)
  · rename_i n
    split at q1
    · rename_i ds es
      have i1' := i1
      obtain ⟨a, xs, rfl, hs, hl⟩ := asL_is ok1 (show asL S1 (.ref n) = some ds by simp only [asL]; rw [es]) i1
      cases r1
      obtain ⟨its, rv, p, hz⟩ := I1.list hs
      refine wpAny_pyIter_list p.isList ?_
      exact ⟨s1.heap.objs.size, [s1.heap.objs.size], _, _, H1, rfl, I1.kept (t' := s1.toks) fun b o e => Heap.get?_push_of_some _ e, turn_list a _, ⟨_, Heap.get?_push_size _ rfl, rfl, rfl⟩, one, c _ H1 φ1 ds _ _ S1 ok1 e1 itOk_ref stable_is i1' q1⟩
    · exact q1.elim
  · exact q1.elim

/-! ### ranges -/
def rngD (lo : Int) (n : Nat) : List D := (List.range n).map fun i => .int (lo + (i : Nat))
theorem itOk_rng {K : PySem.W.Frag} {lo : Int} {n : Nat} : ItOk K (Itr lo n) (rngD lo n) (fun _ _ => True) (fun _ => True) where
  item := fun i d H φ S ok f _ hd => by
    unfold rngD at hd
    rw [List.getElem?_map] at hd
    obtain ⟨c, hc1, rfl⟩ := Option.map_eq_some_iff.mp hd
    have hi : i < n := by
      have := (List.getElem?_eq_some_iff.mp hc1).1
      simpa using this
    rw [List.getElem?_range hi] at hc1
    cases hc1
    refine ⟨hi, fun y H' hy => ?_⟩
    obtain ⟨rfl, rfl⟩ := hy
    exact ⟨ok, .refl, rfl⟩
  stop := fun H φ S ok f _ => by
    show n ≤ _
    simp [rngD]
def iRange1 (ta : DTA) : DTI := fun ρ S R => ta ρ S fun ds S1 => match ds with
  | [.int j] => -(2 ^ 62) ≤ j ∧ j < 2 ^ 62 ∧ R (rngD 0 j.toNat) (fun _ => True) S1
  | _ => False
def iRange2 (ta : DTA) : DTI := fun ρ S R => ta ρ S fun ds S1 => match ds with
  | [.int i, .int j] => (-(2 ^ 62) ≤ i ∧ i < 2 ^ 62 ∧ -(2 ^ 62) ≤ j ∧ j < 2 ^ 62) ∧ R (rngD i (j - i).toNat) (fun _ => True) S1
  | _ => False
theorem di_range1 {a : Expr} (hm : X.mg "range" = none) (ha : DA X G [a] ta) (hg : Gl X "range" := by rfl) (hs : starEach [a] X.env = [(false, eval a X.env)] := by rfl) : DI X G tg (.Call (.Name "range" p) [a] [] pos) (iRange1 ta) := by
  refine (pi_range1 hg hm ha hs).weak fun σ H R ⟨φ, ρ, S, RD, r, h, c⟩ => ?_
  refine ⟨φ, ρ, S, _, r, h, fun vs H1 φ1 ds S1 ok1 e1 i1 q1 => ?_⟩
  split at q1
  · obtain ⟨v, rfl, rfl⟩ := i1.one
    exact ⟨_, rfl, q1.1, q1.2.1, c _ H1 φ1 _ (fun _ _ => True) _ S1 ok1 e1 itOk_rng (fun _ _ _ _ _ _ => trivial) trivial q1.2.2⟩
  · exact q1.elim
theorem di_range2 {a b : Expr} (hm : X.mg "range" = none) (ha : DA X G [a, b] ta) (hg : Gl X "range" := by rfl) (hs : starEach [a, b] X.env = [(false, eval a X.env), (false, eval b X.env)] := by rfl) (hs2 : starEach [b] X.env = [(false, eval b X.env)] := by rfl) :
    DI X G tg (.Call (.Name "range" p) [a, b] [] pos) (iRange2 ta) := by
  refine (pi_range2 hg hm ha hs hs2).weak fun σ H R ⟨φ, ρ, S, RD, r, h, c⟩ => ?_
  refine ⟨φ, ρ, S, _, r, h, fun vs H1 φ1 ds S1 ok1 e1 i1 q1 => ?_⟩
  split at q1
  · obtain ⟨u, v, rfl, rfl, rfl⟩ := i1.two
    exact ⟨_, _, rfl, q1.1, c _ H1 φ1 _ (fun _ _ => True) _ S1 ok1 e1 itOk_rng (fun _ _ _ _ _ _ => trivial) trivial q1.2⟩
  · exact q1.elim
/-- downward by ones -/
def rngN (hi : Int) (n : Nat) : List D := (List.range n).map fun i => .int (hi + (i : Nat) * (-1))
theorem itOk_rngN {K : PySem.W.Frag} {hi : Int} {n : Nat} : ItOk K (Itc hi (-1) n) (rngN hi n) (fun _ _ => True) (fun _ => True) where
  item := fun i d H φ S ok f _ hd => by
    unfold rngN at hd
    rw [List.getElem?_map] at hd
    obtain ⟨c, hc1, rfl⟩ := Option.map_eq_some_iff.mp hd
    have hi : i < n := by
      have := (List.getElem?_eq_some_iff.mp hc1).1
      simpa using this
    rw [List.getElem?_range hi] at hc1
    cases hc1
    refine ⟨hi, fun y H' hy => ?_⟩
    obtain ⟨rfl, rfl⟩ := hy
    exact ⟨ok, .refl, rfl⟩
  stop := fun H φ S ok f _ => by
    show n ≤ _
    simp [rngN]
def iRange3 (ta : DTA) : DTI := fun ρ S R => ta ρ S fun ds S1 => match ds with
  | [.int i, .int j, .int c] => (c = -1 ∧ -(2 ^ 62) ≤ i ∧ i < 2 ^ 62 ∧ -(2 ^ 62) ≤ j ∧ j < 2 ^ 62) ∧ R (rngN i (i - j).toNat) (fun _ => True) S1
  | _ => False
theorem di_range3 {a b c : Expr} (hm : X.mg "range" = none) (ha : DA X G [a, b, c] ta) (hg : Gl X "range" := by rfl) (hs : starEach [a, b, c] X.env = (false, eval a X.env) :: starEach [b, c] X.env := by rfl)
    (hpl : (backTo pos (starEach [b, c] X.env)).any (·.1) = false := by rfl) : DI X G tg (.Call (.Name "range" p) [a, b, c] [] pos) (iRange3 ta) := by
  refine (pi_range3 hg hm ha hs hpl).weak fun σ H R ⟨φ, ρ, S, RD, r, h, cc⟩ => ?_
  refine ⟨φ, ρ, S, _, r, h, fun vs H1 φ1 ds S1 ok1 e1 i1 q1 => ?_⟩
  split at q1
  · obtain ⟨x1, r1, rfl, rfl, i2⟩ := i1
    obtain ⟨u, v, rfl, rfl, rfl⟩ := IsL.two i2
    obtain ⟨⟨rfl, a1, a2, a3, a4⟩, q⟩ := q1
    exact ⟨_, _, -1, _, rfl, RgC.neg a1 a2 a3 a4, cc _ H1 φ1 _ (fun _ _ => True) _ S1 ok1 e1 itOk_rngN (fun _ _ _ _ _ _ => trivial) trivial q⟩
  · exact q1.elim

/-! ### zip -/
theorem pair_at {K : PySem.W.Frag} {H : Hp} {φ : Phi} {S : Sto} {T : Addr} {x y : V} {d e : D} (ok : StoOk K H φ S) (hT : H T = none) (ix : Is K H φ d x) (iy : Is K H φ e y) :
    StoOk K (upd H T (.tup [x, y])) φ S ∧ Ext φ H φ (upd H T (.tup [x, y])) ∧ Is K (upd H T (.tup [x, y])) φ (.tup [d, e]) (.ref T) :=
  ⟨ok.fresh hT, Ext.fresh hT, .newTup hT (.cons ix (.cons iy .nil))⟩
def zipD (ds es : List D) : List D := List.zipWith (fun x y => D.tup [x, y]) ds es
theorem zipD_get {ds es : List D} {i : Nat} {d : D} (h : (zipD ds es)[i]? = some d) : ∃ x y, ds[i]? = some x ∧ es[i]? = some y ∧ d = .tup [x, y] := by
  unfold zipD at h
  rw [List.getElem?_zipWith] at h
  split at h
  · rename_i x y hx hy
    exact ⟨x, y, hx, hy, (Option.some.inj h).symm⟩
  · cases h
theorem itOk_zipT {K : PySem.W.Frag} {a b : Addr} {ds es : List D} : ItOk K (RZ.ItzT K a b) (zipD ds es) (fun H φ => Is K H φ (.tup ds) (.ref a) ∧ Is K H φ (.tup es) (.ref b)) (fun _ => True) where
  item := fun i d H φ S ok f _ hd => by
    obtain ⟨x, y, hx, hy, rfl⟩ := zipD_get hd
    obtain ⟨⟨_, xs, e1, h1, l1⟩, ⟨_, ys, e2, h2, l2⟩⟩ := f
    cases e1; cases e2
    obtain ⟨u, hu, iu⟩ := l1.get hx
    obtain ⟨v, hv, iv⟩ := l2.get hy
    refine ⟨⟨xs, ys, u, v, h1, h2, hu, hv⟩, fun z H' hz => ?_⟩
    obtain ⟨T, u', v', rfl, nT, rfl, f1, f2⟩ := hz
    have q1 := f1 _ h1
    have q2 := f2 _ h2
    rw [hu] at q1; cases q1
    rw [hv] at q2; cases q2
    exact pair_at ok nT iu iv
  stop := fun H φ S ok f _ => by
    obtain ⟨⟨_, xs, e1, h1, l1⟩, ⟨_, ys, e2, h2, l2⟩⟩ := f
    cases e1; cases e2
    refine ⟨xs, ys, h1, h2, ?_⟩
    unfold zipD
    rw [List.length_zipWith, ← l1.length, ← l2.length]
    omega
theorem itOk_zipL {K : PySem.W.Frag} {a b : Addr} {ds es : List D} : ItOk K (Itz K a b) (zipD ds es) (fun H φ => Is K H φ (.lst ds) (.ref a) ∧ Is K H φ (.lst es) (.ref b)) (fun _ => True) where
  item := fun i d H φ S ok f _ hd => by
    obtain ⟨x, y, hx, hy, rfl⟩ := zipD_get hd
    obtain ⟨⟨_, xs, e1, h1, l1⟩, ⟨_, ys, e2, h2, l2⟩⟩ := f
    cases e1; cases e2
    obtain ⟨u, hu, iu⟩ := l1.get hx
    obtain ⟨v, hv, iv⟩ := l2.get hy
    refine ⟨⟨xs, ys, u, v, h1.sq, h2.sq, hu, hv⟩, fun z H' hz => ?_⟩
    obtain ⟨T, u', v', rfl, nT, rfl, f1, f2⟩ := hz
    have q1 := f1 _ h1.sq
    have q2 := f2 _ h2.sq
    rw [hu] at q1; cases q1
    rw [hv] at q2; cases q2
    exact pair_at ok nT iu iv
  stop := fun H φ S ok f _ => by
    obtain ⟨⟨_, xs, e1, h1, l1⟩, ⟨_, ys, e2, h2, l2⟩⟩ := f
    cases e1; cases e2
    refine ⟨xs, ys, h1.sq, h2.sq, ?_⟩
    unfold zipD
    rw [List.length_zipWith, ← l1.length, ← l2.length]
    omega
theorem stable_and {K : PySem.W.Frag} {d e : D} {v u : V} : Stable fun H φ => Is K H φ d v ∧ Is K H φ e u := fun _ _ _ _ x h => ⟨h.1.ext0 x, h.2.ext0 x⟩
def iZip (ta : DTA) : DTI := fun ρ S R => ta ρ S fun ds S1 => match ds with
  | [.tup a, .tup b] => R (zipD a b) (fun _ => True) S1
  | [.lst a, .lst b] => R (zipD a b) (fun _ => True) S1
  | _ => False
theorem di_zip {elts : List Expr} {kk : Nat} {tpos : Pos} (hm : X.mg "zip" = none) (ha : DA X G [e, e2] ta) (hg : Gl X "zip" := by rfl)
    (hs : starEach [e, e2] X.env = (false, eval e X.env) :: starEach [e2] X.env := by rfl) (hpl : (backTo pos (starEach [e2] X.env)).any (·.1) = false := by rfl) : DI X G (.Tuple elts kk tpos) (.Call (.Name "zip" p) [e, e2] [] pos) (iZip ta) := by
  refine (RZ.pi_zipA hg hm ha hs hpl).weak fun σ H R ⟨φ, ρ, S, RD, r, h, c⟩ => ?_
  refine ⟨φ, ρ, S, _, r, h, fun vs H1 φ1 ds S1 ok1 e1 i1 q1 => ?_⟩
  split at q1
  · obtain ⟨u, v, rfl, iu, iv⟩ := i1.two
    obtain ⟨a, xs, rfl, h1, _⟩ := id iu
    obtain ⟨b, ys, rfl, h2, _⟩ := id iv
    exact ⟨a, b, xs, ys, rfl, .inr ⟨h1, h2, c _ H1 φ1 _ _ _ S1 ok1 e1 itOk_zipT stable_and ⟨iu, iv⟩ q1⟩⟩
  · obtain ⟨u, v, rfl, iu, iv⟩ := i1.two
    obtain ⟨a, xs, rfl, h1, _⟩ := id iu
    obtain ⟨b, ys, rfl, h2, _⟩ := id iv
    exact ⟨a, b, xs, ys, rfl, .inl ⟨h1.sq, h2.sq, c _ H1 φ1 _ _ _ S1 ok1 e1 itOk_zipL stable_and ⟨iu, iv⟩ q1⟩⟩
  · exact q1.elim

/-! ### enumerate -/
def enD (ds : List D) : List D := ds.mapIdx fun i d => D.tup [.int (i : Nat), d]
theorem enD_get {ds : List D} {i : Nat} {d : D} (h : (enD ds)[i]? = some d) : ∃ x, ds[i]? = some x ∧ d = .tup [.int (i : Nat), x] := by
  unfold enD at h
  rw [List.getElem?_mapIdx] at h
  obtain ⟨x, h1, rfl⟩ := Option.map_eq_some_iff.mp h
  exact ⟨x, h1, rfl⟩
/-- what enumerate walks, over something that draws -/
def IteG (go : Nat → Hp → V → Prop) (n : Hp → Nat → Prop) : It :=
  ⟨fun i H => ∃ x, go i H x, fun i H v H' => ∃ T x, v = .ref T ∧ H T = none ∧ H' = upd H T (.tup [.int (i : Nat), x]) ∧ ∀ y, go i H y → y = x, fun i H => n H i⟩
abbrev IteT (K : PySem.W.Frag) (a : Addr) : It := IteG (fun i H x => ∃ xs, SqT K H a xs ∧ xs[i]? = some x) (fun H i => ∃ xs, SqT K H a xs ∧ i = xs.length)
theorem turn_enumT {P : Program} {w : World} {K : PySem.W.Frag} {elts : List Expr} {kk : Nat} {tpos : Pos} (a e it : Addr) :
    Turn P w K (.Tuple elts kk tpos) (IteT K a) [e, it] e (fun i h => (∃ old, IsEnum h e it ((i : Nat) : Int) old) ∧ h.IsTupleIter it a i ∧ e ≠ it) where
  mem := by simp
  obj := fun i h st b hb => by
    obtain ⟨⟨old, he⟩, ⟨o, ho, hc, hd⟩, _⟩ := st
    have e' : b = e ∨ b = it := by simpa using hb
    rcases e' with z | z
    · rw [z]; exact ⟨_, he, fun v q => nomatch q⟩
    · rw [z]; exact ⟨o, ho, fun v q => by rw [hd] at q; cases q⟩
  keep := fun i h h' st k => let ⟨⟨old, he⟩, hi, hne⟩ := st; ⟨⟨old, k e (by simp) _ he⟩, hi.at fun o q => k it (by simp) o q, hne⟩
  item := by
    intro X hP hw hK hc i pins s σ H E I hf st hg
    subst hP hw hK
    obtain ⟨⟨old, he⟩, hit, hne⟩ := st
    obtain ⟨x, xs, hq, hx⟩ := hg
    obtain ⟨its, rv, p, hz⟩ := I.tuple hq
    obtain ⟨u, hu, ru⟩ := rv.get hx
    have hel : e < s.heap.objs.size := Heap.lt_size he
    have hil : it < s.heap.objs.size := by obtain ⟨_, q, _⟩ := hit; exact Heap.lt_size q
    have hai : a ≠ it := fun z => by
      subst z
      obtain ⟨o, ho, hoc, _⟩ := p
      obtain ⟨o', ho', hc', _⟩ := hit
      rw [ho] at ho'; cases ho'
      rw [hoc] at hc'
      exact absurd (Value.type.inj hc') (by decide)
    have hae : a ≠ e := fun z => by
      subst z
      obtain ⟨o, ho, hoc, _⟩ := p
      have he' : s.heap.get? a = some _ := he
      rw [ho] at he'; cases he'
      exact absurd (Value.type.inj hoc) (by decide)
    have hlt : i < its.toArray.size := by
      have := (List.getElem?_eq_some_iff.mp hu).1
      simpa using this
    refine wpAny_pyNext_enum_itemD (Draws.tuple (prog := X.prog) (w := X.w) (A := X.A.in1) (show X.A.in1.handled = none from I.ok.hd hc) it a hai its.toArray) he ⟨hit, p⟩ hlt hne (by simp [hne, Ne.symm hae]) fun x' h' tk hP ho hst hT hsz hk => ?_
    have ex : x' = u := by
      have : its.toArray[i]? = some x' := hP
      rw [show its.toArray[i]? = some u by simpa using hu] at this
      exact (Option.some.inj this).symm
    subst ex
    refine ⟨_, rfl, wpAny_letOwnedTupleGo_enum (s := { s with heap := h', toks := tk + 1 }) ho fun h'' he' sb => ?_⟩
    have hT2 : h''.get? s.heap.objs.size = some { cls := .type "tuple", data := .seq #[.int i tk, x'] } := (sb.2 _ (Nat.ne_of_gt hel)).trans hT
    have new : ObjOk X.prog X.w (upd H s.heap.objs.size (.tup [.int (i : Nat), x])) h'' s.heap.objs.size (.tup [.int (i : Nat), x]) :=
      ⟨by show 2 ≤ sizeLine; decide, [.int i tk, x'], .cons ⟨_, rfl⟩ (.cons ru .nil), ⟨_, hT2, rfl, _, rfl⟩⟩
    have I1 : Inv X pins σ (upd H s.heap.objs.size (.tup [.int (i : Nat), x])) { s with heap := h'', toks := tk + 1 } :=
      I.turnedNew (ch := [e, it]) (fun b ob hb q => (sb.2 b (fun z => hb (by simp [z]))).trans (hk b ob (fun z => hb (by simp [z])) (fun z => hb (by simp [z])) q)) hf (Nat.le_refl _) new
    refine ⟨.ref s.heap.objs.size, _, I1, rfl, ⟨_, x, rfl, I.hok.fresh (Nat.le_refl _), rfl, fun y ⟨ys, hy, hyx⟩ => ?_⟩, ⟨⟨x', ?_⟩, hst.1.at fun o q => (sb.2 it (Ne.symm hne)).trans q, hne⟩, fun b hb => ?_⟩
    · rw [I.tuple_inj hy hq, hx] at hyx
      exact (Option.some.inj hyx).symm
    · have e1 : ((i + 1 : Nat) : Int) = (i : Int) + 1 := by omega
      rw [e1]; exact he'
    · have hb' : b < s.heap.objs.size := by
        have e' : b = e ∨ b = it := by simpa using hb
        rcases e' with z | z
        · rw [z]; exact hel
        · rw [z]; exact hil
      rw [upd_ne (Nat.ne_of_lt hb')]
      exact (hf b hb).1
  done := by
    intro X hP hw hK hc i pins s σ H E I hf st hg
    subst hP hw hK
    obtain ⟨⟨old, he⟩, hit, hne⟩ := st
    obtain ⟨xs, hq, hx⟩ := hg
    obtain ⟨its, rv, p, hz⟩ := I.tuple hq
    have hl := rv.length
    have hai : a ≠ it := fun z => by
      subst z
      obtain ⟨o, ho, hoc, _⟩ := p
      obtain ⟨o', ho', hc', _⟩ := hit
      rw [ho] at ho'; cases ho'
      rw [hoc] at hc'
      exact absurd (Value.type.inj hc') (by decide)
    have ei : i = its.toArray.size := by rw [List.size_toArray, ← hl]; exact hx
    subst ei
    obtain ⟨f0, f1, f2, f3, f4, f5⟩ := hf it (by simp)
    exact wpAny_pyNext_enum_endD (Draws.tuple (prog := X.prog) (w := X.w) (A := X.A.in1) (show X.A.in1.handled = none from I.ok.hd hc) it a hai its.toArray) he ⟨hit, p⟩ fun h' eb => ⟨rfl, I.turned (t' := s.toks) (fun b o hb q => eb b o hb q) f0 f1 f3 f4 f5⟩
  self := fun A i s Q E st h => let ⟨⟨_, he⟩, _⟩ := st; wpAny_pyIter_enum he h
/-- over a text -/
abbrev IteS (z : Str) : It := IteG (fun i _ x => ∃ c, z.cps[i]? = some c ∧ x = .str ⟨#[c]⟩) (fun _ i => i = z.cps.size)
theorem turn_enumS {P : Program} {w : World} {K : PySem.W.Frag} {elts : List Expr} {kk : Nat} {tpos : Pos} (z : Str) (tk0 : Tok) (e it : Addr) :
    Turn P w K (.Tuple elts kk tpos) (IteS z) [e, it] e (fun i h => (∃ old, IsEnum h e it ((i : Nat) : Int) old) ∧ h.IsStrIter it (strIterType z) z tk0 i ∧ e ≠ it) where
  mem := by simp
  obj := fun i h st b hb => by
    obtain ⟨⟨old, he⟩, ⟨o, ho, hc, hd⟩, _⟩ := st
    have e' : b = e ∨ b = it := by simpa using hb
    rcases e' with z | z
    · rw [z]; exact ⟨_, he, fun v q => nomatch q⟩
    · rw [z]; exact ⟨o, ho, fun v q => by rw [hd] at q; cases q⟩
  keep := fun i h h' st k => let ⟨⟨old, he⟩, hi, hne⟩ := st; ⟨⟨old, k e (by simp) _ he⟩, (let ⟨o, h1, h2, h3⟩ := hi; ⟨o, k it (by simp) o h1, h2, h3⟩), hne⟩
  item := by
    intro X hP hw hK hc i pins s σ H E I hf st hg
    subst hP hw hK
    obtain ⟨⟨old, he⟩, hit, hne⟩ := st
    obtain ⟨x, c, hc1, rfl⟩ := hg
    have hel : e < s.heap.objs.size := Heap.lt_size he
    have hil : it < s.heap.objs.size := by obtain ⟨_, q, _⟩ := hit; exact Heap.lt_size q
    have hlt : i < z.cps.size := by
      rcases Nat.lt_or_ge i z.cps.size with h | h
      · exact h
      · rw [Array.getElem?_eq_none h] at hc1; cases hc1
    refine wpAny_pyNext_enum_itemD (Draws.text (prog := X.prog) (w := X.w) (A := X.A.in1) (show X.A.in1.handled = none from I.ok.hd hc) it z tk0) he hit hlt hne (by simp [hne]) fun x' h' tk hP ho hst hT hsz hk => ?_
    obtain ⟨c', u', hc', rfl⟩ := hP
    rw [hc1] at hc'; cases hc'
    refine ⟨_, rfl, wpAny_letOwnedTupleGo_enum (s := { s with heap := h', toks := tk + 1 }) ho fun h'' he' sb => ?_⟩
    have hT2 : h''.get? s.heap.objs.size = some { cls := .type "tuple", data := .seq #[.int i tk, .str ⟨#[c]⟩ u'] } := (sb.2 _ (Nat.ne_of_gt hel)).trans hT
    have new : ObjOk X.prog X.w (upd H s.heap.objs.size (.tup [.int (i : Nat), .str ⟨#[c]⟩])) h'' s.heap.objs.size (.tup [.int (i : Nat), .str ⟨#[c]⟩]) :=
      ⟨by show 2 ≤ sizeLine; decide, [.int i tk, .str ⟨#[c]⟩ u'], .cons ⟨_, rfl⟩ (.cons ⟨_, rfl⟩ .nil), ⟨_, hT2, rfl, _, rfl⟩⟩
    have I1 : Inv X pins σ (upd H s.heap.objs.size (.tup [.int (i : Nat), .str ⟨#[c]⟩])) { s with heap := h'', toks := tk + 1 } :=
      I.turnedNew (ch := [e, it]) (fun b ob hb q => (sb.2 b (fun z => hb (by simp [z]))).trans (hk b ob (fun z => hb (by simp [z])) (fun z => hb (by simp [z])) q)) hf (Nat.le_refl _) new
    refine ⟨.ref s.heap.objs.size, _, I1, rfl, ⟨_, .str ⟨#[c]⟩, rfl, I.hok.fresh (Nat.le_refl _), rfl, fun y ⟨c2, h2, h3⟩ => ?_⟩, ⟨⟨.str ⟨#[c]⟩ u', ?_⟩, (let ⟨o, h1, h2, h3⟩ := hst; ⟨o, (sb.2 it (Ne.symm hne)).trans h1, h2, h3⟩), hne⟩, fun b hb => ?_⟩
    · rw [hc1] at h2; cases h2
      exact h3
    · have e1 : ((i + 1 : Nat) : Int) = (i : Int) + 1 := by omega
      rw [e1]; exact he'
    · have hb' : b < s.heap.objs.size := by
        have e' : b = e ∨ b = it := by simpa using hb
        rcases e' with z | z
        · rw [z]; exact hel
        · rw [z]; exact hil
      rw [upd_ne (Nat.ne_of_lt hb')]
      exact (hf b hb).1
  done := by
    intro X hP hw hK hc i pins s σ H E I hf st hg
    subst hP hw hK
    obtain ⟨⟨old, he⟩, hit, hne⟩ := st
    have ei : i = z.cps.size := hg
    subst ei
    obtain ⟨f0, f1, f2, f3, f4, f5⟩ := hf it (by simp)
    exact wpAny_pyNext_enum_endD (Draws.text (prog := X.prog) (w := X.w) (A := X.A.in1) (show X.A.in1.handled = none from I.ok.hd hc) it z tk0) he hit fun h' eb => ⟨rfl, I.turned (t' := s.toks) (fun b o hb q => eb b o hb q) f0 f1 f3 f4 f5⟩
  self := fun A i s Q E st h => let ⟨⟨_, he⟩, _⟩ := st; wpAny_pyIter_enum he h
/-- enumerate(v) begins -/
theorem meets_enumerate_1B {v : Value} {o : Obj} {H : Heap → Prop} (B : Begins v o H) :
    Meets (Builtin.«enumerate.__new__» ⟨[.type "enumerate", v], []⟩) (fun _ R s => H s.heap ∧
      R (.ok (.ret (.ref (s.heap.push o).objs.size))) { s with heap := (s.heap.push o).push { cls := .type "enumerate", data := .fields #[.none, .bool false, .ref s.heap.objs.size, rawInt 0, .none, .none] } }) :=
  .of_wp fun prog w A R s h => by
    obtain ⟨hp, g, d, tk, os⟩ := s; obtain ⟨h1, h⟩ := h
    have hsub := sub_enumerate
    have q1 : ∀ {A' : Around} {E : Value → Shared → Prop} {Q : Value → Shared → Prop}, Q (.ref hp.objs.size) ⟨hp.push o, g, d, tk, os⟩ → wpAny (model prog w) A' (pyIter v) Q E ⟨hp, g, d, tk, os⟩ :=
      fun q => B.iter prog w _ _ ⟨hp, g, d, tk, os⟩ _ h1 q
    wp_walk using q1
    refine wpAny_stack_any fun st => wpAny_pure ?_
    split
    · rename_i c _ _ _ _ _
      cases (c == Value.type "enumerate")
      · wp_walk using q1
        exact ⟨_, rfl, h⟩
      · wp_walk using q1
        exact ⟨_, rfl, h⟩
    · wp_walk using q1
      exact ⟨_, rfl, h⟩
theorem call_enumerate_B {prog : Program} {w : World} {A : Around} {E : Value → Shared → Prop} {s : Shared} {v : Value} {o : Obj} {H : Heap → Prop} {Q : Value → Shared → Prop} (B : Begins v o H) (h1 : H s.heap)
    (h : ∀ h', IsEnum h' (s.heap.objs.size + 1) s.heap.objs.size 0 .none → h'.get? s.heap.objs.size = some o → h'.objs.size = s.heap.objs.size + 2 →
      (∀ b o, s.heap.get? b = some o → h'.get? b = some o) → Q (.ref (s.heap.objs.size + 1)) { s with heap := h' }) :
    wpAny (model prog w) A (call (.type "enumerate") [v]) Q E s := by
  refine callType_new F.called_enumerate (by decide) (F.typeCall_enumerate_1 _) (F.newCall_enumerate_1 _) (fun obj => F.args_object_init_2 obj _) F.entry_enumerate_new (meets_enumerate_1B B) ⟨h1, ?_⟩
  have hz : (s.heap.push o).objs.size = s.heap.objs.size + 1 := Heap.size_push ..
  show _ ∧ _
  rw [hz]
  have he : IsEnum ((s.heap.push o).push { cls := .type "enumerate", data := .fields #[.none, .bool false, .ref s.heap.objs.size, rawInt 0, .none, .none] }) (s.heap.objs.size + 1) s.heap.objs.size 0 .none := by
    have := Heap.get?_push_size (s.heap.push o) (o := { cls := .type "enumerate", data := .fields #[.none, .bool false, .ref s.heap.objs.size, rawInt 0, .none, .none] }) rfl
    rw [hz] at this; exact this
  refine ⟨⟨_, he, rfl⟩, h _ he (Heap.get?_push_of_some _ (Heap.get?_push_size _ B.free)) (by rw [Heap.size_push, hz]) fun b o x => Heap.get?_push_of_some _ (Heap.get?_push_of_some _ x)⟩
theorem itOk_en {K : PySem.W.Frag} {ds : List D} {go : Nat → Hp → V → Prop} {n : Hp → Nat → Prop} {fz : Hp → Phi → Prop}
    (h1 : ∀ (i : Nat) (d : D) (H : Hp) (φ : Phi), fz H φ → ds[i]? = some d → ∃ x, go i H x ∧ Is K H φ d x) (h2 : ∀ H φ, fz H φ → n H ds.length) : ItOk K (IteG go n) (enD ds) fz (fun _ => True) where
  item := fun i d H φ S ok f _ hd => by
    obtain ⟨x, hx, rfl⟩ := enD_get hd
    obtain ⟨u, gu, iu⟩ := h1 i x H φ f hx
    refine ⟨⟨u, gu⟩, fun z H' hz => ?_⟩
    obtain ⟨T, u', rfl, nT, rfl, f1⟩ := hz
    rw [← f1 u gu]
    exact pair_at ok nT rfl iu
  stop := fun H φ S ok f _ => by
    have : (enD ds).length = ds.length := by simp [enD]
    rw [this]
    exact h2 H φ f
theorem itOk_enL {K : PySem.W.Frag} {a : Addr} {ds : List D} : ItOk K (Ite K a) (enD ds) (fun H φ => Is K H φ (.lst ds) (.ref a)) (fun _ => True) where
  item := fun i d H φ S ok f _ hd => by
    obtain ⟨x, hx, rfl⟩ := enD_get hd
    obtain ⟨_, xs, e1, hs, l1⟩ := f
    cases e1
    obtain ⟨u, hu, iu⟩ := l1.get hx
    refine ⟨⟨xs, u, hs.sq, hu⟩, fun z H' hz => ?_⟩
    obtain ⟨T, u', rfl, nT, rfl, f1⟩ := hz
    have q := f1 xs hs.sq
    rw [hu] at q
    cases q
    exact pair_at ok nT rfl iu
  stop := fun H φ S ok f _ => by
    obtain ⟨_, xs, e1, hs, l1⟩ := f
    cases e1
    exact ⟨xs, hs.sq, by simp [enD, l1.length]⟩
def iEn (ta : DTA) : DTI := fun ρ S R => ta ρ S fun ds S1 => match ds with
  | [.tup a] => R (enD a) (fun _ => True) S1
  | [.lst a] => R (enD a) (fun _ => True) S1
  | [.str l] => R (enD (l.map fun c => .str [c])) (fun _ => True) S1
  | _ => False
theorem di_enum {elts : List Expr} {kk : Nat} {tpos : Pos} (hm : X.mg "enumerate" = none) (ha : DA X G [e] ta) (hg : Gl X "enumerate" := by rfl) (hs : starEach [e] X.env = [(false, eval e X.env)] := by rfl) :
    DI X G (.Tuple elts kk tpos) (.Call (.Name "enumerate" p) [e] [] pos) (iEn ta) := by
  refine ⟨fun pins s σ H R I h => ?_⟩
  obtain ⟨φ, ρ, S, RD, r, h, c⟩ := h
  refine Call_ (ld_blt I hg hm boot_enumerate (PyProof.Rows.callWith_type1 (thn (PA.run ha pos pins s σ H (fun vs H1 => ∃ φ1 ds S1, StoOk X.K H1 φ1 S1 ∧ Ext φ H φ1 H1 ∧ IsL X.K H1 φ1 ds vs ∧ (match ds with
    | [.tup a] => RD (enD a) (fun _ => True) S1
    | [.lst a] => RD (enD a) (fun _ => True) S1
    | [.str l] => RD (enD (l.map fun c => .str [c])) (fun _ => True) S1
    | _ => False)) I ⟨φ, ρ, S, _, r, h, fun v H1 φ1 d S1 ok1 e1 i1 q1 => ⟨φ1, d, S1, ok1, e1, i1, q1⟩⟩) fun us s1 ⟨vs, H1, I1, r1, φ1, ds, S1, ok1, e1, i1, q1⟩ => ?_) hs rfl))
  have two : ∀ b, b ∈ [s1.heap.objs.size + 1, s1.heap.objs.size] → FpOk X pins H1 b := fun b hb => by
    have e' : b = s1.heap.objs.size + 1 ∨ b = s1.heap.objs.size := by simpa using hb
    have hle : s1.heap.objs.size ≤ b := by
      rcases e' with z | z
      · rw [z]; exact Nat.le_add_right _ _
      · rw [z]; exact Nat.le_refl _
    exact I1.fpOk hle (I1.hok.fresh hle)
  split at q1
  · rename_i a0
    obtain ⟨v, rfl, iv⟩ := i1.one
    obtain ⟨u, rfl, ru⟩ := r1.one
    have iv' := iv
    obtain ⟨a, xs, rfl, hq, hl⟩ := iv
    cases ru
    obtain ⟨its, rv, p', hz⟩ := I1.tuple hq
    refine call_enumerate_B (begins_tuple a its.toArray) p' fun h' he hit hsz hk => wpAny_pyIter_enum he ?_
    refine ⟨s1.heap.objs.size + 1, [s1.heap.objs.size + 1, s1.heap.objs.size], _, _, H1, rfl, I1.kept (t' := s1.toks) hk, turn_enumT a (s1.heap.objs.size + 1) s1.heap.objs.size, ⟨⟨.none, he⟩, ⟨_, hit, rfl, rfl⟩, Nat.succ_ne_self _⟩, two, c _ H1 φ1 _ (fun H φ => Is X.K H φ (.tup a0) (.ref a)) _ S1 ok1 e1 (itOk_en (fun i d H φ f hd => ?_) fun H φ f => ?_) stable_is iv' q1⟩
    · obtain ⟨_, ys, e2, h2, l2⟩ := f
      cases e2
      obtain ⟨y, hy, iy⟩ := l2.get hd
      exact ⟨y, ⟨ys, h2, hy⟩, iy⟩
    · obtain ⟨_, ys, e2, h2, l2⟩ := f
      cases e2
      exact ⟨ys, h2, l2.length⟩
  · rename_i a0
    obtain ⟨v, rfl, iv⟩ := i1.one
    obtain ⟨u, rfl, ru⟩ := r1.one
    have iv' := iv
    obtain ⟨a, xs, rfl, hq, hl⟩ := iv
    cases ru
    obtain ⟨its, rv, p', hz⟩ := I1.list hq.sq
    refine call_enumerate_list p'.isList fun h' he hit hsz hk => wpAny_pyIter_enum he ?_
    exact ⟨s1.heap.objs.size + 1, [s1.heap.objs.size + 1, s1.heap.objs.size], _, _, H1, rfl, I1.kept (t' := s1.toks) hk, turn_enum a (s1.heap.objs.size + 1) s1.heap.objs.size, ⟨⟨.none, he⟩, hit, Nat.succ_ne_self _⟩, two, c _ H1 φ1 _ _ _ S1 ok1 e1 itOk_enL stable_is iv' q1⟩
  · rename_i l
    obtain ⟨v, rfl, rfl, hc⟩ := i1.one
    obtain ⟨u, rfl, t, rfl⟩ := r1.one
    refine call_enumerate_B (begins_text (sx l) t) trivial fun h' he hit hsz hk => wpAny_pyIter_enum he ?_
    refine ⟨s1.heap.objs.size + 1, [s1.heap.objs.size + 1, s1.heap.objs.size], _, _, H1, rfl, I1.kept (t' := s1.toks) hk, turn_enumS (sx l) t (s1.heap.objs.size + 1) s1.heap.objs.size, ⟨⟨.none, he⟩, ⟨_, hit, rfl, rfl⟩, Nat.succ_ne_self _⟩, two, c _ H1 φ1 _ (fun _ _ => True) _ S1 ok1 e1 (itOk_en (fun i d H φ f hd => ?_) fun H φ f => ?_) (fun _ _ _ _ _ _ => trivial) trivial q1⟩
    · rw [List.getElem?_map] at hd
      obtain ⟨c', hc1, rfl⟩ := Option.map_eq_some_iff.mp hd
      exact ⟨.str ⟨#[c']⟩, ⟨c', by simpa [sx] using hc1, rfl⟩, rfl, fun z hz => by rw [List.mem_singleton.mp hz]; exact hc c' (List.mem_of_getElem? hc1)⟩
    · simp [sx]
  · exact q1.elim
end
end DL

/-! DL7: stores into lists, three names at once; the law's start. -/
namespace DL
open PySem PySem.Spec L2 TL
open PyProof.Rows hiding St
section
variable {X : Cx} {G : GX} {pos p : Pos} {e o i : Expr}
/-- xs[i] = e -/
def sSubL (tv to ti : DTE) : DTS := fun D ρ S => tv ρ S fun v S1 => to ρ S1 fun d S2 => ti ρ S2 fun k S3 => match d, k with
  | .ref n, .int j => match S3[n]? with
    | some (.lst xs) => match ixN xs.length j with
      | some m => D.nx ρ (S3.set n (.lst (xs.set m v)))
      | none => False
    | _ => False
  | _, _ => False
theorem ds_subL {tv to ti : DTE} {p' : Pos} (he : DE X G e tv) (ho : DE X G o to) (hi : DE X G i ti)
    (ha : ∀ v, assign (.Subscript o i p') X.env v = (do
      let ov ← holding [v] (eval o X.env)
      let iv ← holding [v, ov] (eval i X.env)
      standAt p'
      holding [v, ov, iv] (setItem ov iv v)
      release [v, ov, iv] []) := by intro _; rfl)
    (hs : swapsWithSole [.Subscript o i p'] e pos.line X.env = pure false := by rfl) (hw : swappedStores [.Subscript o i p'] e X.env = pure none := by rfl)
    (h1 : (assignEach [.Subscript o i p'] X.env).map (·.2) = [assign (.Subscript o i p') X.env] := by rfl) : DS X G (.Assign [.Subscript o i p'] e pos) (sSubL tv to ti) := by
  refine (ps_asg he (pg_sub ho hi set_list ha) hs hw h1).weak fun D σ H ⟨φ, ρ, S, DD, r, h, c⟩ => ?_
  refine ⟨φ, ρ, S, _, r, h, fun v H1 φ1 d S1 ok1 e1 i1 q1 => ?_⟩
  refine ⟨φ1, ρ, S1, _, r.ext ok1 e1, q1, fun u H2 φ2 ou S2 ok2 e2 i2 q2 => ?_⟩
  refine ⟨φ2, ρ, S2, _, (r.ext ok1 e1).ext ok2 e2, q2, fun k H3 φ3 kd S3 ok3 e3 i3 q3 => ?_⟩
  have e13 := (e1.trans e2).trans e3
  split at q3
  · rename_i n j
    split at q3
    · rename_i xs es
      split at q3
      · rename_i m em
        cases i3
        obtain ⟨a, h1, ys, h2, h3⟩ := ok3.at es (fun z => nomatch z)
        obtain ⟨o', h4, h5⟩ := i2.ext e3
        rw [h1] at h4
        cases h4
        obtain rfl := h5 a rfl
        have iv := (i1.ext e2).ext e3
        have ex : Ext φ3 H3 φ3 (upd H3 a (.lst (ys.set m v))) := Ext.put ok3 h1
        refine ⟨a, ys, j, m, rfl, rfl, h2, by rw [← h3.length]; exact em, ?_⟩
        have ok4 : StoOk X.K (upd H3 a (.lst (ys.set m v))) φ3 (S3.set n (.lst (xs.set m d))) := ok3.put h1 ⟨_, upd_same, (h3.set m iv).ext ex⟩
        exact c.nx σ _ φ3 ρ _ (r.ext ok4 (e13.trans ex)) (e13.trans ex) q3
      · exact q3.elim
    · exact q3.elim
  · exact q3.elim
/-- a, b, c = x, y, z with plain locals -/
def sPar3 (i j l : Nat) (ta tb tc : DTE) : DTS := fun D ρ S => ta ρ S fun d S1 => tb ρ S1 fun e S2 => tc ρ S2 fun f S3 => D.nx (((ρ.set i (some d)).set j (some e)).set l (some f)) S3
theorem hu65 {k : Nat} {A : Around} (hr : Room k A) : A.units + 65 < cLine := by have := hr.un; omega
end
/-- the law's call -/
theorem isL_ints {K : PySem.W.Frag} {H : Hp} {φ : Phi} : ∀ ns : List Int, IsL K H φ (ns.map D.int) (ns.map V.int)
  | [] => rfl
  | n :: ns => ⟨_, _, rfl, rfl, isL_ints ns⟩
/-- what a law promises -/
def spLaw : DSp := fun ds S Q _ => ∃ ns : List Int, ds = [.lst (ns.map D.int)] ∧ ns.length ≤ 63 ∧ S = [] ∧ Q (.bl true) S
theorem law_start {K : PySem.W.Frag} {H : Hp} {a : Addr} {ns : List Int} (hl : ns.length ≤ 63) (ho : Only H) (hS : SqL K H a (ns.map V.int)) :
    liftSp K spLaw [.ref a] H (fun v _ => v = .bl true) fun _ _ _ => False := by
  have nh : ¬ (Phi.mk [] []).has a := fun z => z.elim (fun q => by cases q) fun q => by cases q
  refine ⟨⟨[], []⟩, [.lst (ns.map D.int)], [], fun d _ => d = .bl true, X0, .nil, ⟨_, [], rfl, ⟨a, _, rfl, hS.imp (fun z => ⟨z, nh⟩) fun z => z, isL_ints ns⟩, rfl⟩, ⟨ns, rfl, hl, rfl, rfl⟩, fun v H' φ' d S' _ _ i q => ?_, .zero⟩
  subst q
  exact i
end DL

/-! DL8: how readings are shown: loops by invariants, comprehensions by functions, == of plain data. -/
namespace DL
open PySem PySem.Spec L2 TL
open PyProof.Rows hiding St

/-- for: I says what holds with the items ahead and behind -/
theorem forD_ind {α : Type} (enc : α → D) (I : List α → List α → Env → Sto → Prop) {lv : Sto → Prop} {T : Tg} {tb : DTS} {DD : DEnds}
    (h0 : ∀ pre ρ S, I pre [] ρ S → lv S ∧ DD.nx ρ S)
    (hs : ∀ pre x post ρ S (N : Env → Sto → Prop), (∀ ρ S, I (pre ++ [x]) post ρ S → N ρ S) → I pre (x :: post) ρ S →
      lv S ∧ bound T (enc x) ρ fun ρ' => tb { nx := N, rt := DD.rt, bk := DD.nx, ct := N } ρ' S) :
    ∀ (xs pre : List α) (ρ : Env) (S : Sto), I pre xs ρ S → forD lv T tb DD (xs.map enc) ρ S
  | [], pre, ρ, S, h => h0 pre ρ S h
  | x :: xs, pre, ρ, S, h => hs pre x xs ρ S _ (fun ρ' S' h' => forD_ind enc I h0 hs xs (pre ++ [x]) ρ' S' h') h
/-- for over range: I says what holds ahead of turn i -/
theorem forD_rng {lo : Int} {n : Nat} (I : Nat → Env → Sto → Prop) {lv : Sto → Prop} {T : Tg} {tb : DTS} {DD : DEnds}
    (h0 : ∀ ρ S, I n ρ S → lv S ∧ DD.nx ρ S)
    (hs : ∀ i ρ S (N : Env → Sto → Prop), i < n → (∀ ρ S, I (i + 1) ρ S → N ρ S) → I i ρ S →
      lv S ∧ bound T (.int (lo + (i : Nat))) ρ fun ρ' => tb { nx := N, rt := DD.rt, bk := DD.nx, ct := N } ρ' S) {ρ : Env} {S : Sto} (h : I 0 ρ S) : forD lv T tb DD (rngD lo n) ρ S := by
  refine forD_ind (fun i : Nat => D.int (lo + (i : Nat))) (fun pre post ρ S => List.range n = pre ++ post ∧ I pre.length ρ S) (fun pre ρ S hI => ?_) (fun pre x post ρ S N hN hI => ?_) (List.range n) [] ρ S ⟨rfl, h⟩
  · obtain ⟨e, hI⟩ := hI
    rw [List.append_nil] at e
    rw [← e, List.length_range] at hI
    exact h0 ρ S hI
  · obtain ⟨e, hI⟩ := hI
    have ex : (List.range n)[pre.length]? = some x := by rw [e, List.getElem?_append_right (Nat.le_refl _)]; simp
    have hl : pre.length < n := by
      have := (List.getElem?_eq_some_iff.mp ex).1
      simpa using this
    rw [List.getElem?_range hl] at ex
    cases ex
    refine hs pre.length ρ S N hl (fun ρ' S' h' => hN ρ' S' ⟨by rw [e, List.append_assoc]; rfl, by rw [List.length_append]; exact h'⟩) hI
theorem forD_rngN {hi : Int} {n : Nat} (I : Nat → Env → Sto → Prop) {lv : Sto → Prop} {T : Tg} {tb : DTS} {DD : DEnds}
    (h0 : ∀ ρ S, I n ρ S → lv S ∧ DD.nx ρ S)
    (hs : ∀ i ρ S (N : Env → Sto → Prop), i < n → (∀ ρ S, I (i + 1) ρ S → N ρ S) → I i ρ S →
      lv S ∧ bound T (.int (hi + (i : Nat) * (-1))) ρ fun ρ' => tb { nx := N, rt := DD.rt, bk := DD.nx, ct := N } ρ' S) {ρ : Env} {S : Sto} (h : I 0 ρ S) : forD lv T tb DD (rngN hi n) ρ S := by
  refine forD_ind (fun i : Nat => D.int (hi + (i : Nat) * (-1))) (fun pre post ρ S => List.range n = pre ++ post ∧ I pre.length ρ S) (fun pre ρ S hI => ?_) (fun pre x post ρ S N hN hI => ?_) (List.range n) [] ρ S ⟨rfl, h⟩
  · obtain ⟨e, hI⟩ := hI
    rw [List.append_nil] at e
    rw [← e, List.length_range] at hI
    exact h0 ρ S hI
  · obtain ⟨e, hI⟩ := hI
    have ex : (List.range n)[pre.length]? = some x := by rw [e, List.getElem?_append_right (Nat.le_refl _)]; simp
    have hl : pre.length < n := by
      have := (List.getElem?_eq_some_iff.mp ex).1
      simpa using this
    rw [List.getElem?_range hl] at ex
    cases ex
    refine hs pre.length ρ S N hl (fun ρ' S' h' => hN ρ' S' ⟨by rw [e, List.append_assoc]; rfl, by rw [List.length_append]; exact h'⟩) hI
/-- while, by a measure -/
theorem whileD_ind (I : Env → Sto → Prop) (μ : Env → Sto → Nat) {c : DTT} {tb : DTS} {DD : DEnds}
    (hs : ∀ ρ S (N : Env → Sto → Prop), (∀ ρ' S', I ρ' S' → μ ρ' S' < μ ρ S → N ρ' S') → I ρ S →
      c ρ S fun b S1 => if b = true then tb { nx := N, rt := DD.rt, bk := DD.nx, ct := N } ρ S1 else DD.nx ρ S1) {ρ : Env} {S : Sto} (h : I ρ S) : sWhile c tb DD ρ S := by
  have key : ∀ n ρ S, I ρ S → μ ρ S < n → whileD c tb DD n ρ S := by
    intro n
    induction n with
    | zero => intro ρ S _ hl; exact absurd hl (Nat.not_lt_zero _)
    | succ n ih =>
      intro ρ S hI hl
      exact hs ρ S _ (fun ρ' S' h' l' => ih ρ' S' h' (by omega)) hI
  exact ⟨μ ρ S + 1, key _ ρ S h (Nat.lt_succ_self _)⟩
/-- a comprehension whose turns change nothing -/
theorem lcD_fm {α : Type} (enc : α → D) (f : α → Option D) {lv : Sto → Prop} {T : Tg} {tt : DTT} {te : DTE} {ρ : Env} {S : Sto} {k : List D → Sto → Prop} (hl : lv S) :
    ∀ (xs : List α) (acc : List D), acc.length + xs.length ≤ sizeLine →
    (∀ x ∈ xs, ∀ (k1 : D → Sto → Prop) (k0 : Sto → Prop), (∀ y, f x = some y → k1 y S) → (f x = none → k0 S) → bound T (enc x) ρ fun ρ' => tt ρ' S fun b S1 => if b = true then te ρ' S1 k1 else k0 S1) →
    k (acc ++ xs.filterMap f) S → lcD lv T tt te ρ (xs.map enc) acc S k
  | [], acc, _, _, q => ⟨hl, by simpa using q⟩
  | x :: xs, acc, hz, h, q => by
    refine ⟨hl, h x (by simp) _ _ (fun y hy => ⟨by simp at hz; omega, ?_⟩) fun hn => ?_⟩
    · refine lcD_fm enc f hl xs (acc ++ [y]) (by simp at hz ⊢; omega) (fun z hz => h z (List.mem_cons_of_mem _ hz)) ?_
      rw [List.filterMap_cons, hy] at q
      simpa using q
    · refine lcD_fm enc f hl xs acc (by simp at hz ⊢; omega) (fun z hz => h z (List.mem_cons_of_mem _ hz)) ?_
      rw [List.filterMap_cons, hn] at q
      exact q
/-- .. without a test -/
theorem lcD_map {α : Type} (enc : α → D) (g : α → D) {lv : Sto → Prop} {T : Tg} {te : DTE} {ρ : Env} {S : Sto} {k : List D → Sto → Prop} (hl : lv S)
    (xs : List α) (hz : xs.length ≤ sizeLine) (h : ∀ x ∈ xs, ∀ k1 : D → Sto → Prop, k1 (g x) S → bound T (enc x) ρ fun ρ' => te ρ' S k1) (q : k (xs.map g) S) : lcD lv T dYes te ρ (xs.map enc) [] S k := by
  refine lcD_fm enc (fun x => some (g x)) hl xs [] (by simpa using hz) (fun x hx k1 k0 h1 _ => ?_) (by simpa using q)
  have e := h x hx k1 (h1 _ rfl)
  unfold bound at e ⊢
  split
  · rename_i ρ' eb
    rw [eb] at e
    show (if true = true then te ρ' S k1 else k0 S)
    rw [if_pos rfl]
    exact e
  · rename_i eb
    rw [eb] at e
    exact e
/-- .. that keeps some items as they are -/
theorem lcD_filter {α : Type} (enc : α → D) (p : α → Bool) {lv : Sto → Prop} {T : Tg} {tt : DTT} {te : DTE} {ρ : Env} {S : Sto} {k : List D → Sto → Prop} (hl : lv S)
    (xs : List α) (hz : xs.length ≤ sizeLine) (h : ∀ x ∈ xs, ∀ (k1 : D → Sto → Prop) (k0 : Sto → Prop), (p x = true → k1 (enc x) S) → (p x = false → k0 S) → bound T (enc x) ρ fun ρ' => tt ρ' S fun b S1 => if b = true then te ρ' S1 k1 else k0 S1)
    (q : k ((xs.filter p).map enc) S) : lcD lv T tt te ρ (xs.map enc) [] S k := by
  refine lcD_fm enc (fun x => if p x then some (enc x) else none) hl xs [] (by simpa using hz) (fun x hx k1 k0 h1 h0 => h x hx k1 k0 (fun e => h1 _ (by simp [e])) (fun e => h0 (by simp [e]))) ?_
  have e : xs.filterMap (fun x => if p x then some (enc x) else none) = (xs.filter p).map enc := by
    clear q h hz
    induction xs with
    | nil => rfl
    | cons x xs ih =>
      rw [List.filterMap_cons, List.filter_cons]
      cases hp : p x <;> simp [ih]
  rw [e]
  simpa using q

/-! ### == of plain data -/
theorem sx_inj {a b : Tx} (h : sx a = sx b) : a = b := by
  have : (sx a).cps = (sx b).cps := congrArg Str.cps h
  simpa [sx] using this
theorem eqv_str (a b : Tx) : PyData.eqv (.str (sx a)) (.str (sx b)) = decide (a = b) := by
  show (sx a == sx b) = _
  by_cases h : a = b
  · subst h; simp
  · rw [decide_eq_false h, beq_eq_false_iff_ne]
    exact fun e => h (sx_inj e)
def eqDs (a b : List D) : Bool := PyData.eqvAll (toPs a) (toPs b)
theorem eqD_str (a b : Tx) : eqD (.str a) (.str b) = decide (a = b) := eqv_str a b
theorem eqD_int (a b : Int) : eqD (.int a) (.int b) = decide (a = b) := by
  show (a == b) = _
  by_cases h : a = b
  · subst h; simp
  · rw [decide_eq_false h, beq_eq_false_iff_ne]; exact h
theorem eqD_bl (a b : Bool) : eqD (.bl a) (.bl b) = decide (a = b) := by
  show (a == b) = _
  cases a <;> cases b <;> rfl
theorem eqD_tup (a b : List D) : eqD (.tup a) (.tup b) = eqDs a b := by
  show PyData.eqv (.tuple (toPs a)) (.tuple (toPs b)) = _
  simp [PyData.eqv, eqDs]
theorem eqD_lst (a b : List D) : eqD (.lst a) (.lst b) = eqDs a b := by
  show PyData.eqv (.list (toPs a)) (.list (toPs b)) = _
  simp [PyData.eqv, eqDs]
theorem eqDs_nil : eqDs [] [] = true := by simp [eqDs, toPs, PyData.eqvAll]
theorem eqDs_nc (a : D) (as : List D) : eqDs [] (a :: as) = false := by simp [eqDs, toPs, PyData.eqvAll]
theorem eqDs_cn (a : D) (as : List D) : eqDs (a :: as) [] = false := by simp [eqDs, toPs, PyData.eqvAll]
theorem eqDs_cc (a b : D) (as bs : List D) : eqDs (a :: as) (b :: bs) = (eqD a b && eqDs as bs) := by simp [eqDs, eqD, toPs, PyData.eqvAll]
theorem eqD_nn : eqD .non .non = true := by simp [eqD, toP, PyData.eqv]
theorem eqD_nt (a : List D) : eqD .non (.tup a) = false := by simp [eqD, toP, PyData.eqv]
theorem eqD_tn (a : List D) : eqD (.tup a) .non = false := by simp [eqD, toP, PyData.eqv]
theorem eqD_ns (a : Tx) : eqD .non (.str a) = false := by simp [eqD, toP, PyData.eqv]
theorem eqD_sn (a : Tx) : eqD (.str a) .non = false := by simp [eqD, toP, PyData.eqv]
/-- an encoding under which == is equality -/
def EqEnc {α : Type} [DecidableEq α] (enc : α → D) : Prop := ∀ a b, eqD (enc a) (enc b) = decide (a = b)
theorem eqDs_enc {α : Type} [DecidableEq α] {enc : α → D} (h : EqEnc enc) : ∀ as bs : List α, eqDs (as.map enc) (bs.map enc) = decide (as = bs)
  | [], [] => by simp [eqDs_nil]
  | [], b :: bs => by simp [eqDs_nc]
  | a :: as, [] => by simp [eqDs_cn]
  | a :: as, b :: bs => by
    rw [List.map_cons, List.map_cons, eqDs_cc, h, eqDs_enc h as bs]
    by_cases e : a = b
    · subst e
      by_cases e2 : as = bs <;> simp [e2]
    · simp [e]
theorem any_enc {α : Type} [DecidableEq α] {enc : α → D} (h : EqEnc enc) (a : α) (bs : List α) : (bs.map enc).any (fun z => eqD z (enc a)) = decide (a ∈ bs) := by
  rw [List.any_map]
  induction bs with
  | nil => simp
  | cons b bs ih =>
    rw [List.any_cons, ih]
    show (eqD (enc b) (enc a) || _) = _
    rw [h b a]
    by_cases e : a = b
    · simp [e]
    · simp [e, Ne.symm e]
/-- pairs of texts -/
def eP (p : Tx × Tx) : D := .tup [.str p.1, .str p.2]
theorem eP_eq : EqEnc eP := fun a b => by
  unfold eP
  rw [eqD_tup, eqDs_cc, eqDs_cc, eqDs_nil, eqD_str, eqD_str]
  obtain ⟨a1, a2⟩ := a
  obtain ⟨b1, b2⟩ := b
  by_cases h1 : a1 = b1 <;> by_cases h2 : a2 = b2 <;> simp [h1, h2]
theorem eS_eq : EqEnc D.str := eqD_str
end DL

/-! DL9: readings by simp; the draws that the laws share. -/
namespace DL
open PySem PySem.Spec L2 TL
open PyProof.Rows hiding St
section
variable {ρ : Env} {S : Sto} {Q : DQ} {D' : DEnds} {ta tb tc te : DTE} {t u w : DTS} {tt t2 : DTT} {T : Tg} {R : List D → (Sto → Prop) → Sto → Prop}
@[simp] theorem e_seq : sSeq t u D' ρ S = t { D' with nx := u D' } ρ S := rfl
@[simp] theorem e_next : sNext D' ρ S = D'.nx ρ S := rfl
@[simp] theorem e_break : sBreak D' ρ S = D'.bk ρ S := rfl
@[simp] theorem e_cont : sCont D' ρ S = D'.ct ρ S := rfl
@[simp] theorem e_drop : sDrop te D' ρ S = te ρ S fun _ S1 => D'.nx ρ S1 := rfl
@[simp] theorem e_ret : sRet te D' ρ S = te ρ S D'.rt := rfl
@[simp] theorem e_retN : sRetN D' ρ S = D'.rt .non S := rfl
@[simp] theorem e_if : sIf tt u w D' ρ S = tt ρ S fun b S1 => if b = true then u D' ρ S1 else w D' ρ S1 := rfl
@[simp] theorem e_never : sNever D' ρ S = False := rfl
@[simp] theorem e_asg : sAsg te T D' ρ S = te ρ S fun d S1 => bound T d ρ fun ρ' => D'.nx ρ' S1 := rfl
@[simp] theorem e_par {i j : Nat} : sPar i j ta tb D' ρ S = ta ρ S fun d S1 => tb ρ S1 fun e S2 => D'.nx ((ρ.set i (some d)).set j (some e)) S2 := rfl
@[simp] theorem e_for {ti : DTI} : sFor ti T t D' ρ S = ti ρ S fun ds lv S1 => forD lv T t D' ds ρ S1 := rfl
@[simp] theorem e_var {i : Nat} : dVar i ρ S Q = match ρ[i]? with
  | some (some d) => Q d S
  | _ => False := by unfold dVar; rfl
@[simp] theorem e_c {d : D} : dC d ρ S Q = Q d S := rfl
@[simp] theorem e_anil {Q : List D → Sto → Prop} : aNil ρ S Q = Q [] S := rfl
@[simp] theorem e_acons {a : DTA} {Q : List D → Sto → Prop} : aCons te a ρ S Q = te ρ S fun d S1 => a ρ S1 fun ds S2 => Q (d :: ds) S2 := rfl
@[simp] theorem e_op {rd : D2} : dOp rd ta tb ρ S Q = ta ρ S fun d S1 => tb ρ S1 fun e S2 => rd d e S2 Q := rfl
@[simp] theorem e_un {rd : D1} : dUn rd ta ρ S Q = ta ρ S fun d S1 => rd d S1 Q := rfl
@[simp] theorem e_and {Q : Bool → Sto → Prop} : dAnd tt t2 ρ S Q = tt ρ S fun c S1 => if c = true then t2 ρ S1 Q else Q false S1 := rfl
@[simp] theorem e_or {Q : Bool → Sto → Prop} : dOr tt t2 ρ S Q = tt ρ S fun c S1 => if c = true then Q true S1 else t2 ρ S1 Q := rfl
@[simp] theorem e_not {Q : Bool → Sto → Prop} : dNot tt ρ S Q = tt ρ S fun c S1 => Q (!c) S1 := rfl
@[simp] theorem e_ife : dIf tt ta tb ρ S Q = tt ρ S fun c S1 => if c = true then ta ρ S1 Q else tb ρ S1 Q := rfl
@[simp] theorem e_tup {a : DTA} : dTup a ρ S Q = a ρ S fun ds S1 => ds.length ≤ sizeLine ∧ Q (.tup ds) S1 := rfl
@[simp] theorem e_lst {a : DTA} : dLst a ρ S Q = a ρ S fun ds S1 => ds.length ≤ sizeLine ∧ Q (.lst ds) S1 := rfl
@[simp] theorem e_lstM {a : DTA} : dLstM a ρ S Q = a ρ S fun ds S1 => ds.length ≤ sizeLine ∧ Q (.ref S1.length) (S1 ++ [.lst ds]) := rfl
@[simp] theorem e_call {sp : DSp} {XD : DXK} {a : DTA} : dCall sp XD a ρ S Q = a ρ S fun ds S1 => sp ds S1 Q XD := rfl
@[simp] theorem e_cb {rd : DN} {a : DTA} : dCB rd a ρ S Q = a ρ S fun ds S1 => rd ds S1 Q := rfl
@[simp] theorem e_lc {ti : DTI} {vs : List Nat} : dLc ti T tt te vs ρ S Q = ti ρ S fun ds lv S1 => lcD lv T tt te (wipeD ρ vs) ds [] S1 fun acc S2 => Q (.lst acc) S2 := rfl
@[simp] theorem e_yes {Q : Bool → Sto → Prop} : dYes ρ S Q = Q true S := rfl
@[simp] theorem e_sl {tl th : DTO} : dSl te tl th ρ S Q = te ρ S fun d S1 => tl ρ S1 fun l S2 => th ρ S2 fun u S3 => rSl d l u S3 Q := rfl
@[simp] theorem e_pn {Q : Option Int → Sto → Prop} : pNone ρ S Q = Q none S := rfl
@[simp] theorem e_mS {rd : DM} {a : DTA} : dMS rd te a ρ S Q = te ρ S fun d S1 => isS d ∧ a ρ S1 fun ds S2 => rd d ds S2 Q := rfl
@[simp] theorem e_mL {rd : DM} {a : DTA} : dML rd te a ρ S Q = te ρ S fun d S1 => (asL S1 d).isSome = true ∧ a ρ S1 fun ds S2 => rd d ds S2 Q := rfl
@[simp] theorem e_cut : sCut t D' ρ S = t { nx := Cut S D'.nx, rt := D'.rt, bk := Cut S D'.bk, ct := Cut S D'.ct } ρ S := rfl
/-- a flag, tested -/
def tst (d : D) (k : Bool → Prop) : Prop := match d with
  | .bl b => k b
  | _ => False
@[simp] theorem e_test {Q : Bool → Sto → Prop} : dTest te ρ S Q = te ρ S fun d S1 => tst d fun b => Q b S1 := rfl
@[simp] theorem e_tst (k : Bool → Prop) (b : Bool) : tst (.bl b) k = k b := rfl
/-- and, or of values -/
def andOf (d : D) (y n : Prop) : Prop := match d with
  | .bl true => y
  | .bl false => n
  | _ => False
@[simp] theorem e_andV : dAndV ta tb ρ S Q = ta ρ S fun d S1 => andOf d (tb ρ S1 Q) (Q (.bl false) S1) := rfl
def orOf (d : D) (y n : Prop) : Prop := match d with
  | .bl true => y
  | .bl false => n
  | _ => False
@[simp] theorem e_orV : dOrV ta tb ρ S Q = ta ρ S fun d S1 => orOf d (Q (.bl true) S1) (tb ρ S1 Q) := rfl
@[simp] theorem e_chain {rd rd' : D2} : dChain rd rd' ta tb tc ρ S Q = ta ρ S fun d S1 => tb ρ S1 fun e S2 => rd d e S2 fun z S3 => andOf z (tc ρ S3 fun f S4 => rd' e f S4 Q) (Q (.bl false) S3) := rfl
def notOf (d : D) (k : Bool → Prop) : Prop := match d with
  | .bl b => k (!b)
  | _ => False
@[simp] theorem e_notV : dNotV ta ρ S Q = ta ρ S fun d S1 => notOf d fun b => Q (.bl b) S1 := rfl
@[simp] theorem notOf_bl (b : Bool) (k : Bool → Prop) : notOf (.bl b) k = k (!b) := rfl
@[simp] theorem orOf_bl (b : Bool) (y n : Prop) : orOf (.bl b) y n = if b = true then y else n := by cases b <;> rfl
@[simp] theorem andOf_bl (b : Bool) (y n : Prop) : andOf (.bl b) y n = if b = true then y else n := by cases b <;> rfl
@[simp] theorem sizeLine_e : sizeLine = 16777216 := rfl
end
theorem RT.here {S : Sto} {QD : DQ} {d : D} {S' : Sto} (h : QD d S') : RT S QD d S' := .inl h

/-! ### draws -/
/-- a source's object -/
def mkS (a b : Nat) : MO := .lst [.int a, .int b]
def SrcOk (S : Sto) (r : Nat) : Prop := ∃ a b : Nat, b < 2147483648 ∧ S[r]? = some (mkS a b)
/-- .. and what may be behind it -/
def Src' (S : Sto) (r : Nat) (S' : Sto) : Prop := ∃ a b : Nat, b < 2147483648 ∧ S' = S.set r (mkS a b)
theorem Src'.ok {S S' : Sto} {r : Nat} (h : SrcOk S r) (h' : Src' S r S') : SrcOk S' r := by
  obtain ⟨a, b, hb, e⟩ := h
  obtain ⟨a', b', hb', rfl⟩ := h'
  have hr := (List.getElem?_eq_some_iff.mp e).1
  exact ⟨a', b', hb', by rw [List.getElem?_set_self hr]⟩
theorem Src'.trans {S S1 S2 : Sto} {r : Nat} (h : Src' S r S1) (h' : Src' S1 r S2) : Src' S r S2 := by
  obtain ⟨a, b, hb, rfl⟩ := h
  obtain ⟨a', b', hb', rfl⟩ := h'
  exact ⟨a', b', hb', by rw [List.set_set]⟩
theorem Src'.refl {S : Sto} {r : Nat} (h : SrcOk S r) : Src' S r S := by
  obtain ⟨a, b, hb, e⟩ := h
  refine ⟨a, b, hb, ?_⟩
  obtain ⟨h1, h2⟩ := List.getElem?_eq_some_iff.mp e
  rw [← h2, List.set_getElem_self]
theorem Src'.len {S S' : Sto} {r : Nat} (h : Src' S r S') : S'.length = S.length := by
  obtain ⟨a, b, hb, rfl⟩ := h
  simp
theorem Src'.ne {S S' : Sto} {r m : Nat} (h : Src' S r S') (hm : m ≠ r) : S'[m]? = S[m]? := by
  obtain ⟨a, b, hb, rfl⟩ := h
  rw [List.getElem?_set_ne (Ne.symm hm)]

def sp_source : DSp := fun ds S Q _ => ∃ (ns : List Int) (k : Nat), ds = [.lst (ns.map D.int), .int k] ∧ ns.length ≤ 63 ∧ k ≤ 1000 ∧ ∀ a b : Nat, b < 2147483648 → Q (.ref S.length) (S ++ [mkS a b])
def sp_draw : DSp := fun ds S Q _ => ∃ (r n : Nat), ds = [.ref r, .int n] ∧ SrcOk S r ∧ 0 < n ∧ n < 2147483648 ∧ ∀ (d : Nat) (S' : Sto), d < n → Src' S r S' → Q (.int d) S'
def itsD (S : Sto) (r : Nat) : D → Option (List D)
  | .tup es => some es
  | .lst es => some es
  | .ref m => if m = r then none else match S[m]? with
    | some (.lst es) => some es
    | _ => none
  | _ => none
def sp_choice : DSp := fun ds S Q _ => ∃ (r : Nat) (x : D) (es : List D), ds = [.ref r, x] ∧ itsD S r x = some es ∧ SrcOk S r ∧ es ≠ [] ∧ es.length < 2147483648 ∧ ∀ e ∈ es, ∀ S', Src' S r S' → Q e S'
def sp_some : DSp := fun ds S Q _ => ∃ (r lo hi : Nat), ds = [.ref r, .int lo, .int hi] ∧ SrcOk S r ∧ lo ≤ hi ∧ hi ≤ 1000000 ∧ ∀ (w : Tx) (S' : Sto), lo ≤ w.length → w.length ≤ hi → (∀ c ∈ w, c = 97 ∨ c = 98 ∨ c = 99) → Src' S r S' → Q (.str w) S'
def t_source : DTS := (sSeq (sAsg (dC (.int 0)) (.nm 2))
  (sSeq (sIf (dTest (dOp oLt (dVar 1) (dCB bLen (aCons (dVar 0) aNil)))) (sAsg (dCB (bI1 fun i => if i < 0 then -i else i) (aCons (dOp oIx (dVar 0) (dVar 1)) aNil)) (.nm 2)) sNext)
  (sSeq (sIf (dTest (dOp oLt (dVar 2) (dOp oPow (dC (.int 10)) (dC (.int 18))))) (sRet (dLstM (aCons (dC (.int 0)) (aCons (dOp oAdd (dC (.int 1)) (dOp oMod (dCB bInt (aCons (dOp oAdd (dOp oMul (dVar 2) (dC (.int 7919))) (dOp oMul (dC (.int 104729)) (dVar 1))) aNil)) (dC (.int 2147483646)))) aNil)))) sNext)
  (sRet (dLstM (aCons (dVar 2) (aCons (dOp oAdd (dC (.int 1)) (dOp oMod (dCB bInt (aCons (dOp oAdd (dVar 2) (dVar 1)) aNil)) (dC (.int 2147483646)))) aNil)))))))
def t_draw : DTS := (sSeq (sIf (dTest (dOp oGt (dOp oIx (dVar 0) (dC (.int 0))) (dC (.int 0)))) (sSeq (sAsg (dOp oMod (dCB bInt (aCons (dOp oIx (dVar 0) (dC (.int 0))) aNil)) (dVar 1)) (.nm 2))
  (sSeq (sSubL (dOp oDiv (dOp oIx (dVar 0) (dC (.int 0))) (dVar 1)) (dVar 0) (dC (.int 0)))
  (sRet (dVar 2)))) sNext)
  (sSeq (sSubL (dOp oMod (dCB bInt (aCons (dOp oMul (dOp oIx (dVar 0) (dC (.int 1))) (dC (.int 48271))) aNil)) (dC (.int 2147483647))) (dVar 0) (dC (.int 1)))
  (sRet (dOp oMod (dCB bInt (aCons (dOp oDiv (dOp oMod (dCB bInt (aCons (dOp oMul (dOp oIx (dVar 0) (dC (.int 1))) (dOp oIx (dVar 0) (dC (.int 1)))) aNil)) (dC (.int 2147483629))) (dC (.int 64))) aNil)) (dVar 1)))))
theorem log2_lt {n k : Nat} (h : n < 2 ^ k) (hk : 0 < k) : n.log2 < k := by
  by_cases h0 : n = 0
  · subst h0; simpa using hk
  · exact (Nat.log2_lt h0).mpr h
theorem mulW {i j : Int} {a b : Nat} (hi : i.natAbs < 2 ^ a) (hj : j.natAbs < 2 ^ b) (ha : 0 < a) (hb : 0 < b) (h : a + b ≤ 1000000) : CMulW i j := by
  have := log2_lt hi ha
  have := log2_lt hj hb
  unfold CMulW
  omega
theorem atI_map {α β : Type} (f : α → β) (xs : List α) (i : Int) : L2.atI (xs.map f) i = (L2.atI xs i).map f := by
  unfold L2.atI
  rw [List.length_map]
  cases ixN xs.length i <;> simp
theorem atI_nat {α : Type} (xs : List α) (i : Nat) : L2.atI xs (i : Int) = xs[i]? := by
  unfold L2.atI L2.ixN
  rw [if_pos (by omega)]
  by_cases h : i < xs.length
  · rw [if_pos (by omega)]; simp
  · rw [if_neg (by omega)]; simp; omega
theorem atI_0 {α : Type} (xs : List α) : L2.atI xs 0 = xs[0]? := atI_nat xs 0
theorem atI_1 {α : Type} (xs : List α) : L2.atI xs 1 = xs[1]? := atI_nat xs 1
theorem ixN_nat {n i : Nat} (h : i < n) : L2.ixN n (i : Int) = some i := by
  unfold L2.ixN
  rw [if_pos (by omega), if_pos (by omega)]
  simp
@[simp] theorem atI_lit {α : Type} (xs : List α) (n : Nat) : L2.atI xs (no_index (OfNat.ofNat n : Int)) = xs[n]? := atI_nat xs n
@[simp] theorem atI_z {α : Type} (xs : List α) : L2.atI xs 0 = xs[0]? := atI_nat xs 0
@[simp] theorem atI_o {α : Type} (xs : List α) : L2.atI xs 1 = xs[1]? := atI_nat xs 1
theorem rd_source : ∀ ds S QD, sp_source ds S QD X0 → t_source { nx := fun _ S' => RT S QD .non S', rt := RT S QD } (startD 3 ds) S := by
  rintro ds S QD ⟨ns, k, rfl, hl, hk, q⟩
  have hp : CPow 10 18 := by unfold CPow; decide
  have m2 : CMulW 104729 (k : Int) := mulW (a := 17) (b := 17) (by decide) (by simp; omega) (by decide) (by decide) (by decide)
  have key : ∀ c : Int, 0 ≤ c → if c < 1000000000000000000 then
            CMulW c 7919 ∧ CMulW 104729 ↑k ∧ RT S QD (D.ref (List.length S)) (S ++ [MO.lst [D.int 0, D.int (1 + (c * 7919 + 104729 * ↑k) % 2147483646)]])
          else RT S QD (D.ref (List.length S)) (S ++ [MO.lst [D.int c, D.int (1 + (c + ↑k) % 2147483646)]]) := by
    intro c hc
    split
    · rename_i hc2
      refine ⟨mulW (a := 60) (b := 17) (by omega) (by decide) (by decide) (by decide) (by decide), m2, RT.here ?_⟩
      have := q 0 (1 + (c * 7919 + 104729 * k) % 2147483646).toNat (by omega)
      unfold mkS at this
      rw [Int.toNat_of_nonneg (by omega)] at this
      exact this
    · refine RT.here ?_
      have := q c.toNat (1 + (c + k) % 2147483646).toNat (by omega)
      unfold mkS at this
      rw [Int.toNat_of_nonneg (by omega), Int.toNat_of_nonneg (by omega)] at this
      exact this
  have k0 := key 0 (by omega)
  by_cases hkl : k < ns.length
  · have e1 : L2.atI (ns.map D.int) (k : Int) = some (D.int ns[k]) := by rw [atI_nat]; simp [hkl]
    simp [t_source, startD, bound, bindT, bLen, oCmp, oIx, oI, bI1, bInt, oAdd, asL, hkl, e1, hp]
    exact key _ (by split <;> omega)
  · simp [t_source, startD, bound, bindT, bLen, oCmp, oIx, oI, bI1, bInt, oAdd, asL, hkl, hp]
    simpa using k0
theorem rd_draw : ∀ ds S QD, sp_draw ds S QD X0 → t_draw { nx := fun _ S' => RT S QD .non S', rt := RT S QD } (startD 3 ds) S := by
  rintro ds S QD ⟨r, n, rfl, ⟨a, b, hb, e⟩, h0, hn, q⟩
  have hr := (List.getElem?_eq_some_iff.mp e).1
  have e' : S[r]? = some (.lst [.int a, .int b]) := e
  have e0 : asL S (.ref r) = some [.int a, .int b] := by simp [asL, e, mkS]
  have e1 : ∀ x : List D, asL (S.set r (.lst x)) (.ref r) = some x := fun x => by simp [asL, hr]
  have x0 : L2.ixN 2 0 = some 0 := rfl
  have x1 : L2.ixN 2 1 = some 1 := rfl
  by_cases ha : 0 < a
  · simp [t_draw, startD, bound, bindT, oCmp, oIx, oI, bInt, oAdd, e0, sSubL, e', ha, x0, h0]
    have hd : CDivW (a : Int) (n : Int) := by
      refine ⟨by omega, ?_⟩
      have := log2_lt (n := n) (k := 31) (by omega) (by decide)
      simp
      omega
    refine ⟨hd, RT.here ?_⟩
    have hm : a % n < n := Nat.mod_lt _ h0
    exact q (a % n) _ hm ⟨a / n, b, hb, rfl⟩
  · obtain rfl : a = 0 := by omega
    simp [t_draw, startD, bound, bindT, oCmp, oIx, oI, bInt, oAdd, e0, sSubL, e', x1, h0, e1]
    have hb2 : ((b : Int) * 48271 % 2147483647).natAbs < 2 ^ 31 := by omega
    refine ⟨mulW (a := 31) (b := 17) (by simp; omega) (by decide) (by decide) (by decide) (by decide), mulW hb2 hb2 (by decide) (by decide) (by decide), ?_, RT.here ?_⟩
    · refine ⟨by decide, by decide⟩
    · generalize hc : (b : Int) * 48271 % 2147483647 = c
      have hc0 : 0 ≤ c := by omega
      generalize hd : c * c % 2147483629 / 64 = d
      have hd0 : 0 ≤ d := by omega
      have := q (d.toNat % n) (S.set r (mkS 0 c.toNat)) (Nat.mod_lt _ h0) ⟨0, c.toNat, by omega, rfl⟩
      unfold mkS at this
      rw [Int.toNat_of_nonneg hc0] at this
      have e3 : ((d.toNat % n : Nat) : Int) = d % n := by
        rw [Int.natCast_emod, Int.toNat_of_nonneg hd0]
      rw [e3] at this
      exact this
def t_choice : DTS := (sRet (dOp oIx (dVar 1) (dCall sp_draw X0 (aCons (dVar 0) (aCons (dCB bLen (aCons (dVar 1) aNil)) aNil)))))
def t_some : DTS := (sSeq (sAsg (dOp oAdd (dVar 1) (dCall sp_draw X0 (aCons (dVar 0) (aCons (dOp oAdd (dOp oSub (dVar 2) (dVar 1)) (dC (.int 1))) aNil)))) (.nm 3))
  (sRet (dMS mJoin (dC (.str [])) (aCons (dLc (iRange1 (aCons (dVar 3) aNil)) (.nm 4) dYes (dCall sp_choice X0 (aCons (dVar 0) (aCons (dLst (aCons (dC (.str [97])) (aCons (dC (.str [97])) (aCons (dC (.str [98])) (aCons (dC (.str [98])) (aCons (dC (.str [99])) aNil)))))) aNil))) [4]) aNil))))
theorem draw_i {S : Sto} {Q : DQ} {E : DXK} {r : Nat} {n : Int} (hs : SrcOk S r) (h0 : 0 < n) (hn : n < 2147483648) (q : ∀ (d : Nat) (S' : Sto), (d : Int) < n → Src' S r S' → Q (.int d) S') : sp_draw [.ref r, .int n] S Q E := by
  obtain ⟨k, rfl⟩ := Int.eq_ofNat_of_zero_le (Int.le_of_lt h0)
  exact ⟨r, k, rfl, hs, by omega, by omega, fun d S' hd h => q d S' (by omega) h⟩
theorem rd_choice : ∀ ds S QD, sp_choice ds S QD X0 → t_choice { nx := fun _ S' => RT S QD .non S', rt := RT S QD } (startD 2 ds) S := by
  rintro ds S QD ⟨r, x, es, rfl, hx, hs, hne, hl, q⟩
  have hp : 0 < es.length := List.length_pos_iff.mpr hne
  have key : ∀ (i : Nat) (S' : Sto), (i : Int) < es.length → Src' S r S' → ∃ e, es[i]? = some e ∧ RT S QD e S' := fun i S' hi h => ⟨es[i]'(by omega), by simp, RT.here (q _ (List.getElem_mem _) S' h)⟩
  cases x with
  | tup ds =>
    cases hx
    simp [t_choice, startD, bLen]
    refine draw_i hs (by omega) (by omega) fun d S' hd h => ?_
    obtain ⟨e, h1, h2⟩ := key d S' hd h
    simp [oIx, atI_nat, h1, h2]
  | lst ds =>
    cases hx
    simp [t_choice, startD, bLen, asL]
    refine draw_i hs (by omega) (by omega) fun d S' hd h => ?_
    obtain ⟨e, h1, h2⟩ := key d S' hd h
    simp [oIx, atI_nat, h1, h2, asL]
  | ref m =>
    by_cases hm : m = r
    · simp [itsD, hm] at hx
    · cases e1 : S[m]? with
      | none => simp [itsD, hm, e1] at hx
      | some o =>
        cases o with
        | lst es' =>
          simp [itsD, hm, e1] at hx
          subst hx
          simp [t_choice, startD, bLen, asL, e1]
          refine draw_i hs (by omega) (by omega) fun d S' hd h => ?_
          obtain ⟨e, h1, h2⟩ := key d S' hd h
          simp [oIx, atI_nat, h1, h2, asL, h.ne hm, e1]
        | _ => simp [itsD, hm, e1] at hx
  | _ => simp [itsD] at hx
theorem choice_i {S : Sto} {Q : DQ} {E : DXK} {r : Nat} {x : D} {es : List D} (hx : itsD S r x = some es) (hs : SrcOk S r) (hne : es ≠ []) (hl : es.length < 2147483648) (q : ∀ e ∈ es, ∀ S', Src' S r S' → Q e S') : sp_choice [.ref r, x] S Q E := ⟨r, x, es, rfl, hx, hs, hne, hl, q⟩
theorem some_i {S : Sto} {Q : DQ} {E : DXK} {r : Nat} {lo hi : Int} (hs : SrcOk S r) (h0 : 0 ≤ lo) (h1 : lo ≤ hi) (h2 : hi ≤ 1000000) (q : ∀ (w : Tx) (S' : Sto), lo ≤ w.length → (w.length : Int) ≤ hi → (∀ c ∈ w, c = 97 ∨ c = 98 ∨ c = 99) → Src' S r S' → Q (.str w) S') : sp_some [.ref r, .int lo, .int hi] S Q E := by
  obtain ⟨k, rfl⟩ := Int.eq_ofNat_of_zero_le h0
  obtain ⟨l, rfl⟩ := Int.eq_ofNat_of_zero_le (Int.le_trans h0 h1)
  exact ⟨r, k, l, rfl, hs, by omega, by omega, fun w S' a b => q w S' (by omega) (by omega)⟩
theorem source_i {S : Sto} {Q : DQ} {E : DXK} {ns : List Int} {k : Nat} (hl : ns.length ≤ 63) (hk : k ≤ 1000) (q : ∀ a b : Nat, b < 2147483648 → Q (.ref S.length) (S ++ [mkS a b])) : sp_source [.lst (ns.map D.int), .int k] S Q E := ⟨ns, k, rfl, hl, hk, q⟩
/-- a comprehension whose turns draw -/
theorem lcD_draw (P : List D → Sto → Prop) {lv : Sto → Prop} {T : Tg} {tt : DTT} {te : DTE} {ρ : Env} {k : List D → Sto → Prop} :
    ∀ (xs : List D) (acc : List D) (S : Sto), acc.length + xs.length ≤ sizeLine → (∀ acc S, P acc S → lv S) →
    (∀ x ∈ xs, ∀ acc S (k1 : D → Sto → Prop) (k0 : Sto → Prop), P acc S → (∀ y S', P (acc ++ [y]) S' → k1 y S') → bound T x ρ fun ρ' => tt ρ' S fun b S1 => if b = true then te ρ' S1 k1 else k0 S1) →
    (∀ acc' S', acc'.length = acc.length + xs.length → P acc' S' → k acc' S') → P acc S → lcD lv T tt te ρ xs acc S k
  | [], acc, S, _, hl, _, q, h => ⟨hl _ _ h, q acc S rfl h⟩
  | x :: xs, acc, S, hz, hl, h, q, hP => by
    refine ⟨hl _ _ hP, h x (by simp) acc S _ _ hP fun y S' hy => ⟨by simp at hz ⊢; omega, ?_⟩⟩
    exact lcD_draw P xs (acc ++ [y]) S' (by simp at hz ⊢; omega) hl (fun z hz => h z (List.mem_cons_of_mem _ hz)) (fun acc' S' hl => q acc' S' (by simp at hl ⊢; omega)) hy
theorem txD_ws (ws : List Tx) : txD (ws.map D.str) = some ws := by
  have := txD_map (fun x => x) ws
  simpa using this
theorem joinL_nil : ∀ ws : List Tx, joinL [] ws = ws.flatten
  | [] => rfl
  | [w] => by simp [joinL]
  | w :: v :: ws => by
    have := joinL_nil (v :: ws)
    simp [joinL] at this ⊢
    try rw [this]
theorem rd_some : ∀ ds S QD, sp_some ds S QD X0 → t_some { nx := fun _ S' => RT S QD .non S', rt := RT S QD } (startD 5 ds) S := by
  rintro ds S QD ⟨r, lo, hi, rfl, hs, h1, h2, q⟩
  simp [t_some, startD, bound, bindT, oI, oAdd]
  refine draw_i hs (by omega) (by omega) fun d S' hd h => ?_
  simp [isS, iRange1]
  refine ⟨by omega, by omega, ?_⟩
  refine lcD_draw (fun acc S' => Src' S r S' ∧ ∃ cs : List Nat, acc = cs.map (fun c => D.str [c]) ∧ ∀ c ∈ cs, c = 97 ∨ c = 98 ∨ c = 99) _ [] S' (by simp [rngD]; omega) (fun _ _ _ => trivial) ?_ ?_ ⟨h, [], rfl, by simp⟩
  · rintro x hx acc S1 k1 k0 ⟨hS, cs, rfl, hc⟩ hk
    simp [bound, bindT, wipeD]
    refine choice_i rfl (hS.ok hs) (by simp) (by simp) ?_
    have st : ∀ (c : Nat) (S2 : Sto), (c = 97 ∨ c = 98 ∨ c = 99) → Src' S1 r S2 → k1 (.str [c]) S2 := fun c S2 h1 h2 => hk _ S2 ⟨hS.trans h2, cs ++ [c], by simp, fun z hz => by
      rcases List.mem_append.mp hz with hz | hz
      · exact hc z hz
      · simp at hz; subst hz; exact h1⟩
    intro e he S2 h2
    simp at he
    rcases he with rfl | rfl | rfl | rfl | rfl
    all_goals exact st _ S2 (by simp) h2
  · rintro acc' S1 hl ⟨hS, cs, rfl, hc⟩
    have ec : cs.map (fun c => D.str [c]) = (cs.map fun c => [c]).map D.str := by rw [List.map_map]; rfl
    have ef : joinL [] (cs.map fun c => [c]) = cs := by
      rw [joinL_nil]
      clear hl hc ec
      induction cs with
      | nil => rfl
      | cons c cs ih => rw [List.map_cons, List.flatten_cons, ih]; rfl
    have es : ((cs.map fun c => [c]).map (·.length)).sum = cs.length := by
      clear hl hc ec ef
      induction cs with
      | nil => rfl
      | cons c cs ih => rw [List.map_cons, List.map_cons, List.sum_cons, ih]; simp; omega
    simp [rngD] at hl
    show mJoin (.str []) [.lst (cs.map fun c => D.str [c])] S1 (RT S QD)
    have em : mJoin (.str []) [.lst (cs.map fun c => D.str [c])] S1 (RT S QD) = (((cs.map fun c => [c]).map (·.length)).sum + (cs.map fun c => [c]).length * 0 ≤ 16777216 ∧ RT S QD (.str (joinL [] (cs.map fun c => [c]))) S1) := by
      unfold mJoin
      simp only [seqD, asL]
      rw [txD_map (fun c => [c]) cs]
      rfl
    rw [em, ef, es]
    exact ⟨by omega, RT.here (q cs S1 (by omega) (by omega) hc hS)⟩
end DL

/-! DLa: small lemmas for readings. -/
namespace DL
open PySem PySem.Spec L2 TL
open PyProof.Rows hiding St
def itOf (d : D) (S1 : Sto) (R : List D → (Sto → Prop) → Sto → Prop) : Prop := match d with
  | .tup ds => R ds (fun _ => True) S1
  | .lst ds => R ds (fun _ => True) S1
  | .str l => R (l.map fun c => .str [c]) (fun _ => True) S1
  | .ref n => match S1[n]? with
    | some (.lst ds) => R ds (fun S' => S'[n]? = some (.lst ds)) S1
    | _ => False
  | _ => False
section
variable {ρ : Env} {S : Sto} {R : List D → (Sto → Prop) → Sto → Prop} {te : DTE}
@[simp] theorem e_iseq : iSeq te ρ S R = te ρ S fun d S1 => itOf d S1 R := rfl
@[simp] theorem it_tup {ds : List D} : itOf (.tup ds) S R = R ds (fun _ => True) S := rfl
@[simp] theorem it_lst {ds : List D} : itOf (.lst ds) S R = R ds (fun _ => True) S := rfl
@[simp] theorem it_str {l : Tx} : itOf (.str l) S R = R (l.map fun c => .str [c]) (fun _ => True) S := rfl
theorem it_ref {n : Nat} {ds : List D} (h : S[n]? = some (MO.lst ds)) : itOf (.ref n) S R = R ds (fun S' : Sto => S'[n]? = some (MO.lst ds)) S := by
  show (match S[n]? with
    | some (.lst ds) => R ds (fun S2 : Sto => S2[n]? = some (MO.lst ds)) S
    | _ => False) = _
  rw [h]
end
def rg1 (ds : List D) (S1 : Sto) (R : List D → (Sto → Prop) → Sto → Prop) : Prop := match ds with
  | [.int j] => -(2 ^ 62) ≤ j ∧ j < 2 ^ 62 ∧ R (rngD 0 j.toNat) (fun _ => True) S1
  | _ => False
def rg2 (ds : List D) (S1 : Sto) (R : List D → (Sto → Prop) → Sto → Prop) : Prop := match ds with
  | [.int i, .int j] => (-(2 ^ 62) ≤ i ∧ i < 2 ^ 62 ∧ -(2 ^ 62) ≤ j ∧ j < 2 ^ 62) ∧ R (rngD i (j - i).toNat) (fun _ => True) S1
  | _ => False
section
variable {ρ : Env} {S : Sto} {R : List D → (Sto → Prop) → Sto → Prop} {te : DTE} {ta : DTA}
@[simp] theorem e_range1 : iRange1 ta ρ S R = ta ρ S fun ds S1 => rg1 ds S1 R := rfl
@[simp] theorem e_range2 : iRange2 ta ρ S R = ta ρ S fun ds S1 => rg2 ds S1 R := rfl
theorem rg1_i {j : Int} (h0 : 0 ≤ j) (h1 : j < 100000000) (q : R (rngD 0 j.toNat) (fun _ => True) S) : rg1 [.int j] S R := ⟨by omega, by omega, q⟩
theorem rg2_i {i j : Int} (h0 : -1000 ≤ i) (h1 : i < 100000000) (h2 : -1000 ≤ j) (h3 : j < 100000000) (q : R (rngD i (j - i).toNat) (fun _ => True) S) : rg2 [.int i, .int j] S R := ⟨⟨by omega, by omega, by omega, by omega⟩, q⟩
end
/-- what is kept of the names at a cut -/
def SubE (n : Nat) : Env → Env → Prop
  | [], _ => True
  | none :: r2, _ :: r => SubE n r2 r
  | some d :: r2, some e :: r => d = e ∧ d.ltn n = true ∧ SubE n r2 r
  | _, _ => False
theorem SubE.len {n : Nat} : ∀ {r2 r : Env}, SubE n r2 r → r2.length ≤ r.length
  | [], _, _ => Nat.zero_le _
  | none :: r2, _ :: r, h => Nat.succ_le_succ (SubE.len (r2 := r2) (r := r) h)
  | some d :: r2, some e :: r, h => Nat.succ_le_succ (SubE.len (r2 := r2) (r := r) h.2.2)
  | some d :: r2, none :: r, h => by simp [SubE] at h
  | some d :: r2, [], h => by simp [SubE] at h
  | none :: r2, [], h => by simp [SubE] at h
theorem SubE.get {n : Nat} : ∀ {r2 r : Env}, SubE n r2 r → ∀ (i : Nat) (d : D), r2[i]? = some (some d) → r[i]? = some (some d) ∧ d.ltn n = true
  | [], _, _, i, d, h => by simp at h
  | none :: r2, _ :: r, h, 0, d, e => by simp at e
  | none :: r2, _ :: r, h, i + 1, d, e => by simpa using SubE.get (r2 := r2) (r := r) h i d (by simpa using e)
  | some d' :: r2, some e' :: r, h, 0, d, e => by
    obtain ⟨rfl, h2, _⟩ := h
    simp at e
    subst e
    exact ⟨rfl, h2⟩
  | some d' :: r2, some e' :: r, h, i + 1, d, e => by simpa using SubE.get (r2 := r2) (r := r) h.2.2 i d (by simpa using e)
  | some d :: r2, none :: r, h, _, _, _ => by simp [SubE] at h
  | some d :: r2, [], h, _, _, _ => by simp [SubE] at h
  | none :: r2, [], h, _, _, _ => by simp [SubE] at h
theorem Cut.i {S S' : Sto} {k : Env → Sto → Prop} {ρ : Env} (ρ2 : Env) (kp : Kept S S') (h : SubE S.length ρ2 ρ) (q : k ρ2 (S'.take S.length)) : Cut S k ρ S' := ⟨ρ2, kp, h.len, h.get, q⟩
/-- one statement at a time: what follows is kept shut -/
theorem seq_o {t u : DTS} {D' : DEnds} {ρ : Env} {S : Sto} (h : ∀ N, N = u D' → t { D' with nx := N } ρ S) : sSeq t u D' ρ S := h _ rfl
theorem sIx_pos (n d : Nat) {i : Int} (h : 0 ≤ i) : HT.sIx n d (some i) = min i.toNat n := by
  show (if i < 0 then (i + (n : Int)).toNat else min i.toNat n) = _
  rw [if_neg (by omega)]
theorem cutD_to {α : Type} (xs : List α) {i : Int} (h : 0 ≤ i) : cutD xs none (some i) = xs.take i.toNat := by
  unfold cutD
  rw [sIx_pos _ _ h, show HT.sIx xs.length 0 none = 0 from rfl, List.drop_zero, Nat.sub_zero]
  by_cases hn : i.toNat ≤ xs.length
  · rw [Nat.min_eq_left hn]
  · rw [Nat.min_eq_right (by omega), List.take_length, List.take_of_length_le (by omega)]
theorem cutD_from {α : Type} (xs : List α) {i : Int} (h : 0 ≤ i) : cutD xs (some i) none = xs.drop i.toNat := by
  unfold cutD
  rw [sIx_pos _ _ h, show HT.sIx xs.length xs.length none = xs.length from rfl]
  by_cases hn : i.toNat ≤ xs.length
  · rw [Nat.min_eq_left hn, List.take_of_length_le (by simp)]
  · rw [Nat.min_eq_right (by omega), List.drop_length, List.drop_of_length_le (by omega)]
    simp
theorem cutD_ft {α : Type} (xs : List α) {i j : Int} (h : 0 ≤ i) (hj : 0 ≤ j) : cutD xs (some i) (some j) = (xs.take j.toNat).drop i.toNat := by
  unfold cutD
  rw [sIx_pos _ _ h, sIx_pos _ _ hj, List.drop_take]
  by_cases hn : i.toNat ≤ xs.length
  · rw [Nat.min_eq_left hn]
    by_cases hm : j.toNat ≤ xs.length
    · rw [Nat.min_eq_left hm]
    · rw [Nat.min_eq_right (by omega), List.take_of_length_le (by simp), List.take_of_length_le (by simp; omega)]
  · rw [List.drop_of_length_le (by omega), List.drop_of_length_le (by omega)]
    simp
/-- a def that ends with a list of its own -/
theorem RT.frz {S : Sto} {QD : DQ} {xs : List D} {T : Sto} (h : ltnL S.length xs = true) (q : QD (.lst xs) S) : RT S QD (.ref S.length) (S ++ .lst xs :: T) :=
  .inr ⟨Kept.app _ _, .lst xs, .inr ⟨_, rfl, Nat.le_refl _, by simp [fin], by simpa [D.ltn] using h⟩, by simpa using q⟩
/-- .. with a plain value -/
theorem RT.cut {S : Sto} {QD : DQ} {d : D} {T : Sto} (h : d.ltn S.length = true) (q : QD d S) : RT S QD d (S ++ T) :=
  .inr ⟨Kept.app _ _, d, .inl ⟨h, rfl⟩, by simpa using q⟩
theorem eP_ltn (n : Nat) (p : Tx × Tx) : (eP p).ltn n = true := rfl
theorem ltn_eP (n : Nat) (ps : List (Tx × Tx)) : ltnL n (ps.map eP) = true := ltnL_map fun p _ => eP_ltn n p
theorem eP_ok (n : Nat) (p : Tx × Tx) : okd (n + 1) (eP p) = true := by simp [eP, okd, okds]
theorem oks_eP (n : Nat) (ps : List (Tx × Tx)) : okds (n + 1) (ps.map eP) = true := okds_map fun p _ => eP_ok n p
/-- append to a list made last -/
theorem set_last {S : Sto} (m m' : MO) : (S ++ [m]).set S.length m' = S ++ [m'] := by
  rw [List.set_append_right _ _ (Nat.le_refl _)]; simp
theorem get_last {S : Sto} (m : MO) : (S ++ [m])[S.length]? = some m := by simp
theorem asL_last {S : Sto} (xs : List D) : asL (S ++ [.lst xs]) (.ref S.length) = some xs := by simp [asL]
end DL

set_option exponentiation.threshold 4096
/-! DLt1: tables up to 2048 slots: the way of a search meets each slot. -/
namespace DL
open PySem PySem.Spec L2
open PyProof.Rows hiding St
def MaskG (m : Nat) : Prop := m = 7 ∨ m = 31 ∨ m = 127 ∨ m = 511 ∨ m = 2047
/-- the slots met in n steps, as bits -/
def orb (m : Nat) : Nat → Nat → Nat → Nat
  | 0, _, acc => acc
  | n + 1, x, acc => orb m n ((x * 5 + 1) % (m + 1)) (acc ||| 2 ^ x)
theorem lcgI_shift (m : Nat) : ∀ (k x : Nat), lcgI m x (k + 1) = lcgI m ((x * 5 + 1) % (m + 1)) k
  | 0, _ => rfl
  | k + 1, x => by
    show (lcgI m x (k + 1) * 5 + 1) % (m + 1) = (lcgI m ((x * 5 + 1) % (m + 1)) k * 5 + 1) % (m + 1)
    rw [lcgI_shift m k x]
theorem orb_bit (m : Nat) {j : Nat} : ∀ (n x acc : Nat), (orb m n x acc).testBit j = true → acc.testBit j = true ∨ ∃ k, k < n ∧ lcgI m x k = j
  | 0, _, _, h => .inl h
  | n + 1, x, acc, h => by
    rcases orb_bit m n _ _ h with z | ⟨k, hk, e⟩
    · rw [Nat.testBit_or, Bool.or_eq_true] at z
      rcases z with z | z
      · exact .inl z
      · rw [Nat.testBit_two_pow] at z
        exact .inr ⟨0, Nat.succ_pos _, by show x = j; simpa using z⟩
    · exact .inr ⟨k + 1, Nat.succ_lt_succ hk, by rw [lcgI_shift]; exact e⟩
theorem orb7 : orb 7 8 0 0 = 2 ^ 8 - 1 := by decide +kernel
theorem orb31 : orb 31 32 0 0 = 2 ^ 32 - 1 := by decide +kernel
theorem orb127 : orb 127 128 0 0 = 2 ^ 128 - 1 := by decide +kernel
theorem orb511 : orb 511 512 0 0 = 2 ^ 512 - 1 := by decide +kernel
theorem orb2047 : orb 2047 2048 0 0 = 2 ^ 2048 - 1 := by decide +kernel
theorem lcgI_N (m : Nat) : ∀ k, lcgI m 0 k = lcgN m k
  | 0 => rfl
  | k + 1 => by
    show (lcgI m 0 k * 5 + 1) % (m + 1) = (lcgN m k * 5 + 1) % (m + 1)
    rw [lcgI_N m k]
theorem meets_of {m : Nat} (h : orb m (m + 1) 0 0 = 2 ^ (m + 1) - 1) {j : Nat} (hj : j ≤ m) : ∃ b, b ≤ m ∧ lcgN m b = j := by
  have hb : (orb m (m + 1) 0 0).testBit j = true := by
    rw [h, Nat.testBit_two_pow_sub_one]
    simp; omega
  rcases orb_bit m (m + 1) 0 0 hb with z | ⟨k, hk, e⟩
  · simp at z
  · exact ⟨k, by omega, by rw [← lcgI_N]; exact e⟩
theorem MaskG.orb {m : Nat} (hm : MaskG m) : DL.orb m (m + 1) 0 0 = 2 ^ (m + 1) - 1 := by
  rcases hm with rfl | rfl | rfl | rfl | rfl
  · exact orb7
  · exact orb31
  · exact orb127
  · exact orb511
  · exact orb2047
theorem round7 : lcgN 7 8 = 0 := by decide +kernel
theorem round31 : lcgN 31 32 = 0 := by decide +kernel
theorem round127 : lcgN 127 128 = 0 := by decide +kernel
theorem round511 : lcgN 511 512 = 0 := by decide +kernel
theorem round2047 : lcgN 2047 2048 = 0 := by decide +kernel
theorem MaskG.round {m : Nat} (hm : MaskG m) : lcgN m (m + 1) = 0 := by
  rcases hm with rfl | rfl | rfl | rfl | rfl
  · exact round7
  · exact round31
  · exact round127
  · exact round511
  · exact round2047
theorem MaskG.per {m : Nat} (hm : MaskG m) : ∀ k, lcgN m (m + 1 + k) = lcgN m k
  | 0 => hm.round
  | k + 1 => by
    show (lcgN m (m + 1 + k) * 5 + 1) % (m + 1) = (lcgN m k * 5 + 1) % (m + 1)
    rw [hm.per k]
theorem MaskG.any {m : Nat} (hm : MaskG m) {i j : Nat} (hi : i ≤ m) (hj : j ≤ m) : ∃ k, k ≤ m ∧ lcgI m i k = j := by
  obtain ⟨a, ha, rfl⟩ := meets_of hm.orb hi
  obtain ⟨b, hb, rfl⟩ := meets_of hm.orb hj
  by_cases c : a ≤ b
  · exact ⟨b - a, by omega, by rw [lcgN_add, show a + (b - a) = b by omega]⟩
  · exact ⟨b + (m + 1) - a, by omega, by rw [lcgN_add, show a + (b + (m + 1) - a) = m + 1 + b by omega, hm.per]⟩
theorem MaskG.run {m : Nat} (hm : MaskG m) (h : Int) {j : Nat} (hj : j ≤ m) : ∃ n, n ≤ m + 12 ∧ runI m (SetTable.bits h) n = j := by
  obtain ⟨k, hk, e⟩ := hm.any (runI_le m (SetTable.bits h) 12) hj
  exact ⟨12 + k, by omega, by rw [runI_tail (bits_lt h), e]⟩
theorem MaskG.nth {m : Nat} (hm : MaskG m) (h : Int) {j : Nat} (hj : j ≤ m) : ∃ k, k < 10 * SetTable.turns m ∧ way m h k = j := by
  obtain ⟨n, hn, e⟩ := hm.run h hj
  obtain ⟨k, hk, e2⟩ := run_nth m (SetTable.bits h) n
  refine ⟨k, by unfold SetTable.turns; omega, ?_⟩
  show (L2.nth m (runAt m (SetTable.bits h % (m + 1)) (SetTable.bits h)) k).j = j
  rw [e2]
  exact e
theorem MaskG.odd {m : Nat} (h : MaskG m) : m % 2 = 1 := by
  rcases h with rfl | rfl | rfl | rfl | rfl <;> rfl
theorem way_in (m : Nat) (h : Int) (k : Nat) : way m h k ≤ m := by
  have hi : SetTable.bits h % (m + 1) ≤ m := Nat.le_of_lt_succ (Nat.mod_lt _ (Nat.succ_pos _))
  have r := runEnd_bd hi
  have q := nth_in (m := m) k (runAt m (SetTable.bits h % (m + 1)) (SetTable.bits h)) (by
    show SetTable.bits h % (m + 1) + (SetTable.runEnd m (SetTable.bits h % (m + 1)) - SetTable.bits h % (m + 1)) ≤ m
    omega)
  have : (L2.nth m (runAt m (SetTable.bits h % (m + 1)) (SetTable.bits h)) k).j ≤ m := by omega
  exact this
end DL

/-! DLt2: such tables: a search, one put in, all laid anew. -/
namespace DL
open PySem PySem.Spec L2
open PyProof.Rows hiding St
/-- each slot of the table is found again from its hash -/
structure TabG (t : SetTable) (hs : List Int) : Prop where
  ris : Ris t.place.toList
  dm : t.dummies = #[]
  sz : t.place.size = hs.length
  mok : MaskG t.mask
  bd : ∀ x ∈ t.place.toList, x ≤ t.mask
  reach : ∀ (i : Nat) (h : Int) (j : Nat), hs[i]? = some h → t.place.toList[i]? = some j → ∃ k, way t.mask h k = j ∧ ∀ c, c < k → way t.mask h c ∈ t.place.toList
section
variable {t : SetTable} {hs : List Int}
theorem TabG.first (T : TabG t hs) (hl : hs.length ≤ t.mask) (h : Int) : ∃ n, n < 10 * SetTable.turns t.mask ∧ way t.mask h n ∉ t.place.toList ∧ ∀ c, c < n → way t.mask h c ∈ t.place.toList := by
  obtain ⟨j, hj, hn⟩ := st_missing t.place.toList (t.mask + 1) (by rw [Array.length_toList, T.sz]; omega)
  obtain ⟨k, hk, e⟩ := T.mok.nth h (Nat.le_of_lt_succ hj)
  obtain ⟨n, h1, h2, h3⟩ := st_least (p := fun k => way t.mask h k ∉ t.place.toList) k (by rw [e]; exact hn)
  exact ⟨n, Nat.lt_of_le_of_lt h1 hk, h2, fun c hc => Classical.not_not.mp (h3 c hc)⟩
theorem TabG.before (T : TabG t hs) {h : Int} {n i j : Nat} (hn : way t.mask h n ∉ t.place.toList) (hi : hs[i]? = some h) (hj : t.place.toList[i]? = some j) : ∃ k, k < n ∧ way t.mask h k = j := by
  obtain ⟨k, e, hb⟩ := T.reach i h j hi hj
  refine ⟨k, ?_, e⟩
  rcases Nat.lt_trichotomy k n with c | c | c
  · exact c
  · subst c; rw [e] at hn; exact absurd (List.mem_of_getElem? hj) hn
  · exact absurd (hb n c) hn
theorem TabG.put (T : TabG t hs) {h : Int} {n : Nat} (hn : way t.mask h n ∉ t.place.toList) (hb : ∀ c, c < n → way t.mask h c ∈ t.place.toList) :
    (t.put (way t.mask h n)).2 = SetTable.below t.place (way t.mask h n) ∧ SetTable.below t.place (way t.mask h n) ≤ hs.length ∧
    TabG (t.put (way t.mask h n)).1 (hs.take (SetTable.below t.place (way t.mask h n)) ++ h :: hs.drop (SetTable.below t.place (way t.mask h n))) ∧
    (t.put (way t.mask h n)).1.mask = t.mask ∧ (t.put (way t.mask h n)).1.led = t.led ∧ (t.put (way t.mask h n)).1.fill = hs.length + 1 := by
  have hjm := way_in t.mask h n
  generalize hj : way t.mask h n = j at hn hjm ⊢
  obtain ⟨c1, -, -⟩ := below_cut T.ris j
  have hl : SetTable.below t.place j ≤ t.place.toList.length := by rw [Array.length_toList]; exact c1
  have hl2 : SetTable.below t.place j ≤ hs.length := by rw [← T.sz]; exact c1
  have hne : t.place[SetTable.below t.place j]? ≠ some j := fun e => hn (List.mem_of_getElem? (by rw [Array.getElem?_toList]; exact e))
  have hp := put_place t j
  have hz : (t.put j).1.place.size = hs.length + 1 := by
    rw [← Array.length_toList, hp, len_ins _ hl, Array.length_toList, T.sz]
  have up : ∀ x, x ∈ t.place.toList → x ∈ (t.put j).1.place.toList := fun x hx => by rw [hp]; exact mem_ins.2 (.inr hx)
  refine ⟨rfl, hl2, ⟨ris_insert T.ris hne, put_dm T.dm j, by rw [len_ins _ hl2]; exact hz, T.mok, fun x hx => ?_, fun i h2 j2 e1 e2 => ?_⟩, rfl, rfl, ?_⟩
  · rw [hp] at hx
    rcases mem_ins.1 hx with rfl | z
    · exact hjm
    · exact T.bd x z
  · rw [tins_get hs hl2] at e1
    rw [hp, tins_get _ hl] at e2
    show ∃ k, way t.mask h2 k = j2 ∧ ∀ c, c < k → way t.mask h2 c ∈ (t.put j).1.place.toList
    by_cases a : i < SetTable.below t.place j
    · rw [if_pos a] at e1 e2
      obtain ⟨k, e, z⟩ := T.reach i h2 j2 e1 e2
      exact ⟨k, e, fun c hc => up _ (z c hc)⟩
    · rw [if_neg a] at e1 e2
      by_cases b : i = SetTable.below t.place j
      · rw [if_pos b] at e1 e2
        cases e1
        cases e2
        exact ⟨n, hj, fun c hc => up _ (hb c hc)⟩
      · rw [if_neg b] at e1 e2
        obtain ⟨k, e, z⟩ := T.reach (i - 1) h2 j2 e1 e2
        exact ⟨k, e, fun c hc => up _ (z c hc)⟩
  · show (t.put j).1.place.size + (t.put j).1.dummies.size = hs.length + 1
    rw [hz, put_dm T.dm j]; rfl
end
/-- the first free place of the way -/
theorem free_at {m : Nat} (hm : MaskG m) (owner : Array (Option Nat)) (h : Int) {j : Nat} (hj : j ≤ m) (hf : oAt owner j = none) :
    ∃ n, SetTable.layClean.free m owner (SetTable.turns m) (SetTable.bits h % (m + 1)) (SetTable.bits h) = some (way m h n) ∧ oAt owner (way m h n) = none ∧ ∀ k, k < n → oAt owner (way m h k) ≠ none := by
  obtain ⟨q, hq, e⟩ := hm.run h hj
  have hw : way m h (off m (SetTable.bits h % (m + 1)) (SetTable.bits h) q) = j := by
    show (nth m (runAt m (SetTable.bits h % (m + 1)) (SetTable.bits h)) (off m (SetTable.bits h % (m + 1)) (SetTable.bits h) q)).j = j
    rw [nth_off, itL_run]
    exact e
  obtain ⟨n, n1, n2, n3⟩ := st_least (p := fun k => oAt owner (way m h k) = none) (off m (SetTable.bits h % (m + 1)) (SetTable.bits h) q) (by rw [hw]; exact hf)
  refine ⟨n, free_spec m owner (SetTable.turns m) q _ _ n (by unfold SetTable.turns; omega) n1 (fun k hk => ?_) ?_, n2, n3⟩
  · cases z : oAt owner (nth m (runAt m (SetTable.bits h % (m + 1)) (SetTable.bits h)) k).j with
    | none => exact absurd z (n3 k hk)
    | some _ => rfl
  · rw [show oAt owner (nth m (runAt m (SetTable.bits h % (m + 1)) (SetTable.bits h)) n).j = none from n2]; rfl
theorem own_one {m : Nat} (hm : MaskG m) {done : List Int} {owner : Array (Option Nat)} (W : Own m done owner) (hl : done.length ≤ m) (h : Int) :
    ∃ j, SetTable.layClean.free m owner (SetTable.turns m) (SetTable.bits h % (m + 1)) (SetTable.bits h) = some j ∧ Own m (done ++ [h]) (owner.setIfInBounds j (some done.length)) := by
  obtain ⟨ps, hp1, hp2⟩ := W.ps
  obtain ⟨j0, h0, hn0⟩ := st_missing ps (m + 1) (by omega)
  have hj0 : oAt owner j0 = none := by
    cases z : oAt owner j0 with
    | none => rfl
    | some k => exact absurd (hp2 j0 (Nat.le_of_lt_succ h0) (by rw [z]; simp)) hn0
  obtain ⟨n, e1, e2, e3⟩ := free_at hm owner h (Nat.le_of_lt_succ h0) hj0
  have hjm := way_in m h n
  have self := oAt_set_self (owner := owner) (j := way m h n) (some done.length) (by rw [W.sz]; omega)
  have keep : ∀ i, oAt owner i ≠ none → oAt (owner.setIfInBounds (way m h n) (some done.length)) i ≠ none := fun i hi => by
    by_cases c : i = way m h n
    · rw [c, self]; simp
    · rw [oAt_set_ne _ c]; exact hi
  refine ⟨way m h n, e1, by rw [Array.size_setIfInBounds]; exact W.sz, fun j k hj e => ?_, fun k hk => ?_, ⟨way m h n :: ps, by simp [hp1], fun j hj e => ?_⟩⟩
  · by_cases c : j = way m h n
    · rw [c, self] at e
      cases e
      exact ⟨h, n, by simp, c.symm, fun k' hk' => keep _ (e3 k' hk')⟩
    · rw [oAt_set_ne _ c] at e
      obtain ⟨h2, n2, a1, a2, a3⟩ := W.at_ j k hj e
      exact ⟨h2, n2, by rw [List.getElem?_append_left (List.getElem?_eq_some_iff.mp a1).1]; exact a1, a2, fun k' hk' => keep _ (a3 k' hk')⟩
  · rw [List.length_append, List.length_singleton] at hk
    by_cases c : k < done.length
    · obtain ⟨j, hj, e⟩ := W.all k c
      exact ⟨j, hj, by rw [oAt_set_ne _ (fun z => by rw [z, e2] at e; cases e)]; exact e⟩
    · have : k = done.length := by omega
      subst this
      exact ⟨way m h n, hjm, self⟩
  · by_cases c : j = way m h n
    · rw [c]; simp
    · rw [oAt_set_ne _ c] at e
      exact List.mem_cons_of_mem _ (hp2 j hj e)
theorem own_all {m : Nat} (hm : MaskG m) : ∀ (rest done : List Int) (owner : Array (Option Nat)), Own m done owner → done.length + rest.length ≤ m →
    ∃ o2, rest.foldl (stepF m) (some (owner, done.length)) = some (o2, (done ++ rest).length) ∧ Own m (done ++ rest) o2
  | [], done, owner, W, _ => ⟨owner, by simp, by simpa using W⟩
  | h :: rest, done, owner, W, hl => by
    rw [List.length_cons] at hl
    obtain ⟨j, e, W2⟩ := own_one hm W (by omega) h
    obtain ⟨o2, f, W3⟩ := own_all hm rest (done ++ [h]) _ W2 (by simp; omega)
    have ea : done ++ [h] ++ rest = done ++ h :: rest := by simp
    rw [ea] at f W3
    refine ⟨o2, ?_, W3⟩
    rw [List.foldl_cons, stepF_some e]
    have el : (done ++ [h]).length = done.length + 1 := by simp
    rw [el] at f
    exact f
theorem clean_ok {m : Nat} (hm : MaskG m) {hs : Array Int} (hn : hs.size ≤ m) : ∃ owner, SetTable.layClean m hs = some owner ∧ Own m hs.toList owner := by
  obtain ⟨owner, f, W⟩ := own_all hm hs.toList [] _ (Own.init m) (by rw [Array.length_toList]; simpa using hn)
  refine ⟨owner, ?_, by simpa using W⟩
  rw [layClean_eq]
  rw [show hs.toList.foldl (stepF m) (some (Array.replicate (m + 1) none, 0)) = some (owner, ([] ++ hs.toList).length) from f]
  rfl
theorem laid_anew (t : SetTable) {hs : Array Int} {wanted M : Nat} (hw : SetTable.sizeAbove wanted - 1 = M) (hM : MaskG M) (hn : hs.size ≤ M) :
    ∃ t2 order, t.relaid hs wanted = some (t2, order) ∧ order.toList.Perm (List.range hs.size) ∧ TabG t2 (order.toList.map fun i => hs.getD i 0) ∧ t2.mask = M ∧ t2.led = t.led := by
  obtain ⟨owner, e, W⟩ := clean_ok hM hn
  have hr : t.relaid hs wanted = some (tabOf t M owner, ((liveOf M owner).map (·.2)).toArray) := by rw [relaid_eq, hw, e]; rfl
  have rl := ris_live (fun j => owner.getD j none) (List.range (M + 1)) (by
    unfold Ris
    first | exact List.pairwise_lt_range | exact List.pairwise_lt_range _)
  have r1 : Ris ((liveOf M owner).map (·.1)) := rl.1
  have r2 : ∀ x ∈ (liveOf M owner).map (·.1), x ∈ List.range (M + 1) := rl.2
  have nd : ((liveOf M owner).map (·.1)).Nodup := r1.imp fun h => Nat.ne_of_lt h
  have hlen : (liveOf M owner).length = hs.size := by
    obtain ⟨ps, p1, p2⟩ := W.ps
    have a := nat_nodup_len ((liveOf M owner).map (·.1)) ps nd fun x hx => by
      obtain ⟨⟨y, k⟩, hq, rfl⟩ := List.mem_map.mp hx
      obtain ⟨b1, b2⟩ := (mem_live W.sz).1 hq
      exact p2 y b1 (by rw [b2]; simp)
    have b := nat_nodup_len (List.range hs.size) ((liveOf M owner).map (·.2)) List.nodup_range fun k hk => by
      obtain ⟨j, b1, b2⟩ := W.all k (by rw [Array.length_toList]; exact List.mem_range.mp hk)
      exact List.mem_map.mpr ⟨(j, k), (mem_live W.sz).2 ⟨b1, b2⟩, rfl⟩
    have hz : hs.toList.length = hs.size := rfl
    rw [List.length_map, p1] at a
    rw [List.length_map, List.length_range] at b
    omega
  refine ⟨tabOf t M owner, ((liveOf M owner).map (·.2)).toArray, hr, perm_range hs.size _ (by show ((liveOf M owner).map (·.2)).length = _; rw [List.length_map]; exact hlen) fun k hk => ?_, ⟨r1, rfl, ?_, hM, fun x hx => Nat.le_of_lt_succ (List.mem_range.mp (r2 x hx)), fun i h j e1 e2 => ?_⟩, rfl, rfl⟩
  · obtain ⟨j, b1, b2⟩ := W.all k (by rw [Array.length_toList]; exact hk)
    exact List.mem_map.mpr ⟨(j, k), (mem_live W.sz).2 ⟨b1, b2⟩, rfl⟩
  · show ((liveOf M owner).map (·.1)).toArray.size = (((liveOf M owner).map (·.2)).map fun i => hs.getD i 0).length
    simp
  · have e1' : (((liveOf M owner).map (·.2)).map fun i => hs.getD i 0)[i]? = some h := e1
    have e2' : ((liveOf M owner).map (·.1))[i]? = some j := e2
    rw [List.getElem?_map, List.getElem?_map] at e1'
    rw [List.getElem?_map] at e2'
    cases hq : (liveOf M owner)[i]? with
    | none => rw [hq] at e2'; cases e2'
    | some q =>
      obtain ⟨y, k⟩ := q
      rw [hq] at e1' e2'
      have ey : y = j := Option.some.inj e2'
      have eh : hs.getD k 0 = h := Option.some.inj e1'
      subst ey
      obtain ⟨b1, b2⟩ := (mem_live W.sz).1 (List.mem_of_getElem? hq)
      obtain ⟨h0, n, a1, a2, a3⟩ := W.at_ y k b1 b2
      have e0 : hs.getD k 0 = h0 := by
        rw [Array.getD_eq_getD_getElem?, ← Array.getElem?_toList, a1]; rfl
      rw [e0] at eh
      subst eh
      refine ⟨n, a2, fun c hc => ?_⟩
      show way M h0 c ∈ (liveOf M owner).map (·.1)
      cases z : oAt owner (way M h0 c) with
      | none => exact absurd z (a3 c hc)
      | some k2 => exact List.mem_map.mpr ⟨(way M h0 c, k2), (mem_live W.sz).2 ⟨way_in M h0 c, z⟩, rfl⟩
end DL

/-! DLs1: sets whose elements are tuples of ints and texts. -/
namespace DL
open PySem PySem.Spec L2
open PyProof.Rows hiding St
section
variable {P : Program} {w : World} {A : Around} {E : Value → Shared → Prop} {s : Shared}
/-- the tuple at b is k -/
abbrev TupK (P : Program) (w : World) (h : Heap) (k : List Key) (b : Addr) : Prop := IsTupleKey (mixKind P w) h k b
abbrev KH (P : Program) (w : World) (k : List Key) : Int := tupleKeyHash (mixKind P w) k
theorem items_plain {k : List Key} {vs : List Value} (h : ItemsAre (mixKind P w) k vs) : ∀ v ∈ vs, (∃ i t, v = .int i t) ∨ ∃ x t, v = .str x t := by
  induction h with
  | nil => exact fun v hv => absurd hv (by simp)
  | cons h1 _ ih =>
    intro v hv
    rcases List.mem_cons.mp hv with rfl | hv
    · rcases keyIs_shape h1 with ⟨i, t, rfl, _⟩ | ⟨x, t, rfl, _⟩
      · rename_i e; exact .inl ⟨i, t, e⟩
      · rename_i e; exact .inr ⟨x, t, e⟩
    · exact ih v hv

/-- no item is of a class statement -/
theorem plain_cls {v : Value} (h : (∃ i t, v = Value.int i t) ∨ ∃ x t, v = Value.str x t) (n : Nat) : ofAClassStatement n v = pure false := by
  rcases h with ⟨i, t, rfl⟩ | ⟨x, t, rfl⟩ <;> (cases n <;> rfl)
theorem plain_hbv {v : Value} (h : (∃ i t, v = Value.int i t) ∨ ∃ x t, v = Value.str x t) (n : Nat) : ∃ c, hashByValue n v = pure c := by
  rcases h with ⟨i, t, rfl⟩ | ⟨x, t, rfl⟩
  · exact ⟨true, by cases n <;> rfl⟩
  · exact ⟨false, by cases n <;> rfl⟩
theorem tup_cls {k : List Key} {b : Addr} {Q : Bool → Shared → Prop} (T : TupK P w s.heap k b) (q : Q false s) : wpAny (model P w) A (ofAClassStatement 8 (.ref b)) Q E s := by
  have ty := T.typeIs
  rcases T with ⟨ob, vs, m, h1, -, h3, h4⟩
  have pl := items_plain h4
  unfold ofAClassStatement
  refine wpAny_bind (wpAny_typeOf ty ?_)
  simp only [beq_self_eq_true, if_true]
  refine wpAny_bind (wpAny_pure ?_)
  simp only [Bool.not_true, Bool.false_eq_true, if_false]
  refine wpAny_bind (wpAny_seqItems h1 h3 ?_)
  dsimp only
  refine wpAny_bind ?_
  rw [← Array.forIn_toList]
  refine wpAny_forIn_list _ (fun l r s2 => r.1 = none ∧ s2 = s ∧ ∀ v ∈ l, (∃ i t, v = Value.int i t) ∨ ∃ x t, v = Value.str x t) _ (fun v l r s2 c => ?_) (fun r s2 c => ?_) _ _ ⟨rfl, rfl, pl⟩
  · rcases c with ⟨c1, rfl, c2⟩
    rw [plain_cls (c2 v (by simp))]
    refine wpAny_bind (wpAny_pure ?_)
    simp only [Bool.false_eq_true, if_false]
    exact wpAny_pure ⟨rfl, rfl, fun u m2 => c2 u (List.mem_cons_of_mem _ m2)⟩
  · rcases r with ⟨r1, r2⟩
    rcases c with ⟨c1, rfl, -⟩
    cases (show r1 = none from c1)
    exact wpAny_pure q
theorem tup_hbv {k : List Key} {b : Addr} {Q : Bool → Shared → Prop} (T : TupK P w s.heap k b) (q : ∀ c, Q c s) : wpAny (model P w) A (hashByValue 8 (.ref b)) Q E s := by
  have ty := T.typeIs
  rcases T with ⟨ob, vs, m, h1, -, h3, h4⟩
  have pl := items_plain h4
  unfold hashByValue
  refine wpAny_bind (wpAny_specialOf ty F.slot_tuple_hash.lookup ?_)
  dsimp only
  refine wpAny_bind (wpAny_seqItems h1 h3 ?_)
  refine wpAny_bind ?_
  show wpAny _ _ (forIn vs _ _) _ _ s
  rw [← Array.forIn_toList]
  refine wpAny_forIn_list _ (fun l r s2 => r.1 = none ∧ s2 = s ∧ ∀ v ∈ l, (∃ i t, v = Value.int i t) ∨ ∃ x t, v = Value.str x t) _ (fun v l r s2 c => ?_) (fun r s2 c => ?_) _ _ ⟨rfl, rfl, pl⟩
  · rcases c with ⟨c1, rfl, c2⟩
    obtain ⟨d, e⟩ := plain_hbv (c2 v (by simp)) 7
    rw [e]
    refine wpAny_bind (wpAny_pure ?_)
    cases d
    · simp only [Bool.not_false, if_true]
      exact wpAny_pure (wpAny_pure (q _))
    · simp only [Bool.not_true, Bool.false_eq_true, if_false]
      exact wpAny_pure ⟨rfl, rfl, fun u m2 => c2 u (List.mem_cons_of_mem _ m2)⟩
  · rcases r with ⟨r1, r2⟩
    rcases c with ⟨c1, rfl, -⟩
    cases (show r1 = none from c1)
    exact wpAny_pure (q _)
/-- a search among such tuples is not seen -/
theorem tup_unseen {k : List Key} {b : Addr} {Q : Bool → Shared → Prop} (T : TupK P w s.heap k b) {ys : List Value} (hy : ∀ y ∈ ys, ∃ k2 c, y = Value.ref c ∧ TupK P w s.heap k2 c) (q : Q false s) :
    wpAny (model P w) A (searchCouldBeSeen (.ref b) ys) Q E s := by
  unfold searchCouldBeSeen
  refine wpAny_bind ?_
  refine wpAny_forIn_list _ (fun l r s2 => r.1 = none ∧ s2 = s ∧ ∀ y ∈ l, ∃ k2 c, y = Value.ref c ∧ TupK P w s.heap k2 c) _ (fun v l r s2 c => ?_) (fun r s2 c => ?_) _ _ ⟨rfl, rfl, hy⟩
  · rcases c with ⟨c1, rfl, c2⟩
    obtain ⟨k2, c, rfl, U⟩ := c2 v (by simp)
    have go : ∀ y ∈ l, ∃ k2 c, y = Value.ref c ∧ TupK P w s2.heap k2 c := fun u m2 => c2 u (List.mem_cons_of_mem _ m2)
    dsimp only
    split
    · exact wpAny_pure ⟨rfl, rfl, go⟩
    · refine wpAny_bind (wpAny_eqIsQuiet_tuple T ?_)
      simp only [Bool.not_true, Bool.false_eq_true, if_false]
      refine wpAny_bind (wpAny_eqIsQuiet_tuple U ?_)
      simp only [Bool.not_true, Bool.false_eq_true, if_false]
      refine wpAny_bind (tup_cls T ?_)
      simp only [Bool.false_eq_true, if_false]
      refine wpAny_bind (tup_cls U ?_)
      simp only [Bool.false_eq_true, if_false]
      exact wpAny_pure ⟨rfl, rfl, go⟩
  · rcases r with ⟨r1, r2⟩
    rcases c with ⟨c1, rfl, -⟩
    cases (show r1 = none from c1)
    exact wpAny_pure q

/-! ### the set -/
abbrev EK := Addr × List Key
def rws (P : Program) (w : World) (L : List EK) : List (Int × Value) := L.map fun p => (KH P w p.2, Value.ref p.1)
def hss (P : Program) (w : World) (L : List EK) : List Int := L.map fun p => KH P w p.2
/-- the set object at a holds L, in the table's order -/
structure SG (P : Program) (w : World) (h : Heap) (a : Addr) (L : List EK) (es : Array (Int × Value)) (ep : Nat) (t : SetTable) : Prop where
  at_ : ∃ o, h.get? a = some o ∧ o.ExactSet ∧ o.data = .set es ep t
  rows : es.toList = rws P w L
  tab : TabG t (hss P w L)
  nd : (L.map (·.2)).Nodup
  tup : ∀ p ∈ L, TupK P w h p.2 p.1
  led : w.params.followText "set-order" = true ∨ t.led = true
  room : L.length * 5 < t.mask * 3
  few : L.length < 1200
variable {a : Addr} {L : List EK} {es : Array (Int × Value)} {ep : Nat} {t : SetTable}
theorem rws_size (h : es.toList = rws P w L) : es.size = L.length := by
  rw [← Array.length_toList, h, rws, List.length_map]
theorem rws_get (h : es.toList = rws P w L) {i : Nat} {p : EK} (e : L[i]? = some p) : es[i]? = some (KH P w p.2, Value.ref p.1) := by
  have : es.toList[i]? = some (KH P w p.2, Value.ref p.1) := by
    rw [h, rws, List.getElem?_map, e]
    rfl
  rwa [Array.getElem?_toList] at this
theorem fits_of {n : Nat} (h1 : t.place.size = n) (h2 : t.dummies = #[]) (h3 : n ≤ t.mask) : t.fits n = true := by
  simp only [SetTable.fits, SetTable.fill, h2, h1, Bool.and_eq_true, beq_iff_eq, decide_eq_true_eq, Array.size_empty, Nat.add_zero]
  exact ⟨trivial, h3⟩
theorem SG.fits {h : Heap} (R : SG P w h a L es ep t) : t.fits es.size = true := by
  have h1 := R.tab.sz
  rw [hss, List.length_map] at h1
  have h2 := rws_size R.rows
  have h3 := R.room
  exact fits_of (h1.trans h2.symm) R.tab.dm (by omega)
theorem not_gaveWay (h : MaskG t.mask) : ¬ t.gaveWay = true := by
  unfold SetTable.gaveWay
  rw [MaskG.odd h]
  decide
/-- the c-th probe of a hash -/
abbrev prb (m : Nat) (H : Int) (c : Nat) : SetTable.Probe := nth m (runAt m (SetTable.bits H % (m + 1)) (SetTable.bits H)) c
theorem prb_add (m : Nat) (H : Int) (c d : Nat) : nth m (prb m H c) d = prb m H (c + d) := (nth_add m c _ d).symm
theorem prb_dummy (m : Nat) (H : Int) (c : Nat) : (prb m H c).dummy = none := by
  induction c with
  | zero => rfl
  | succ c ih =>
    show (nth m _ (c + 1)).dummy = none
    rw [nth_succ]
    unfold adv
    split
    · exact ih
    · exact ih
theorem SG.look {x : Addr} {k : List Key} (R : SG P w s.heap a L es ep t) (T : TupK P w s.heap k x) (hu : A.units < cLine) {Q : SetFound → Shared → Prop}
    (hin : k ∈ L.map (·.2) → Q (.there none) s)
    (hout : ∀ n, k ∉ L.map (·.2) → way t.mask (KH P w k) n ∉ t.place.toList → (∀ c, c < n → way t.mask (KH P w k) c ∈ t.place.toList) → Q (.free (way t.mask (KH P w k) n) false) s) :
    wpAny (model P w) A (setSearch a (.ref x) (KH P w k) true) Q E s := by
  have hlen : (hss P w L).length = L.length := by rw [hss, List.length_map]
  have hroom := R.room
  obtain ⟨n, hn1, hn2, hn3⟩ := R.tab.first (by omega) (KH P w k)
  have hnb : n < 100000 := by
    have : 10 * SetTable.turns t.mask ≤ 20620 := by
      unfold SetTable.turns
      rcases R.tab.mok with e | e | e | e | e <;> omega
    omega
  obtain ⟨o, ho, hex, hd⟩ := R.at_
  have hsz : t.place.toList.length = L.length := by rw [Array.length_toList, R.tab.sz, hlen]
  have hash : ∀ (i : Nat) (p : EK), L[i]? = some p → (fun i : Nat => (es[i]?.map (·.1)).getD 0) i = KH P w p.2 := fun i p hp => by
    show (es[i]?.map (·.1)).getD 0 = _
    rw [rws_get R.rows hp]
    rfl
  have main : ∀ (f c : Nat) (stand : Option SetTable.Probe), stand.getD (t.probeStart (KH P w k)) = prb t.mask (KH P w k) c → c ≤ n → n - c < f →
      (∀ (i : Nat) (p : EK), L[i]? = some p → p.2 = k → ∃ d, c ≤ d ∧ d < n ∧ t.place.toList[i]? = some (way t.mask (KH P w k) d)) →
      wpAny (model P w) A (setSearchFrom a (.ref x) (KH P w k) true f stand) Q E s := by
    intro f
    induction f with
    | zero => intro c stand _ _ h _; exact absurd h (Nat.not_lt_zero _)
    | succ f ih =>
      intro c stand hst hc hf hre
      rw [setSearchFrom_succ]
      refine wpAny_bind (wpAny_setState_of ho hd R.fits ?_)
      dsimp only
      rw [if_neg (not_gaveWay R.tab.mok)]
      try refine wpAny_bind (wpAny_pure ?_)
      have ej : ∀ q, (nth t.mask (prb t.mask (KH P w k) c) q).j = way t.mask (KH P w k) (c + q) := fun q => congrArg SetTable.Probe.j (prb_add t.mask (KH P w k) c q)
      have hcn : c + (n - c) = n := by omega
      have spec := go_spec t R.tab.ris R.tab.dm (fun i : Nat => (es[i]?.map (·.1)).getD 0) (KH P w k) (10 * SetTable.turns t.mask) (n - c) (prb t.mask (KH P w k) c) (prb_dummy _ _ _) (by omega)
        (fun q hq => by rw [ej]; exact hn3 _ (by omega)) (by rw [ej, hcn]; exact hn2)
      have ep0 : t.probe (fun i : Nat => (es[i]?.map (·.1)).getD 0) (KH P w k) (stand.getD (t.probeStart (KH P w k))) = SetTable.probe.go t (fun i : Nat => (es[i]?.map (·.1)).getD 0) (KH P w k) (10 * SetTable.turns t.mask) (prb t.mask (KH P w k) c) := by
        rw [hst]; rfl
      rw [ep0]
      rcases spec with ⟨q, i, hq, hi, hh, hno, hpr⟩ | ⟨hno, hpr⟩
      · rw [hpr]
        dsimp only
        rw [ej] at hi
        rw [ej, prb_add]
        obtain ⟨p, hp⟩ : ∃ p, L[i]? = some p := by
          have : i < L.length := by rw [← hsz]; exact (List.getElem?_eq_some_iff.mp hi).1
          exact ⟨_, List.getElem?_eq_getElem this⟩
        have hpm : p ∈ L := List.mem_of_getElem? hp
        have hpT := R.tup p hpm
        have rest : wpAny (model P w) A (searchRest a (.ref x) (KH P w k) true f es t (way t.mask (KH P w k) (c + q)) i (prb t.mask (KH P w k) (c + (q + 1)))) Q E s := by
          unfold searchRest
          rw [rws_get R.rows hp]
          dsimp only
          refine wpAny_bind (wpAny_holding (wpAny_eqBool_tuple hu hpT T ?_))
          refine wpAny_bind (wpAny_setState_of ho hd R.fits ?_)
          dsimp only
          by_cases hk : p.2 = k
          · rw [if_pos (by simp [hk])]
            exact wpAny_pure (hin (List.mem_map.mpr ⟨p, hpm, hk⟩))
          · rw [if_neg (by simp [hk])]
            try refine wpAny_bind (wpAny_pure ?_)
            rw [sameMem]
            dsimp only
            have hsl : t.slot (way t.mask (KH P w k) (c + q)) = .live i := slot_live R.tab.ris hi
            simp only [if_true, hsl, rws_get R.rows hp]
            refine wpAny_bind (wpAny_isSame_ref_self (wpAny_bind (wpAny_pure ?_)))
            simp only [if_true]
            rw [if_neg (by simp [hk])]
            refine ih (c + (q + 1)) _ rfl (by omega) (by omega) fun i0 p0 h0 k0 => ?_
            obtain ⟨d, d1, d2, d3⟩ := hre i0 p0 h0 k0
            refine ⟨d, ?_, d2, d3⟩
            by_cases z : d < c + q
            · exact absurd ((hash i0 p0 h0).trans (congrArg (KH P w) k0)) (hno (d - c) i0 (by omega) (by rw [ej, show c + (d - c) = d by omega]; exact d3))
            · by_cases y : d = c + q
              · subst y
                have := slot_live R.tab.ris d3
                rw [hsl] at this
                injection this with this
                subst this
                rw [hp] at h0
                cases h0
                exact absurd k0 hk
              · omega
        by_cases hl : t.led = true
        · rw [if_neg (by simp [hl])]
          try refine wpAny_bind (wpAny_pure ?_)
          exact rest
        · rw [if_pos (by simp [hl])]
          refine wpAny_bind (tup_unseen T (fun y hy => ?_) ?_)
          · obtain ⟨e, he, rfl⟩ := List.mem_map.mp hy
            have he2 : e ∈ es.toList := by
              have : e ∈ es ∧ e.1 = KH P w k := by simpa using he
              simpa using this.1
            rw [R.rows] at he2
            obtain ⟨p2, hp2, rfl⟩ := List.mem_map.mp he2
            exact ⟨p2.2, p2.1, rfl, R.tup p2 hp2⟩
          · rw [if_neg (by decide)]
            try refine wpAny_bind (wpAny_pure ?_)
            exact rest
      · rw [hpr]
        dsimp only
        rw [ej, hcn]
        refine wpAny_pure (hout n (fun hm => ?_) hn2 hn3)
        obtain ⟨p0, h0, k0⟩ := List.mem_map.mp hm
        obtain ⟨i0, hi0, e0⟩ := List.getElem_of_mem h0
        have h00 : L[i0]? = some p0 := by rw [List.getElem?_eq_getElem hi0, e0]
        obtain ⟨d, d1, d2, d3⟩ := hre i0 p0 h00 k0
        exact absurd ((hash i0 p0 h00).trans (congrArg (KH P w) k0)) (hno (d - c) i0 (by omega) (by rw [ej, show c + (d - c) = d by omega]; exact d3))
  unfold setSearch
  refine main 100000 0 none rfl (Nat.zero_le _) (by omega) fun i p hp hk => ?_
  have hi : (hss P w L)[i]? = some (KH P w k) := by rw [hss, List.getElem?_map, hp, ← hk]; rfl
  have hil : i < t.place.toList.length := by rw [hsz]; exact (List.getElem?_eq_some_iff.mp hp).1
  obtain ⟨d, hd, e⟩ := R.tab.before hn2 hi (List.getElem?_eq_getElem hil)
  exact ⟨d, Nat.zero_le _, hd, by rw [List.getElem?_eq_getElem hil, e]⟩
end
end DL

/-! DLs2: adding to such sets. -/
namespace DL
open PySem PySem.Spec L2
open PyProof.Rows hiding St
section
variable {P : Program} {w : World} {A : Around} {E : Value → Shared → Prop} {s : Shared}
variable {a : Addr} {L : List EK} {es : Array (Int × Value)} {ep : Nat} {t : SetTable}
theorem tup_beside {h h2 : Heap} {k : List Key} {b : Addr} {o : Obj} (T : TupK P w h k b) (ho : h.get? a = some o) (hd : o.data = .set es ep t) (sb : Heap.SameBut a h h2) : TupK P w h2 k b := by
  rcases T with ⟨ob, vs, m, h1, h2', h3, h4⟩
  refine ⟨ob, vs, m, (sb.2 b fun e => ?_).trans h1, h2', h3, h4⟩
  subst e
  rw [h1] at ho
  cases ho
  rw [hd] at h3
  cases h3
theorem range_all {α : Type} (L : List α) : (List.range L.length).filterMap (fun i => L[i]?) = L := by
  have e1 : (List.range L.length).map (fun i => L[i]?) = L.map some := by
    refine List.ext_getElem? fun i => ?_
    rw [List.getElem?_map, List.getElem?_map]
    by_cases h : i < L.length
    · rw [List.getElem?_range h]
      simp [h]
    · rw [List.getElem?_eq_none (by simpa using h), List.getElem?_eq_none (by simpa using h)]
      rfl
  have e2 : (List.range L.length).filterMap (fun i => L[i]?) = ((List.range L.length).map (fun i => L[i]?)).filterMap id := by
    rw [List.filterMap_map]; rfl
  rw [e2, e1, List.filterMap_map]
  simp [Function.comp_def]
theorem rws_ord (h : es.toList = rws P w L) {order : Array Nat} (hp : order.toList.Perm (List.range L.length)) :
    ∃ M, (order.filterMap (es[·]?)).toList = rws P w M ∧ M.Perm L ∧ hss P w M = order.toList.map fun i => (es.map (·.1)).getD i 0 := by
  have get : ∀ i : Nat, es[i]? = (L[i]?).map fun p => (KH P w p.2, Value.ref p.1) := fun i => by
    rw [← Array.getElem?_toList, h, rws, List.getElem?_map]
  refine ⟨order.toList.filterMap fun i => L[i]?, ?_, ?_, ?_⟩
  · rw [Array.toList_filterMap, rws, List.map_filterMap]
    exact congrArg (fun f => List.filterMap f order.toList) (funext get)
  · have := hp.filterMap fun i => L[i]?
    rwa [range_all] at this
  · have key : ∀ l : List Nat, (∀ i ∈ l, i < L.length) → hss P w (l.filterMap fun i => L[i]?) = l.map fun i => (es.map (·.1)).getD i 0 := by
      intro l
      induction l with
      | nil => intro _; rfl
      | cons i l ih =>
        intro hl
        have hi := hl i (by simp)
        rw [List.filterMap_cons_some (List.getElem?_eq_getElem hi), List.map_cons, ← ih fun j hj => hl j (List.mem_cons_of_mem _ hj)]
        have : (es.map (·.1)).getD i 0 = KH P w (L[i]).2 := by
          rw [Array.getD_eq_getD_getElem?, Array.getElem?_map, get, List.getElem?_eq_getElem hi]
          rfl
        rw [this]
        rfl
    exact key _ fun i hi => List.mem_range.mp (hp.mem_iff.mp hi)
theorem TabG.plain {hs : List Int} (T : TabG t hs) (b : Bool) : TabG { t with plain := b } hs := ⟨T.ris, T.dm, T.sz, T.mok, T.bd, T.reach⟩
theorem size_308 : SetTable.sizeAbove (SetTable.grown 77) = 512 := by decide +kernel
theorem size_1228 : SetTable.sizeAbove (SetTable.grown 307) = 2048 := by decide +kernel
/-- the table laid anew -/
theorem sg_relay {o : Obj} (ho : s.heap.get? a = some o) (hex : o.ExactSet) (hd : o.data = .set es ep t) (hr : es.toList = rws P w L) (hz : t.place.size = es.size) (hm : t.dummies = #[]) (hl : es.size ≤ t.mask)
    (nd : (L.map (·.2)).Nodup) (tup : ∀ p ∈ L, TupK P w s.heap p.2 p.1) (led : w.params.followText "set-order" = true ∨ t.led = true) (few : L.length < 1200) {wanted M : Nat}
    (hw : SetTable.sizeAbove wanted - 1 = M) (hM : MaskG M) (hw2 : SetTable.sizeAbove wanted ≤ 2048) (hroom : L.length * 5 < M * 3) {Q : Unit → Shared → Prop}
    (q : ∀ h2 L2 es2 ep2 t2, Heap.SameBut a s.heap h2 → SG P w h2 a L2 es2 ep2 t2 → L2.Perm L → Q () { s with heap := h2 }) : wpAny (model P w) A (setRelay a wanted) Q E s := by
  have hn := rws_size hr
  obtain ⟨t2, order, e1, pm, T, e2, e3⟩ := laid_anew t (hs := es.map (·.1)) (wanted := wanted) hw hM (by rw [Array.size_map]; omega)
  rw [Array.size_map, hn] at pm
  obtain ⟨L2, r1, r2, r3⟩ := rws_ord hr pm
  rw [← r3] at T
  have hn2 : (order.filterMap (es[·]?)).size = es.size := by rw [rws_size r1, r2.length_eq, hn]
  rw [setRelay_eq]
  refine wpAny_bind (wpAny_setState_of ho hd (fits_of hz hm hl) ?_)
  dsimp only
  rw [if_neg (by rw [sizeLine_eq]; omega)]
  try refine wpAny_bind (wpAny_pure ?_)
  rw [e1]
  dsimp only
  refine wpAny_bind ?_
  rw [if_neg (by rw [hn2]; simp)]
  try refine wpAny_bind (wpAny_pure ?_)
  refine wpAny_pure ?_
  dsimp only
  have sb : Heap.SameBut a s.heap (s.heap.update a (Obj.putSet (order.filterMap (es[·]?)) t2)) := Heap.SameBut.update ..
  refine wpAny_storeSet_of ho hd ?_ (by rw [hn2, hn, sizeLine_eq]; omega)
  refine q _ L2 _ (ep + 1) t2 sb ⟨⟨_, store_at ho hd, ⟨hex.1, hex.2.1, hex.2.2⟩, rfl⟩, r1, T, (r2.map (·.2)).nodup_iff.mpr nd, fun p hp => tup_beside (tup p (r2.mem_iff.mp hp)) ho hd sb, by rw [e3]; exact led, by rw [r2.length_eq, e2]; exact hroom, by rw [r2.length_eq]; exact few⟩ r2
/-- adding -/
theorem SG.add {x : Addr} {k : List Key} (R : SG P w s.heap a L es ep t) (T : TupK P w s.heap k x) (hu : A.units < cLine) (hf : L.length + 1 < 1200) {Q : Bool → Shared → Prop}
    (q : ∀ b h2 L2 es2 ep2 t2, Heap.SameBut a s.heap h2 → SG P w h2 a L2 es2 ep2 t2 → (k ∈ L.map (·.2) ∧ L2 = L ∨ k ∉ L.map (·.2) ∧ L2.Perm ((x, k) :: L)) → Q b { s with heap := h2 }) :
    wpAny (model P w) A (setAddHashed a (.ref x) (KH P w k)) Q E s := by
  obtain ⟨o, ho, hex, hd⟩ := R.at_
  have hn := rws_size R.rows
  have hroom := R.room
  have hlen : (hss P w L).length = L.length := by rw [hss, List.length_map]
  unfold setAddHashed
  refine wpAny_holding ?_
  rw [show (100000 : Nat) = 99999 + 1 from rfl, setAddHashedIn_succ]
  refine wpAny_bind (wpAny_setState_of ho hd R.fits ?_)
  dsimp only
  rw [if_neg (by simp [byScan, Value.scannable])]
  try refine wpAny_bind (wpAny_pure ?_)
  refine wpAny_bind (R.look T hu (fun hm => ?_) fun n hm h1 h2 => ?_)
  · exact wpAny_pure (q _ _ L es ep t (Heap.SameBut.refl a s.heap) R (.inl ⟨hm, rfl⟩))
  dsimp only
  refine wpAny_bind (wpAny_setState_of ho hd R.fits ?_)
  dsimp only
  obtain ⟨p1, p2, p3, p4, p5, p9⟩ := R.tab.put h1 h2
  generalize t.put (way t.mask (KH P w k) n) = pt at p1 p2 p3 p4 p5 p9 ⊢
  obtain ⟨t1, p⟩ := pt
  dsimp only at p1 p2 p3 p4 p5 p9 ⊢
  subst p1
  generalize hpp : SetTable.below t.place (way t.mask (KH P w k) n) = p at p2 p3 ⊢
  have hin : (SetTable.insertAt es p (KH P w k, Value.ref x)).toList = rws P w (L.take p ++ (x, k) :: L.drop p) := by
    rw [SetTable.toList_insertAt, R.rows]
    simp [rws, List.map_take, List.map_drop]
  have pm := put_perm L p (x, k)
  have hl1 : (L.take p ++ (x, k) :: L.drop p).length = L.length + 1 := pm.length_eq
  have hh : (hss P w L).take p ++ KH P w k :: (hss P w L).drop p = hss P w (L.take p ++ (x, k) :: L.drop p) := by
    simp [hss, List.map_take, List.map_drop]
  rw [hh] at p3
  have nd1 : ((L.take p ++ (x, k) :: L.drop p).map (·.2)).Nodup := (pm.map (·.2)).nodup_iff.mpr (by
    rw [List.map_cons]; exact List.nodup_cons.mpr ⟨hm, R.nd⟩)
  generalize SetTable.insertAt es p (KH P w k, Value.ref x) = es1 at hin ⊢
  generalize L.take p ++ (x, k) :: L.drop p = L1 at pm hl1 p3 nd1 hin
  have hn1 := rws_size hin
  have fin : ∀ c : Bool, wpAny (model P w) A (do
      let t := if c then t1 else { t1 with plain := false }
      storeSet a es1 t
      if !false && t.tooFull then setRelay a (SetTable.grown (es.size + 1))
      return true) Q E s := by
    intro c
    have T2 : TabG (if c then t1 else { t1 with plain := false }) (hss P w L1) := by cases c; exact TabG.plain p3 false; exact p3
    have f2 : (if c then t1 else { t1 with plain := false }).fill = (hss P w L).length + 1 := by cases c; exact p9; exact p9
    have m2 : (if c then t1 else { t1 with plain := false }).mask = t.mask := by cases c; exact p4; exact p4
    have l2 : (if c then t1 else { t1 with plain := false }).led = t.led := by cases c; exact p5; exact p5
    dsimp only
    generalize (if c then t1 else { t1 with plain := false }) = t2 at T2 f2 m2 l2 ⊢
    refine wpAny_bind (wpAny_storeSet_of ho hd ?_ (by rw [hn1, sizeLine_eq]; omega))
    have sb : Heap.SameBut a s.heap (s.heap.update a (Obj.putSet es1 t2)) := Heap.SameBut.update ..
    have ho2 := store_at (es' := es1) (t' := t2) ho hd
    generalize s.heap.update a (Obj.putSet es1 t2) = h2 at sb ho2 ⊢
    have tup2 : ∀ p ∈ L1, TupK P w h2 p.2 p.1 := fun p hp => by
      rcases List.mem_cons.mp (pm.mem_iff.mp hp) with rfl | hp
      · exact tup_beside T ho hd sb
      · exact tup_beside (R.tup p hp) ho hd sb
    have led2 : w.params.followText "set-order" = true ∨ t2.led = true := by rw [l2]; exact R.led
    have hsz2 : t2.place.size = es1.size := by rw [T2.sz, hss, List.length_map, hn1]
    by_cases hfull : t2.tooFull = true
    · have h5 : (L.length + 1) * 5 ≥ t.mask * 3 := by
        have h := hfull
        unfold SetTable.tooFull at h
        rw [decide_eq_true_eq, f2, m2, hlen] at h
        exact h
      simp only [hfull, Bool.not_false, Bool.and_self, if_true]
      have which : (t.mask = 7 ∧ L.length = 4) ∨ (t.mask = 31 ∧ L.length = 18) ∨ (t.mask = 127 ∧ L.length = 76) ∨ (t.mask = 511 ∧ L.length = 306) := by
        rcases R.tab.mok with e | e | e | e | e
        · left; rw [e] at h5 hroom; exact ⟨e, by omega⟩
        · right; left; rw [e] at h5 hroom; exact ⟨e, by omega⟩
        · right; right; left; rw [e] at h5 hroom; exact ⟨e, by omega⟩
        · right; right; right; rw [e] at h5 hroom; exact ⟨e, by omega⟩
        · exfalso; rw [e] at h5; omega
      have go : ∀ M, SetTable.sizeAbove (SetTable.grown (es.size + 1)) - 1 = M → MaskG M → SetTable.sizeAbove (SetTable.grown (es.size + 1)) ≤ 2048 → (L.length + 1) * 5 < M * 3 →
          wpAny (model P w) A (do setRelay a (SetTable.grown (es.size + 1)); return true) Q E { s with heap := h2 } := fun M a1 a2 a3 a4 =>
        wpAny_bind (sg_relay (s := { s with heap := h2 }) ho2 ⟨hex.1, hex.2.1, hex.2.2⟩ rfl hin hsz2 T2.dm (by rw [hn1, hl1, m2]; rcases which with ⟨e, e2⟩ | ⟨e, e2⟩ | ⟨e, e2⟩ | ⟨e, e2⟩ <;> omega) nd1 tup2 led2 (by omega) a1 a2 a3 (by rw [hl1]; exact a4)
          fun h3 L3 es3 ep3 t3 sb3 R3 pm3 => wpAny_pure (q _ h3 L3 es3 ep3 t3 (sb.trans sb3) R3 (.inr ⟨hm, pm3.trans pm⟩)))
      rcases which with ⟨-, e2⟩ | ⟨-, e2⟩ | ⟨-, e2⟩ | ⟨-, e2⟩
      · have e3 : es.size + 1 = 5 := by omega
        rw [e3] at go ⊢
        exact go 31 (by rw [size_20]) (.inr (.inl rfl)) (by rw [size_20]; decide) (by omega)
      · have e3 : es.size + 1 = 19 := by omega
        rw [e3] at go ⊢
        exact go 127 (by rw [size_76]) (.inr (.inr (.inl rfl))) (by rw [size_76]; decide) (by omega)
      · have e3 : es.size + 1 = 77 := by omega
        rw [e3] at go ⊢
        exact go 511 (by rw [size_308]) (.inr (.inr (.inr (.inl rfl)))) (by rw [size_308]; decide) (by omega)
      · have e3 : es.size + 1 = 307 := by omega
        rw [e3] at go ⊢
        exact go 2047 (by rw [size_1228]) (.inr (.inr (.inr (.inr rfl)))) (by rw [size_1228]; decide) (by omega)
    · have h5 : ¬ (L.length + 1) * 5 ≥ t.mask * 3 := fun h => hfull (by
        unfold SetTable.tooFull
        rw [decide_eq_true_eq, f2, m2, hlen]
        exact h)
      rw [if_neg (by simp [hfull])]
      try refine wpAny_bind (wpAny_pure ?_)
      exact wpAny_pure (q _ h2 L1 es1 (ep + 1) t2 sb ⟨⟨_, ho2, ⟨hex.1, hex.2.1, hex.2.2⟩, rfl⟩, hin, T2, nd1, tup2, led2, by rw [m2]; omega, by omega⟩ (.inr ⟨hm, pm⟩))
  by_cases hp1 : t1.plain = true
  · simp only [hp1, if_true]
    refine wpAny_bind (tup_hbv T fun c => ?_)
    exact fin c
  · simp only [hp1, Bool.false_eq_true, if_false]
    refine wpAny_bind (wpAny_pure ?_)
    exact fin true
end
end DL

/-! DLs3: set(xs), sorted(set). -/
namespace DL
open PySem PySem.Spec L2
open PyProof.Rows hiding St
/-- what a set has of the first n of ks -/
structure Has (ks : List EK) (n : Nat) (L : List EK) : Prop where
  sub : ∀ p ∈ L, p ∈ ks.take n
  all : ∀ p ∈ ks.take n, p.2 ∈ L.map (·.2)
  len : L.length ≤ n
theorem Has.next {ks L M : List EK} {n : Nat} {x : EK} (g : Has ks n L) (e : ks[n]? = some x) (c : x.2 ∈ L.map (·.2) ∧ M = L ∨ x.2 ∉ L.map (·.2) ∧ M.Perm (x :: L)) : Has ks (n + 1) M := by
  have et : ks.take (n + 1) = ks.take n ++ [x] := by rw [List.take_succ, e]; rfl
  rcases c with ⟨c1, rfl⟩ | ⟨c1, pm⟩
  · refine ⟨fun p hp => ?_, fun p hp => ?_, Nat.le_succ_of_le g.len⟩
    · rw [et]; exact List.mem_append_left _ (g.sub p hp)
    · rw [et] at hp
      rcases List.mem_append.mp hp with hp | hp
      · exact g.all p hp
      · cases List.mem_singleton.mp hp; exact c1
  · refine ⟨fun p hp => ?_, fun p hp => ?_, by rw [pm.length_eq]; exact Nat.succ_le_succ g.len⟩
    · rw [et]
      rcases List.mem_cons.mp (pm.mem_iff.mp hp) with rfl | hp
      · exact List.mem_append_right _ (by simp)
      · exact List.mem_append_left _ (g.sub p hp)
    · rw [(pm.map (·.2)).mem_iff, List.map_cons]
      rw [et] at hp
      rcases List.mem_append.mp hp with hp | hp
      · exact List.mem_cons_of_mem _ (g.all p hp)
      · cases List.mem_singleton.mp hp; exact List.mem_cons_self
section
variable {P : Program} {w : World} {A : Around} {E : Value → Shared → Prop} {s : Shared}
theorem tup_keep {h h2 : Heap} {k : List Key} {b : Addr} (T : TupK P w h k b) (kp : ∀ c o, h.get? c = some o → h2.get? c = some o) : TupK P w h2 k b := by
  rcases T with ⟨ob, vs, m, h1, r⟩
  exact ⟨ob, vs, m, kp b ob h1, r⟩
abbrev newSet (w : World) : Obj := { cls := .type "set", dict := none, data := .set #[] 0 (.fresh 0 0 (!w.params.followText "set-order")) }
theorem sg_new {h : Heap} {a : Addr} (ho : h.get? a = some (newSet w)) : SG P w h a [] #[] 0 (.fresh 0 0 (!w.params.followText "set-order")) := by
  refine ⟨⟨_, ho, ⟨rfl, rfl, rfl⟩, rfl⟩, rfl, ⟨List.Pairwise.nil, rfl, rfl, .inl rfl, fun x hx => absurd hx (List.not_mem_nil), fun i h j hi => ?_⟩, List.nodup_nil, fun p hp => absurd hp (List.not_mem_nil), ?_, (by show 0 * 5 < 7 * 3; decide), (by show 0 < 1200; decide)⟩
  · simp [hss] at hi
  · show _ ∨ (!w.params.followText "set-order") = true
    cases w.params.followText "set-order"
    · exact .inr rfl
    · exact .inl rfl
theorem SG.keep {h h2 : Heap} {a : Addr} {L : List EK} {es : Array (Int × Value)} {ep : Nat} {t : SetTable} (R : SG P w h a L es ep t) (ha : ∀ o, h.get? a = some o → h2.get? a = some o) (ht : ∀ p ∈ L, TupK P w h2 p.2 p.1) : SG P w h2 a L es ep t := by
  obtain ⟨o, ho, r⟩ := R.at_
  exact ⟨⟨o, ha o ho, r⟩, R.rows, R.tab, R.nd, ht, R.led, R.room, R.few⟩
/-- what stands at S after the first i of n items -/
structure Filler (P : Program) (w : World) (S : Addr) (h0 : Heap) (n : Nat) (val : Nat → Value → Prop) (Z : Nat → Heap → Prop) : Prop where
  keep : ∀ {i : Nat} {h h2 : Heap}, Z i h → (∀ o, h.get? S = some o → h2.get? S = some o) → (∀ b o, h0.get? b = some o → h2.get? b = some o) → Z i h2
  new : ∀ {h : Heap}, h.get? S = some (newSet w) → Z 0 h
  add : ∀ {i : Nat} {v : Value} {A : Around} {E : Value → Shared → Prop} {s : Shared} {Q : Bool → Shared → Prop}, A.units < cLine → i < n → val i v → (∀ b o, h0.get? b = some o → s.heap.get? b = some o) → Z i s.heap →
    (∀ r h2 tk, s.toks ≤ tk → Heap.SameBut S s.heap h2 → Z (i + 1) h2 → Q r { s with heap := h2, toks := tk }) → wpAny (model P w) A (setAdd S v) Q E s
/-- the loop of set.update -/
theorem fill_loop {I : Addr} {fp wr : List Addr} {G : Array GenState → Array GenState → Prop} {n : Nat} {Pv : Nat → Value → Prop} {St : Nat → Shared → Prop} {R : Result → Shared → Prop} {Z : Nat → Heap → Prop} {h0 : Heap} {S : Addr}
    (W : WalksS P w A.in1 I fp wr G n Pv St) (hS : S ∉ fp) (F0 : Filler P w S h0 n Pv Z) (hS0 : h0.get? S = none) (hw0 : ∀ b ∈ wr, h0.get? b = none) (hu : A.in1.units < cLine)
    (hR : ∀ s2, Moved (S :: wr) G s s2 → Z n s2.heap → (∀ b o, h0.get? b = some o → s2.heap.get? b = some o) → R (.ok (.ret .none)) s2) :
    ∀ (m i : Nat) (s1 : Shared), n - i = m → i ≤ n → St i s1 → Moved (S :: wr) G s s1 → (∀ b o, h0.get? b = some o → s1.heap.get? b = some o) → Z i s1.heap →
      codeAny (model P w) A (.builtin "set.update.loop" ⟨[.ref S, .ref I], []⟩) R s1 := by
  have hSw : S ∉ wr := fun z => hS (W.sub _ z)
  have old : ∀ {s1 s2 : Shared}, Moved wr G s1 s2 → (∀ b o, h0.get? b = some o → s1.heap.get? b = some o) → ∀ b o, h0.get? b = some o → s2.heap.get? b = some o := fun mv kp b o e =>
    mv.heap b o (fun z => by rw [hw0 b z] at e; cases e) (kp b o e)
  have wide : ∀ {s1 s2 : Shared}, Moved wr G s1 s2 → Moved (S :: wr) G s1 s2 := fun mv => mv.mono fun b hb => List.mem_cons_of_mem _ hb
  intro m
  induction m with
  | zero =>
    intro i s1 hm hi st mv kp z
    obtain rfl : i = n := by omega
    refine codeAny_builtin F.entry_set_update_loop ?_
    rw [Around.under_plainId F.plain_set_update_loop _]
    show wpAny _ A.in1 (pyNext (.ref I) >>= _) _ _ s1
    refine wpAny_bind (W.done s1 _ _ st fun s2 mv2 => ?_)
    show wpAny _ A.in1 (ret Value.none) _ _ s2
    have kp2 := old mv2 kp
    exact wpAny_pure (hR s2 (Moved.trans W.gtrans mv (wide mv2)) (F0.keep z (fun o e => mv2.heap S o hSw e) kp2) kp2)
  | succ m ih =>
    intro i s1 hm hi st mv kp z
    have hlt : i < n := by omega
    refine codeAny_builtin F.entry_set_update_loop ?_
    rw [Around.under_plainId F.plain_set_update_loop _]
    show wpAny _ A.in1 (pyNext (.ref I) >>= _) _ _ s1
    refine wpAny_bind (W.item i s1 _ _ hlt st fun v s2 hP st2 mv2 => ?_)
    have kp2 := old mv2 kp
    show wpAny _ A.in1 (holding [v] (setAdd S v) >>= _) _ _ s2
    refine wpAny_bind (wpAny_holding ?_)
    refine F0.add hu hlt hP kp2 (F0.keep z (fun o e => mv2.heap S o hSw e) kp2) fun r h3 tk htk sb z3 => ?_
    have kp3 : ∀ b o, h0.get? b = some o → h3.get? b = some o := fun b o e => (sb.2 b (fun z => by rw [z, hS0] at e; cases e)).trans (kp2 b o e)
    refine wpAny_pure ⟨plainId_quiet F.plain_set_update_loop _, ih (i + 1) _ (by omega) hlt (W.frame _ s2 _ _ st2 htk fun b hb o e => ?_) ?_ kp3 z3⟩
    · rw [sb.2 b (fun z : b = S => hS (by rw [← z]; exact hb))]; exact e
    · exact Moved.trans W.gtrans mv ((wide mv2).then_heap htk fun b o hb e => by
        rw [sb.2 b (fun z : b = S => hb (by rw [z]; exact List.mem_cons_self))]; exact e)
/-- tuples -/
theorem filler_tup {S : Addr} {h0 : Heap} {vs : Array Value} {ks : List EK} (hvs : vs.toList = ks.map fun p => Value.ref p.1) (hk : ∀ p ∈ ks, TupK P w h0 p.2 p.1) (hfew : ks.length < 1200) (hS0 : h0.get? S = none) :
    Filler P w S h0 vs.size (fun i v => vs[i]? = some v) fun i h => ∃ L es ep t, SG P w h S L es ep t ∧ Has ks i L where
  keep := fun ⟨L, es, ep, t, sg, g⟩ k1 k2 => ⟨L, es, ep, t, sg.keep k1 fun q hq => tup_keep (hk q (List.mem_of_mem_take (g.sub q hq))) k2, g⟩
  new := fun e => ⟨[], #[], 0, _, sg_new e, ⟨fun p hp => absurd hp (List.not_mem_nil), fun p hp => by simp at hp, Nat.le_refl _⟩⟩
  add := fun {i v A E s Q} hu hi hv kp ⟨L, es, ep, t, sg, g⟩ q => by
    have hn : vs.size = ks.length := by rw [← Array.length_toList, hvs, List.length_map]
    obtain ⟨p, hp, rfl⟩ : ∃ p, ks[i]? = some p ∧ v = .ref p.1 := by
      rw [← Array.getElem?_toList, hvs, List.getElem?_map] at hv
      cases e : ks[i]? with
      | none => rw [e] at hv; cases hv
      | some p => rw [e] at hv; exact ⟨p, rfl, (Option.some.inj hv).symm⟩
    have T : TupK P w s.heap p.2 p.1 := tup_keep (hk p (List.mem_of_getElem? hp)) kp
    unfold setAdd
    refine wpAny_holding ?_
    refine wpAny_bind (wpAny_pyHash_tuple hu T ?_)
    exact SG.add (s := { s with toks := s.toks + (p.2.length + 1) }) sg T hu (by have := g.len; omega) fun b h3 L3 es3 ep3 t3 sb sg3 c => q b h3 _ (Nat.le_add_right _ _) sb ⟨L3, es3, ep3, t3, sg3, g.next hp c⟩
/-- set(xs) of a list -/
theorem fill_call {l : Addr} {vs : Array Value} {Z : Nat → Heap → Prop} {Q : Value → Shared → Prop} (hh : A.handled = none) (hl : s.heap.IsList l vs)
    (F0 : Filler P w s.heap.objs.size s.heap vs.size (fun i v => vs[i]? = some v) Z) (hu : A.units + 3 < cLine)
    (q : ∀ (h2 : Heap) (tk : Nat), Z vs.size h2 → (∀ b o, s.heap.get? b = some o → h2.get? b = some o) → Q (.ref s.heap.objs.size) { s with heap := h2, toks := tk }) :
    wpAny (model P w) A (call (.type "set") [.ref l]) Q E s := by
  obtain ⟨c, tl, hmro⟩ := F.called_set.mro
  have hmade := F.called_set.made
  have hsub := F.called_set.sub
  refine wpAny_call (codeAny_of_tree ?_)
  show wpAny _ _ (callAny (.type "set") _) _ _ _
  refine wpAny_pure ⟨Code.quiet_builtin _ (by decide +kernel), codeAny_builtin F.entry_type_call ?_⟩
  rw [Around.under_plain (weight_type_call_type "set" [.ref l] []) rfl]
  have f1 := F.called_set.notType
  have f2 := F.called_set.canCreate
  have f3 := F.typeCall_set_1 (.ref l)
  repeat (any_goals (first | assumption | wp_step))
  refine codeAny_mono (code_set_led1 (.ref l) (E := E) (Q₁ := fun ob s1 => ob = .ref s.heap.objs.size ∧ s1 = { s with heap := s.heap.push (newSet w) }) ⟨rfl, rfl⟩) fun r s1 hr => ?_
  cases r with
  | error e => exact hr
  | ok fl =>
    cases fl with
    | ret ob =>
      obtain ⟨rfl, rfl⟩ := hr
      have hS : (s.heap.push (newSet w)).get? s.heap.objs.size = some (newSet w) := Heap.get?_push_size _ rfl
      have hT : Shared.TypeIs { s with heap := s.heap.push (newSet w) } (.ref s.heap.objs.size) "set" := ⟨_, hS, rfl⟩
      have f4 := F.called_set.init.lookup
      have f5 := F.called_set.init.bind (.ref s.heap.objs.size)
      repeat (any_goals (first | assumption | wp_step))
      refine codeAny_mono (codeAny_call_builtin (R := wants (fun r s2 => r = .none ∧ ∃ h2 tk, s2 = { s with heap := h2, toks := tk } ∧ Z vs.size h2 ∧
          (∀ b o, s.heap.get? b = some o → h2.get? b = some o)) E) F.called_set.init.plain F.entry_set_init (check_set_init_1 hT ?_)) fun r2 s2 hr2 => ?_
      · obtain ⟨ol, hol, hcl, nl, hdl⟩ := hl
        obtain ⟨ocls, odict, odata, oslots⟩ := ol
        simp only at hcl hdl
        subst hcl; subst hdl
        have hol2 : (s.heap.push (newSet w)).get? l = some { cls := .type "list", dict := odict, data := .seq vs nl, slots := oslots } := Heap.get?_push_of_some _ hol
        have f6 := F.sub_list_set
        have f7 := F.sub_list_frozenset
        have f8 : (Value.type "list" == Value.type "dict") = false := by decide
        have hl1 : (s.heap.push (newSet w)).IsList l vs := ⟨_, hol2, rfl, nl, rfl⟩
        unfold Builtin.«set.__init__» noKeywords Builtin.Frozenset.updateFrom
        generalize hPI : pyIter = PI
        wp_walk
        subst hPI
        refine wpAny_pyIter_list hl1 ?_
        refine wpAny_bind (wpAny_runValue ?_)
        have hlS : l < s.heap.objs.size := Heap.lt_size hol
        have hh3 : A.in1.in1.in1.handled = none := by simp [hh]
        have hz1 : (s.heap.push (newSet w)).objs.size = s.heap.objs.size + 1 := Heap.size_push ..
        have none_of : ∀ b, s.heap.objs.size ≤ b → s.heap.get? b = none := fun b hb => by
          cases z : s.heap.get? b with
          | none => rfl
          | some o => exact absurd (Nat.lt_of_lt_of_le (Heap.lt_size z) hb) (Nat.lt_irrefl _)
        have hneI : l ≠ (s.heap.push (newSet w)).objs.size := by rw [hz1]; exact Nat.ne_of_lt (Nat.lt_succ_of_lt hlS)
        have hSf : s.heap.objs.size ∉ [(s.heap.push (newSet w)).objs.size, l] := by
          rw [hz1]; simp only [List.mem_cons, List.not_mem_nil, or_false, not_or]
          exact ⟨Nat.ne_of_lt (Nat.lt_succ_self _), Nat.ne_of_gt hlS⟩
        refine fill_loop ((Walks.list hh3 _ l hneI vs).toS) (S := s.heap.objs.size) hSf F0 (none_of _ (Nat.le_refl _)) (fun b hb => none_of b (by
            rw [List.mem_singleton.mp hb, hz1]; omega)) hu (fun s2 mv z kp => ?_) (vs.size - 0) 0 _ (by omega) (Nat.zero_le _)
          ⟨⟨_, Heap.get?_push_size _ rfl, rfl, rfl⟩, (hl1.push _)⟩ (Moved.refl (fun _ => rfl)) (fun b o e => Heap.get?_push_of_some _ (Heap.get?_push_of_some _ e))
          (F0.new (Heap.get?_push_of_some _ hS))
        obtain ⟨h2, g2, d2, tk2, os2⟩ := s2
        have eg : g2 = s.gens := mv.gens
        have ed : d2 = s.drawn := mv.drawn
        have eo : os2 = s.os := mv.os
        subst eg; subst ed; subst eo
        show wpAny _ _ _ _ _ _
        refine wpAny_pure ?_
        show wpAny _ _ (ret Value.none) _ _ _
        exact wpAny_pure ⟨rfl, h2, tk2, rfl, z, kp⟩
      · cases r2 with
        | error e => exact hr2
        | ok fl2 =>
          cases fl2 with
          | ret r =>
            obtain ⟨rfl, h2, tk, rfl, z, kp⟩ := hr2
            repeat (any_goals (first | assumption | wp_step))
            exact q _ _ z kp
          | _ => exact hr2.elim
    | _ => exact hr.elim
/-- .. of a tuple -/
theorem fill_callT {l : Addr} {vs : Array Value} {Z : Nat → Heap → Prop} {Q : Value → Shared → Prop} (hh : A.handled = none) (hl : s.heap.IsTuple l vs)
    (F0 : Filler P w s.heap.objs.size s.heap vs.size (fun i v => vs[i]? = some v) Z) (hu : A.units + 3 < cLine)
    (q : ∀ (h2 : Heap) (tk : Nat), Z vs.size h2 → (∀ b o, s.heap.get? b = some o → h2.get? b = some o) → Q (.ref s.heap.objs.size) { s with heap := h2, toks := tk }) :
    wpAny (model P w) A (call (.type "set") [.ref l]) Q E s := by
  obtain ⟨c, tl, hmro⟩ := F.called_set.mro
  have hmade := F.called_set.made
  have hsub := F.called_set.sub
  refine wpAny_call (codeAny_of_tree ?_)
  show wpAny _ _ (callAny (.type "set") _) _ _ _
  refine wpAny_pure ⟨Code.quiet_builtin _ (by decide +kernel), codeAny_builtin F.entry_type_call ?_⟩
  rw [Around.under_plain (weight_type_call_type "set" [.ref l] []) rfl]
  have f1 := F.called_set.notType
  have f2 := F.called_set.canCreate
  have f3 := F.typeCall_set_1 (.ref l)
  repeat (any_goals (first | assumption | wp_step))
  refine codeAny_mono (code_set_led1 (.ref l) (E := E) (Q₁ := fun ob s1 => ob = .ref s.heap.objs.size ∧ s1 = { s with heap := s.heap.push (newSet w) }) ⟨rfl, rfl⟩) fun r s1 hr => ?_
  cases r with
  | error e => exact hr
  | ok fl =>
    cases fl with
    | ret ob =>
      obtain ⟨rfl, rfl⟩ := hr
      have hS : (s.heap.push (newSet w)).get? s.heap.objs.size = some (newSet w) := Heap.get?_push_size _ rfl
      have hT : Shared.TypeIs { s with heap := s.heap.push (newSet w) } (.ref s.heap.objs.size) "set" := ⟨_, hS, rfl⟩
      have f4 := F.called_set.init.lookup
      have f5 := F.called_set.init.bind (.ref s.heap.objs.size)
      repeat (any_goals (first | assumption | wp_step))
      refine codeAny_mono (codeAny_call_builtin (R := wants (fun r s2 => r = .none ∧ ∃ h2 tk, s2 = { s with heap := h2, toks := tk } ∧ Z vs.size h2 ∧
          (∀ b o, s.heap.get? b = some o → h2.get? b = some o)) E) F.called_set.init.plain F.entry_set_init (check_set_init_1 hT ?_)) fun r2 s2 hr2 => ?_
      · obtain ⟨ol, hol, hcl, nl, hdl⟩ := hl
        obtain ⟨ocls, odict, odata, oslots⟩ := ol
        simp only at hcl hdl
        subst hcl; subst hdl
        have hol2 : (s.heap.push (newSet w)).get? l = some { cls := .type "tuple", dict := odict, data := .seq vs nl, slots := oslots } := Heap.get?_push_of_some _ hol
        have f6 := F.sub_tuple_set
        have f7 := F.sub_tuple_frozenset
        have f8 : (Value.type "tuple" == Value.type "dict") = false := by decide
        have hl1 : (s.heap.push (newSet w)).IsTuple l vs := ⟨_, hol2, rfl, nl, rfl⟩
        unfold Builtin.«set.__init__» noKeywords Builtin.Frozenset.updateFrom
        generalize hPI : pyIter = PI
        wp_walk
        subst hPI
        refine wpAny_pyIter_tuple hl1 ?_
        refine wpAny_bind (wpAny_runValue ?_)
        have hlS : l < s.heap.objs.size := Heap.lt_size hol
        have hh3 : A.in1.in1.in1.handled = none := by simp [hh]
        have hz1 : (s.heap.push (newSet w)).objs.size = s.heap.objs.size + 1 := Heap.size_push ..
        have none_of : ∀ b, s.heap.objs.size ≤ b → s.heap.get? b = none := fun b hb => by
          cases z : s.heap.get? b with
          | none => rfl
          | some o => exact absurd (Nat.lt_of_lt_of_le (Heap.lt_size z) hb) (Nat.lt_irrefl _)
        have hneI : l ≠ (s.heap.push (newSet w)).objs.size := by rw [hz1]; exact Nat.ne_of_lt (Nat.lt_succ_of_lt hlS)
        have hSf : s.heap.objs.size ∉ [(s.heap.push (newSet w)).objs.size, l] := by
          rw [hz1]; simp only [List.mem_cons, List.not_mem_nil, or_false, not_or]
          exact ⟨Nat.ne_of_lt (Nat.lt_succ_self _), Nat.ne_of_gt hlS⟩
        refine fill_loop ((Walks.tuple hh3 _ l hneI vs).toS) (S := s.heap.objs.size) hSf F0 (none_of _ (Nat.le_refl _)) (fun b hb => none_of b (by
            rw [List.mem_singleton.mp hb, hz1]; omega)) hu (fun s2 mv z kp => ?_) (vs.size - 0) 0 _ (by omega) (Nat.zero_le _)
          ⟨⟨_, Heap.get?_push_size _ rfl, rfl, rfl⟩, (hl1.push _)⟩ (Moved.refl (fun _ => rfl)) (fun b o e => Heap.get?_push_of_some _ (Heap.get?_push_of_some _ e))
          (F0.new (Heap.get?_push_of_some _ hS))
        obtain ⟨h2, g2, d2, tk2, os2⟩ := s2
        have eg : g2 = s.gens := mv.gens
        have ed : d2 = s.drawn := mv.drawn
        have eo : os2 = s.os := mv.os
        subst eg; subst ed; subst eo
        show wpAny _ _ _ _ _ _
        refine wpAny_pure ?_
        show wpAny _ _ (ret Value.none) _ _ _
        exact wpAny_pure ⟨rfl, h2, tk2, rfl, z, kp⟩
      · cases r2 with
        | error e => exact hr2
        | ok fl2 =>
          cases fl2 with
          | ret r =>
            obtain ⟨rfl, h2, tk, rfl, z, kp⟩ := hr2
            repeat (any_goals (first | assumption | wp_step))
            exact q _ _ z kp
          | _ => exact hr2.elim
    | _ => exact hr.elim
def IsSeqB (tp : Bool) (h : Heap) (l : Addr) (vs : Array Value) : Prop := cond tp (h.IsTuple l vs) (h.IsList l vs)
theorem fill_any (tp : Bool) {l : Addr} {vs : Array Value} {Z : Nat → Heap → Prop} {Q : Value → Shared → Prop} (hh : A.handled = none) (hl : IsSeqB tp s.heap l vs)
    (F0 : Filler P w s.heap.objs.size s.heap vs.size (fun i v => vs[i]? = some v) Z) (hu : A.units + 3 < cLine)
    (q : ∀ (h2 : Heap) (tk : Nat), Z vs.size h2 → (∀ b o, s.heap.get? b = some o → h2.get? b = some o) → Q (.ref s.heap.objs.size) { s with heap := h2, toks := tk }) :
    wpAny (model P w) A (call (.type "set") [.ref l]) Q E s := by
  cases tp
  · exact fill_call hh hl F0 hu q
  · exact fill_callT hh hl F0 hu q
end
end DL

/-! DLs4: sets of texts, of ints. -/
namespace DL
open PySem PySem.Spec L2
open PyProof.Rows hiding St
section
variable {P : Program} {w : World} {A : Around} {E : Value → Shared → Prop} {s : Shared}
def keyV : Value → Key
  | .int k _ => .inl k
  | .str x _ => .inr x
  | _ => .inl 0
theorem keyV_of {k : Key} {v : Value} (h : keyIs k v = true) : keyV v = k := by
  rcases keyIs_shape h with ⟨i, t, rfl, rfl⟩ | ⟨x, t, rfl, rfl⟩ <;> rfl
theorem scan_of {k : Key} {v : Value} (h : keyIs k v = true) : v.scannable = true := by
  rcases keyIs_shape h with ⟨i, t, rfl, rfl⟩ | ⟨x, t, rfl, rfl⟩ <;> rfl
def GoodK (P : Program) (w : World) (e : Int × Value) : Prop := keyIs (keyV e.2) e.2 = true ∧ e.1 = (mixKind P w).hash (keyV e.2)
/-- a set of texts or ints, the members listed -/
structure VS (P : Program) (w : World) (h : Heap) (a : Addr) (ks : List Key) (es : Array (Int × Value)) (ep : Nat) (t : SetTable) : Prop where
  at_ : ∃ o, h.get? a = some o ∧ o.ExactSet ∧ o.data = .set es ep t
  good : ∀ e ∈ es.toList, GoodK P w e
  nd : (es.toList.map fun e => keyV e.2).Nodup
  mem : ∀ k, k ∈ ks ↔ k ∈ es.toList.map fun e => keyV e.2
  few : es.size < scanBound
  fits : t.fits es.size = true
  ris : Ris t.place.toList
  led : w.params.followText "set-order" = true ∨ t.led = true
variable {a : Addr} {ks : List Key} {es : Array (Int × Value)} {ep : Nat} {t : SetTable}
theorem good_elemsK {l : List (Int × Value)} (g : ∀ e ∈ l, GoodK P w e) : ElemsOf (mixKind P w) l := fun e he => ⟨⟨_, (g e he).1, (g e he).2⟩, scan_of (g e he).1⟩
theorem good_isK {e : Int × Value} (g : GoodK P w e) (k : Key) : (mixKind P w).is k e.2 = true ↔ keyV e.2 = k :=
  ⟨fun h => keyV_of h, fun h => by rw [← h]; exact g.1⟩
theorem rule_or {b : Bool} {s1 : Shared} {Q : Unit → Shared → Prop} (q : Q () s1) : wpAny (model P w) A (match b with | true => rule "set.scan.the-table-gave-way" | false => pure ()) Q E s1 := by
  cases b
  · exact wpAny_pure q
  · exact wpAny_rule q
theorem VS.tail {g : Bool → Sem Unit} (hg : ∀ (b : Bool) (s1 : Shared) (Q : Unit → Shared → Prop), Q () s1 → wpAny (model P w) A (g b) Q E s1) {o : Obj} (ho : s.heap.get? a = some o) (hex : o.ExactSet) (hd : o.data = .set es ep t) {e1 : Array (Int × Value)} {t2 : SetTable} (g1 : ∀ e ∈ e1.toList, GoodK P w e) (nd : (e1.toList.map fun e => keyV e.2).Nodup)
    (mem : ∀ k, k ∈ ks ↔ k ∈ e1.toList.map fun e => keyV e.2) (few : e1.size < scanBound) (fits : t2.fits e1.size = true) (ris : Ris t2.place.toList) (led : w.params.followText "set-order" = true ∨ t2.led = true) {wd : Bool} {R : Option Bool → Shared → Prop}
    (q : ∀ h2 e2 ep2 t3, Heap.SameBut a s.heap h2 → VS P w h2 a ks e2 ep2 t3 → R (some true) { s with heap := h2 }) :
    wpAny (model P w) A (do
        storeSet a e1 t2
        if (!wd && t2.tooFull) = true then do
            g (relayAll t2 e1 (SetTable.grown e1.size)).2.2
            storeSet a (relayAll t2 e1 (SetTable.grown e1.size)).1 (relayAll t2 e1 (SetTable.grown e1.size)).2.1
            pure (some true)
          else pure (some true)) R E s := by
  refine wpAny_bind (wpAny_storeSet_of ho hd ?_ (fits_of_scanBound few))
  have ho1 := store_at (es' := e1) (t' := t2) ho hd
  have sb1 := Heap.SameBut.update s.heap a (Obj.putSet e1 t2)
  by_cases hc : (!wd && t2.tooFull) = true
  · rw [if_pos hc]
    have pm := relayAll_perm t2 e1 (SetTable.grown e1.size)
    have c1 := relayAll_fits t2 e1 (SetTable.grown e1.size)
    have c2 := relayAll_ris t2 e1 (SetTable.grown e1.size)
    have c3 := relayAll_led t2 e1 (SetTable.grown e1.size)
    generalize relayAll t2 e1 (SetTable.grown e1.size) = Z at pm c1 c2 c3 ⊢
    obtain ⟨e2, t3, gv⟩ := Z
    dsimp only at pm c1 c2 c3 ⊢
    have hsz : e2.size = e1.size := by rw [← Array.length_toList, pm.length_eq, Array.length_toList]
    have few2 : e2.size < scanBound := by rw [hsz]; exact few
    refine wpAny_bind (hg _ _ _ ?_)
    refine wpAny_bind (wpAny_storeSet_of ho1 rfl ?_ (fits_of_scanBound few2))
    have ho2 := store_at (es' := e2) (t' := t3) ho1 rfl
    exact wpAny_pure (q _ e2 _ t3 (sb1.trans (Heap.SameBut.update _ a _)) ⟨⟨_, ho2, hex, rfl⟩, fun e he => g1 e (pm.mem_iff.mp he), (pm.map _).nodup_iff.mpr nd, fun k => (mem k).trans (pm.map _).mem_iff.symm, few2, c1, c2, led.imp id fun z => by rw [c3]; exact z⟩)
  · rw [if_neg hc]
    exact wpAny_pure (q _ e1 _ t2 sb1 ⟨⟨_, ho1, hex, rfl⟩, g1, nd, mem, few, fits, ris, led⟩)
theorem VS.add {k : Key} {v : Value} {Q : Bool → Shared → Prop} (R : VS P w s.heap a ks es ep t) (hk : keyIs k v = true) (room : es.size + 1 < scanBound)
    (q : ∀ r h2 e2 ep2 t2, Heap.SameBut a s.heap h2 → VS P w h2 a (k :: ks) e2 ep2 t2 → e2.size ≤ es.size + 1 → Q r { s with heap := h2 }) :
    wpAny (model P w) A (setAddHashed a v ((mixKind P w).hash k)) Q E s := by
  obtain ⟨o, ho, hex, hd⟩ := R.at_
  have hel : ElemsOf (mixKind P w) es.toList := good_elemsK R.good
  have hsc := scan_of hk
  unfold setAddHashed setAddHashedIn
  refine wpAny_holding (wpAny_bind (wpAny_setState_of ho hd R.fits ?_))
  dsimp only
  rw [byScan_of hsc R.few hel]
  simp only [if_true]
  unfold setAddByScan
  refine wpAny_bind ?_
  refine wpAny_bind (wpAny_rule ?_)
  refine wpAny_bind (wpAny_setScan_of (knd := mixKind P w) hk ho hd R.fits hel ?_)
  cases hf : List.findIdx? (fun e : Int × Value => (mixKind P w).is k e.2) es.toList with
  | some j =>
    dsimp only
    obtain ⟨hj, pj, -⟩ := List.findIdx?_eq_some_iff_getElem.mp hf
    have hin : k ∈ es.toList.map fun e => keyV e.2 := List.mem_map.mpr ⟨es.toList[j], List.getElem_mem hj, keyV_of pj⟩
    refine wpAny_pure (wpAny_pure (q _ s.heap es ep t (Heap.SameBut.refl a s.heap) ⟨⟨o, ho, hex, hd⟩, R.good, R.nd, fun i => ?_, R.few, R.fits, R.ris, R.led⟩ (Nat.le_succ _)))
    rw [List.mem_cons, R.mem]
    exact ⟨fun z => z.elim (fun e => e ▸ hin) id, .inr⟩
  | none =>
    dsimp only
    have hno : k ∉ es.toList.map fun e => keyV e.2 := fun z => by
      obtain ⟨e, he, e2⟩ := List.mem_map.mp z
      have c := List.findIdx?_eq_none_iff.mp hf e he
      rw [(good_isK (R.good e he) k).mpr e2] at c
      cases c
    have pm := layNew_perm t es ((mixKind P w).hash k) v
    have c1 := layNew_fits t es ((mixKind P w).hash k) v
    have c2 := layNew_ris t es ((mixKind P w).hash k) v R.ris
    have c3 := layNew_led t es ((mixKind P w).hash k) v
    generalize layNew t es ((mixKind P w).hash k) v = Z at pm c1 c2 c3 ⊢
    obtain ⟨e1, t1, wd, gv⟩ := Z
    dsimp only at pm c1 c2 c3 ⊢
    rw [Array.toList_push] at pm
    have pc : e1.toList.Perm (((mixKind P w).hash k, v) :: es.toList) := pm.trans (List.perm_append_singleton _ _)
    have ek := keyV_of hk
    have pk : (e1.toList.map fun e => keyV e.2).Perm (k :: es.toList.map fun e => keyV e.2) := by
      have := pc.map fun e : Int × Value => keyV e.2
      rwa [List.map_cons, ek] at this
    have g1 : ∀ e ∈ e1.toList, GoodK P w e := fun e he => by
      rcases List.mem_cons.mp (pc.mem_iff.mp he) with rfl | z
      · exact ⟨by show keyIs (keyV v) v = true; rw [ek]; exact hk, by show (mixKind P w).hash k = (mixKind P w).hash (keyV v); rw [ek]⟩
      · exact R.good e z
    have nd1 : (e1.toList.map fun e => keyV e.2).Nodup := pk.nodup_iff.mpr (List.nodup_cons.mpr ⟨hno, R.nd⟩)
    have m1 : ∀ i, i ∈ k :: ks ↔ i ∈ e1.toList.map fun e => keyV e.2 := fun i => by
      rw [pk.mem_iff, List.mem_cons, List.mem_cons, R.mem]
    have hsz : e1.size = es.size + 1 := by rw [← Array.length_toList, pc.length_eq, List.length_cons, Array.length_toList]
    have few1 : e1.size < scanBound := by rw [hsz]; exact room
    have led1 : w.params.followText "set-order" = true ∨ t1.led = true := R.led.imp id fun z => by rw [c3]; exact z
    have fin : ∀ h2 e2 ep2 t3, Heap.SameBut a s.heap h2 → VS P w h2 a (k :: ks) e2 ep2 t3 → Q true { s with heap := h2 } := fun h2 e2 ep2 t3 sb V => q true h2 e2 ep2 t3 sb V (by
      have h1 : (e2.toList.map fun e => keyV e.2).length ≤ (e1.toList.map fun e => keyV e.2).length := by
        have : (e2.toList.map fun e => keyV e.2).Perm (e1.toList.map fun e => keyV e.2) := (List.perm_ext_iff_of_nodup V.nd nd1).mpr fun i => (V.mem i).symm.trans (m1 i)
        exact Nat.le_of_eq this.length_eq
      rw [List.length_map, List.length_map, Array.length_toList, Array.length_toList] at h1
      omega)
    refine wpAny_bind (rule_or ?_)
    split
    · refine wpAny_bind ?_
      rw [hashByValue_scannable 8 hsc]
      refine wpAny_pure ?_
      refine VS.tail ?_ ho hex hd g1 nd1 m1 few1 ?_ ?_ ?_ ?_
      · exact fun b s1 Q z => rule_or z
      · split
        · exact c1
        · exact SetTable.fits_plain_off c1
      · split <;> exact c2
      · split <;> exact led1
      · intro h2 e2 ep2 t3 sb V; dsimp only; exact wpAny_pure (fin h2 e2 ep2 t3 sb V)
    · refine wpAny_bind (wpAny_pure ?_)
      simp only [if_true]
      refine VS.tail ?_ ho hex hd g1 nd1 m1 few1 c1 c2 led1 ?_
      · exact fun b s1 Q z => rule_or z
      · intro h2 e2 ep2 t3 sb V; dsimp only; exact wpAny_pure (fin h2 e2 ep2 t3 sb V)
theorem VS.keep {h h2 : Heap} (R : VS P w h a ks es ep t) (k : ∀ o, h.get? a = some o → h2.get? a = some o) : VS P w h2 a ks es ep t := by
  obtain ⟨o, ho, r⟩ := R.at_
  exact ⟨⟨o, k o ho, r⟩, R.good, R.nd, R.mem, R.few, R.fits, R.ris, R.led⟩
theorem filler_val {S : Addr} {h0 : Heap} {vs : Array Value} {ks : List Key} (hvs : ∀ (i : Nat) (k : Key), ks[i]? = some k → ∃ v, vs[i]? = some v ∧ keyIs k v = true) (hn : vs.size = ks.length) (hfew : ks.length + 1 < scanBound) :
    Filler P w S h0 vs.size (fun i v => vs[i]? = some v) fun i h => ∃ l es ep t, VS P w h S l es ep t ∧ (∀ k, k ∈ l ↔ k ∈ ks.take i) ∧ es.size ≤ i where
  keep := fun ⟨l, es, ep, t, V, m, z⟩ k1 _ => ⟨l, es, ep, t, V.keep k1, m, z⟩
  new := fun {h} e => ⟨[], #[], 0, _, ⟨⟨_, e, ⟨rfl, rfl, rfl⟩, rfl⟩, fun e he => absurd he (List.not_mem_nil), List.nodup_nil, fun k => Iff.rfl, by decide, rfl, List.Pairwise.nil, by
    show _ ∨ (!w.params.followText "set-order") = true
    cases w.params.followText "set-order"
    · exact .inr rfl
    · exact .inl rfl⟩, fun k => by simp, Nat.le_refl _⟩
  add := fun {i v A E s Q} hu hi hv kp ⟨l, es, ep, t, V, m, z⟩ q => by
    have hik : i < ks.length := by omega
    obtain ⟨v', e1, hk⟩ := hvs i ks[i] (List.getElem?_eq_getElem hik)
    rw [hv] at e1
    cases e1
    unfold setAdd
    refine wpAny_holding ?_
    refine wpAny_bind ((mixKind P w).pyHash hk ?_)
    refine VS.add (s := { s with toks := s.toks + 1 }) V hk (by unfold scanBound at hfew ⊢; omega) fun r h2 e2 ep2 t2 sb V2 z2 => q r h2 _ (Nat.le_add_right _ _) sb ⟨ks[i] :: l, e2, ep2, t2, V2, fun k => ?_, by omega⟩
    have et : ks.take (i + 1) = ks.take i ++ [ks[i]] := by rw [List.take_succ, List.getElem?_eq_getElem hik]; rfl
    rw [List.mem_cons, m, et, List.mem_append, List.mem_singleton]
    exact or_comm
end
end DL

/-! DLs5: sorted(xs), sorted(set(xs)). -/
namespace DL
open PySem PySem.Spec L2 PySem.W
open PyProof.Rows hiding St
theorem each_perm {α β : Type} {R : α → β → Prop} : ∀ {as cs : List α} {bs : List β}, cs.Perm as → EachIs R as bs → ∃ ds, ds.Perm bs ∧ EachIs R cs ds := by
  intro as cs bs pm
  induction pm generalizing bs with
  | nil => intro e; exact ⟨bs, .refl _, e⟩
  | cons x pm ih =>
    intro e
    cases e with
    | cons h t =>
      obtain ⟨ds, p, q⟩ := ih t
      exact ⟨_ :: ds, p.cons _, .cons h q⟩
  | swap x y l =>
    intro e
    cases e with
    | cons h t =>
      cases t with
      | cons h2 t2 => exact ⟨_, List.Perm.swap _ _ _, .cons h2 (.cons h t2)⟩
  | trans p1 p2 ih1 ih2 =>
    intro e
    obtain ⟨ds, a, b⟩ := ih2 e
    obtain ⟨es, c, d⟩ := ih1 b
    exact ⟨es, c.trans a, d⟩
theorem dataLe_pw {β : Type} (enc : β → PyData) (bs : List β) : (bs.mergeSort (dataLe false enc)).Pairwise fun x y => dataLt (enc y) (enc x) = false := by
  have := List.pairwise_mergeSort (le := dataLe false enc) (fun a b c h1 h2 => ?_) (fun a b => ?_) bs
  · refine this.imp fun {x y} h => ?_
    rw [dataLe_eq] at h
    simpa using h
  · rw [dataLe_eq] at h1 h2 ⊢
    simp only [cond_false, Bool.not_eq_true'] at h1 h2 ⊢
    cases h : dataLt (enc c) (enc a) with
    | false => rfl
    | true =>
      rcases lex_negTrans (O := itemOrd) _ (keyToks (enc b)) _ h with z | z
      · exact absurd z (by rw [show PyProof.Rows.lexLt itemOrd (keyToks (enc c)) (keyToks (enc b)) = false from h2]; decide)
      · exact absurd z (by rw [show PyProof.Rows.lexLt itemOrd (keyToks (enc b)) (keyToks (enc a)) = false from h1]; decide)
  · rw [dataLe_eq]
    simp only [cond_false, Bool.or_eq_true, Bool.not_eq_true']
    cases h : dataLt (enc b) (enc a) with
    | false => exact .inl rfl
    | true =>
      right
      cases h2 : dataLt (enc a) (enc b) with
      | false => rfl
      | true =>
        have := lex_trans (O := itemOrd) _ _ _ h h2
        rw [lex_irrefl (O := itemOrd)] at this
        cases this
section
variable {P : Program} {w : World} {A : Around} {E : Value → Shared → Prop} {s : Shared}
/-- sorted(a set) -/
theorem set_sorted {β : Type} {R : Value → β → Prop} {enc : β → PyData} {bs : List β} {a : Addr} {es : Array (Int × Value)} {ep : Nat} {t : SetTable} {Q : Value → Shared → Prop} (hh : A.handled = none) (h0 : SetAt s.heap a es ep t) (h1 : t.fits es.size = true)
    (h2 : es.size < scanBound) (h3 : Ris t.place.toList) (h4 : w.params.followText "set-order" = true ∨ t.led = true) (e : EachIs R (es.toList.map (·.2)) bs)
    (rd : ∀ h2 : Heap, (∀ b o, s.heap.get? b = some o → h2.get? b = some o) → ∀ u b, b ∈ bs → R u b → Reads h2 u (enc b) [])
    (hal : AllAlike (bs.map enc)) (hk : Sortable (bs.map enc)) (hu : ∀ b ∈ bs, A.units + 9 + (enc b).depth < cLine)
    (q : ∀ (s2 : Shared) (p : Addr) (out : Array Value) (c : Nat) (cs : List β), (∀ b o, s.heap.get? b = some o → s2.heap.get? b = some o) → s2.gens = s.gens → s2.os = s.os → s.heap.objs.size ≤ p → s2.heap.get? p = some (seqObj "list" out c) → EachIs R out.toList cs → cs.Perm bs →
      cs.Pairwise (fun x y => dataLt (enc y) (enc x) = false) → Q (.ref p) s2) :
    wpAny (model P w) A (call (.builtin "sorted") [.ref a]) Q E s := by
  refine Calls.call_function_entry kind_sorted plain_sorted entry_sorted (args_sorted1 _) ?_
  unfold Builtin.«sorted»
  refine wpAny_bind (m := checkCount "sorted" 1 1 _) (wpAny_pure ?_)
  refine wpAny_bind (collect_set (A := A.in1) hh h0 h1 h2 h3 h4 fun s1 vs k1 hz g1 o1 pm => ?_)
  obtain ⟨cs, pc, ec⟩ := each_perm pm e
  have hl : cs.length = vs.length := ec.length.symm
  have hlt : vs.length ≤ 4096 := by
    rw [pm.length_eq, List.length_map, Array.length_toList]; exact Nat.le_of_lt h2
  refine wpAny_bind (wpAny_newList ?_ (by rw [sizeLine_eq]; omega))
  have hoL : (s1.heap.push (seqObj "list" vs.toArray 0)).get? s1.heap.objs.size = some (seqObj "list" vs.toArray 0) := Heap.get?_push_size _ rfl
  have k2 : ∀ b o, s.heap.get? b = some o → (s1.heap.push (seqObj "list" vs.toArray 0)).get? b = some o := fun b o z => Heap.get?_push_of_some _ (k1 b o z)
  have mal : AllAlike (cs.map enc) := fun d hd d' hd' => hal d ((pc.map enc).mem_iff.mp hd) d' ((pc.map enc).mem_iff.mp hd')
  have mso : Sortable (cs.map enc) := hk.imp (fun z d hd => z d ((pc.map enc).mem_iff.mp hd)) fun z d hd => z d ((pc.map enc).mem_iff.mp hd)
  refine wpAny_bind (wpAny_holding (list_sort_data (s := { s1 with heap := s1.heap.push (seqObj "list" vs.toArray 0) }) (enc := enc) (R := R) hoL ec ?_ mal mso (by rw [hl, sizeLine_eq]; omega) (fun b hb => ?_) fun out hlo eo => ?_))
  · exact (each_mem ec).mono fun u b z => ⟨[], rd _ k2 u b (pc.mem_iff.mp z.2) z.1, List.not_mem_nil⟩
  · have := hu b (pc.mem_iff.mp hb)
    show A.units + 1 + 1 + (enc b).depth < cLine
    omega
  · obtain ⟨c, hc⟩ := sortedHeap_at (vs := vs) (out := out.toArray) hoL
    refine wpAny_pure ⟨_, rfl, q _ s1.heap.objs.size out.toArray c _ (fun b o z => ?_) g1 o1 hz hc eo ((List.mergeSort_perm _ _).trans pc) (dataLe_pw enc cs)⟩
    have q1 := k1 b o z
    have hlt := Heap.lt_size q1
    show (sortedHeap (s1.heap.push (seqObj "list" vs.toArray 0)) s1.heap.objs.size vs out.toArray).get? b = some o
    rw [sortedHeap_old (Nat.ne_of_lt hlt) (by rw [size_push']; exact Nat.lt_succ_of_lt hlt)]
    exact Heap.get?_push_of_some _ q1
end
end DL

/-! DLs6: sorted(xs), sorted(set(xs)) as rules. -/
namespace DL
open PySem PySem.Spec L2 PySem.W
open PyProof.Rows hiding St
/-- a set object with these members -/
def SetHO (w : World) (a : Addr) (bs : List V) : HO := .ext fun h => ∃ es ep t, SetAt h a es ep t ∧ t.fits es.size = true ∧ es.size < scanBound ∧ Ris t.place.toList ∧ (w.params.followText "set-order" = true ∨ t.led = true) ∧ Vals bs (es.toList.map (·.2))
theorem setHO_new {P : Program} {w : World} {H : Hp} {h : Heap} {a : Addr} {bs : List V} {es : Array (Int × Value)} {ep : Nat} {t : SetTable} (h0 : SetAt h a es ep t) (h1 : t.fits es.size = true) (h2 : es.size < scanBound) (h3 : Ris t.place.toList)
    (h4 : w.params.followText "set-order" = true ∨ t.led = true) (h5 : Vals bs (es.toList.map (·.2))) : ObjOk P w H h a (SetHO w a bs) := by
  obtain ⟨o, ho, r⟩ := id h0
  refine ⟨⟨es, ep, t, h0, h1, h2, h3, h4, h5⟩, ⟨o, ho⟩, fun g1 g2 p k => ?_⟩
  obtain ⟨es', ep', t', q0, q⟩ := p
  exact ⟨es', ep', t', q0.at k, q⟩
theorem kV_key {k : Key} {u : Value} : RelV (kV k) u ↔ keyIs k u = true := by
  constructor
  · intro h
    cases k with
    | inl i =>
      obtain ⟨t, e⟩ := h
      subst e
      show Value.isInt i (.int i t) = true
      simp [Value.isInt]
    | inr x =>
      obtain ⟨t, e⟩ := h
      subst e
      show Value.isStr (.str x t) x = true
      simp [Value.isStr]
  · intro h
    rcases keyIs_shape h with ⟨j, t, rfl, rfl⟩ | ⟨x, t, rfl, rfl⟩
    · exact ⟨t, rfl⟩
    · exact ⟨t, rfl⟩
theorem heap_end (h : Heap) : h.get? h.objs.size = none := by
  cases z : h.get? h.objs.size with
  | none => rfl
  | some o => exact absurd (Heap.lt_size z) (Nat.lt_irrefl _)
section
variable {X : Cx} {pins : List (Addr × Obj)} {σ : St} {H : Hp} {s : Shared}
theorem items_of_kV {P : Program} {w : World} : ∀ {k : List Key} {us : List Value}, Vals (k.map kV) us → ItemsAre (mixKind P w) k us
  | [], _, .nil => .nil
  | _ :: _, _, .cons r t => .cons (kV_key.mp r) (items_of_kV t)
theorem inv_tup (I : Inv X pins σ H s) {b : Addr} {k : List Key} (h : SqT X.K H b (k.map kV)) : TupK X.prog X.w s.heap k b := by
  obtain ⟨its, r, ⟨o, ho, hc, n, hd⟩, -⟩ := I.tuple h
  exact ⟨o, its.toArray, n, ho, hc, hd, by simpa using items_of_kV r⟩
theorem vals_refs : ∀ {ks : List EK} {us : List Value}, Vals (ks.map fun p => V.ref p.1) us → us = ks.map fun p => Value.ref p.1
  | [], _, .nil => rfl
  | p :: ks, _, .cons r t => by
    cases r
    rw [vals_refs t]; rfl
theorem refs_vals : ∀ ks : List EK, Vals (ks.map fun p => V.ref p.1) (ks.map fun p => Value.ref p.1)
  | [] => .nil
  | p :: ks => .cons rfl (refs_vals ks)
theorem vals_get : ∀ {xs : List V} {us : List Value} {i : Nat} {x : V}, Vals xs us → xs[i]? = some x → ∃ u, us[i]? = some u ∧ RelV x u
  | _ :: _, _, 0, _, .cons r _, e => by cases e; exact ⟨_, rfl, r⟩
  | _ :: _, _, i + 1, _, .cons _ t, e => vals_get (i := i) t e
/-- set(xs): texts and ints; tuples of them -/
def SqB (tp : Bool) (K : PySem.W.Frag) (H : Hp) (l : Addr) (xs : List V) : Prop := cond tp (SqT K H l xs) (SqL K H l xs)
theorem inv_seq (tp : Bool) (I : Inv X pins σ H s) {l : Addr} {xs : List V} (h : SqB tp X.K H l xs) : ∃ its : List Value, Vals xs its ∧ IsSeqB tp s.heap l its.toArray := by
  cases tp
  · obtain ⟨its, r, pl, -⟩ := I.list h
    exact ⟨its, r, pl.isList⟩
  · obtain ⟨its, r, pl, -⟩ := I.tuple h
    exact ⟨its, r, pl⟩
def rSetV (tp : Bool) (K : PySem.W.Frag) (w : World) : List V → Hp → VK → Prop := fun vs H Q => ∃ (l : Addr),
  (∃ ks : List Key, vs = [.ref l] ∧ SqB tp K H l (ks.map kV) ∧ ks.length + 1 < scanBound ∧ ∀ a (bs : List Key), H a = none → bs.Nodup → (∀ k, k ∈ bs ↔ k ∈ ks) → Q (.ref a) (upd H a (SetHO w a (bs.map kV)))) ∨
  (∃ ks : List EK, vs = [.ref l] ∧ SqB tp K H l (ks.map fun p => V.ref p.1) ∧ (∀ p ∈ ks, SqT K H p.1 (p.2.map kV)) ∧ ks.length < 1200 ∧
    ∀ a (L : List EK), H a = none → (∀ p ∈ L, p ∈ ks) → (L.map (·.2)).Nodup → (∀ p ∈ ks, p.2 ∈ L.map (·.2)) → Q (.ref a) (upd H a (SetHO w a (L.map fun p => V.ref p.1))))
theorem vals_kV : ∀ {l : List (Int × Value)}, (∀ e ∈ l, keyIs (keyV e.2) e.2 = true) → Vals ((l.map fun e => keyV e.2).map kV) (l.map (·.2))
  | [], _ => .nil
  | e :: l, h => .cons (kV_key.mpr (h e (by simp))) (vals_kV fun e' he => h e' (List.mem_cons_of_mem _ he))
theorem cr_setV (tp : Bool) (hc : X.calm = true) (hu : X.A.units + 3 < cLine) : CallR X (.type "set") (rSetV tp X.K X.w) := by
  intro pins s σ H xs us Q I r h
  have hn : H s.heap.objs.size = none := I.hok.fresh (Nat.le_refl _)
  obtain ⟨l, h | h⟩ := h
  · obtain ⟨ks, rfl, hl, hb, q⟩ := h
    rw [Vals.ref1 r]
    obtain ⟨its, rv, pl⟩ := inv_seq tp I hl
    have hlen : its.toArray.size = ks.length := by have := rv.length; simp at this ⊢; omega
    refine fill_any tp (I.ok.hd hc) pl (filler_val (ks := ks) (fun i k e => ?_) hlen hb) hu fun h2 tk z kp => ?_
    · obtain ⟨u, e1, e2⟩ := vals_get (i := i) (x := kV k) rv (by rw [List.getElem?_map, e]; rfl)
      exact ⟨u, by simpa using e1, kV_key.mp e2⟩
    · obtain ⟨l2, es, ep, t, V, m, -⟩ := z
      obtain ⟨o, ho, hex, hd⟩ := V.at_
      refine ⟨.ref s.heap.objs.size, upd H s.heap.objs.size (SetHO X.w s.heap.objs.size ((es.toList.map fun e => keyV e.2).map kV)), I.laid (t' := tk) kp (Nat.le_refl _) (setHO_new ⟨o, ho, hex.1, hd⟩ V.fits V.few V.ris V.led (vals_kV fun e he => (V.good e he).1)), rfl, q _ _ hn V.nd fun k => ?_⟩
      rw [← V.mem, m, hlen, List.take_length]
  · obtain ⟨ks, rfl, hl, hk, hf, q⟩ := h
    rw [Vals.ref1 r]
    obtain ⟨its, rv, pl⟩ := inv_seq tp I hl
    have ev := vals_refs rv
    have hlen : its.toArray.size = ks.length := by rw [ev]; simp
    refine fill_any tp (I.ok.hd hc) pl (filler_tup (ks := ks) (by simpa using ev) (fun p hp => inv_tup I (hk p hp)) hf (heap_end _)) hu fun h2 tk z kp => ?_
    obtain ⟨L, es, ep, t, sg, g⟩ := z
    obtain ⟨o, ho, hex, hd⟩ := sg.at_
    have er : es.toList.map (·.2) = L.map fun p => Value.ref p.1 := by rw [sg.rows, rws, List.map_map]; rfl
    rw [hlen] at g
    refine ⟨.ref s.heap.objs.size, upd H s.heap.objs.size (SetHO X.w s.heap.objs.size (L.map fun p => V.ref p.1)), I.laid (t' := tk) kp (Nat.le_refl _) (setHO_new ⟨o, ho, hex.1, hd⟩ sg.fits (by have := rws_size sg.rows; have := sg.few; unfold scanBound; omega) sg.tab.ris sg.led (by rw [er]; exact refs_vals L)), rfl, q _ L hn (fun p hp => ?_) sg.nd fun p hp => ?_⟩
    · exact List.mem_of_mem_take (g.sub p hp)
    · exact g.all p (by rw [List.take_length]; exact hp)

/-! ### sorted -/
mutual
/-- data without lists -/
def noL : PyData → Bool
  | .none => true
  | .bool _ => true
  | .int _ => true
  | .str _ => true
  | .tuple xs => noLs xs
  | _ => false
def noLs : List PyData → Bool
  | [] => true
  | x :: xs => noL x && noLs xs
end
mutual
theorem noL_reads {h : Heap} : ∀ (d : PyData) (u : Value) (as : List Addr), noL d = true → Reads h u d as → as = []
  | .none, _, _, _, r => by cases r; rfl
  | .bool _, _, _, _, r => by cases r; rfl
  | .int _, _, _, _, r => by cases r; rfl
  | .str _, _, _, _, r => by cases r; rfl
  | .tuple xs, _, as, n, r => by
    cases r with
    | tuple _ _ _ z => exact noLs_reads xs _ as (by simpa [noL] using n) z
  | .list _, _, _, n, _ => by simp [noL] at n
  | .dict _, _, _, n, _ => by simp [noL] at n
theorem noLs_reads {h : Heap} : ∀ (ds : List PyData) (us : List Value) (as : List Addr), noLs ds = true → ReadsAll h us ds as → as = []
  | [], _, _, _, r => by cases r; rfl
  | d :: ds, _, _, n, r => by
    have n2 : noL d = true ∧ noLs ds = true := by simpa [noLs] using n
    cases r with
    | cons h1 h2 => rw [noL_reads d _ _ n2.1 h1, noLs_reads ds _ _ n2.2 h2]; rfl
end
theorem vals_each {β : Type} (vv : β → V) : ∀ {bs : List β} {us : List Value}, Vals (bs.map vv) us → EachIs (fun u b => RelV (vv b) u) us bs
  | [], _, .nil => .nil
  | _ :: _, _, .cons r t => .cons r (vals_each vv t)
theorem each_vals {β : Type} (vv : β → V) : ∀ {bs : List β} {us : List Value}, EachIs (fun u b => RelV (vv b) u) us bs → Vals (bs.map vv) us
  | _, _, .nil => .nil
  | _, _, .cons r t => .cons r (each_vals vv t)
/-- sorted(a set), the members told as β -/
def rSortedSO (β : Type) (K : PySem.W.Frag) (w : World) : List V → Hp → VK → Prop := fun vs H Q => ∃ (a : Addr) (bs : List β) (vv : β → V) (dat : β → PyData), vs = [.ref a] ∧ H a = some (SetHO w a (bs.map vv)) ∧
  (∀ b ∈ bs, Dp K H (vv b) (dat b) ∧ noL (dat b) = true ∧ (dat b).depth ≤ 8) ∧ AllAlike (bs.map dat) ∧ Sortable (bs.map dat) ∧
  ∀ (cs : List β) p, cs.Perm bs → cs.Pairwise (fun x y => dataLt (dat y) (dat x) = false) → H p = none → Q (.ref p) (upd H p (.lst (cs.map vv)))
theorem cr_sortedSO {β : Type} (hc : X.calm = true) (hu : X.A.units + 17 < cLine) : CallR X (.builtin "sorted") (rSortedSO β X.K X.w) := by
  intro pins s σ H vs us Q I r h
  obtain ⟨a, bs, vv, dat, rfl, ha, hd, hal, hk, q⟩ := h
  obtain ⟨es, ep, t, h0, h1, h2, h3, h4, h5⟩ := (I.hok a _ ha).1
  rw [Vals.ref1 r]
  refine set_sorted (I.ok.hd hc) h0 h1 h2 h3 h4 (vals_each vv h5) (fun g kp u b hb rl => ?_) hal hk (fun b hb => by have := (hd b hb).2.2; omega) fun s2 p out c cs kp hg ho hp hl ec pm pw => ?_
  · obtain ⟨as, z⟩ := Dp.reads I (dat b) (vv b) u (hd b hb).1 rl
    rw [noL_reads _ _ _ (hd b hb).2.1 z] at z
    exact PyProof.Rows.Reads.keeps kp z
  · have hn : H p = none := I.hok.fresh hp
    have hlen : (cs.map vv).length ≤ sizeLine := by
      have e1 : bs.length = es.size := by have := h5.length; simpa using this
      rw [List.length_map, pm.length_eq, e1, sizeLine_eq]
      unfold scanBound at h2
      omega
    have J : Inv X pins σ (upd H p (.lst (cs.map vv))) { s with heap := s2.heap, gens := s2.gens, drawn := s2.drawn, toks := s2.toks } :=
      I.call (ch := []) (Un.laid kp hp hn) (I.hok.laid kp hp ⟨hlen, out.toList, c, each_vals vv ec, hl⟩) (by rw [hg]; exact I.bare) (fun _ z => nomatch z)
    have e : s2 = { s with heap := s2.heap, gens := s2.gens, drawn := s2.drawn, toks := s2.toks } := by
      cases s2
      cases s
      cases ho
      rfl
    rw [e]
    exact ⟨.ref p, _, J, rfl, q cs p pm pw hn⟩
/-- sorted(a list) -/
def rSortedLD (β : Type) (K : PySem.W.Frag) : List V → Hp → VK → Prop := fun vs H Q => ∃ (a : Addr) (bs : List β) (vv : β → V) (dat : β → PyData), vs = [.ref a] ∧ SqL K H a (bs.map vv) ∧
  (∀ b ∈ bs, Dp K H (vv b) (dat b) ∧ (dat b).depth ≤ 8) ∧ AllAlike (bs.map dat) ∧ Sortable (bs.map dat) ∧
  ∀ p, H p = none → Q (.ref p) (upd H p (.lst ((bs.mergeSort (dataLe false dat)).map vv)))
theorem cr_sortedLD {β : Type} (hu : X.A.units + 17 < cLine) : CallR X (.builtin "sorted") (rSortedLD β X.K) := by
  intro pins s σ H vs us Q I r h
  obtain ⟨a, bs, vv, dat, rfl, ha, hd, hal, hk, q⟩ := h
  obtain ⟨its, rv, hl, hz⟩ := I.list ha
  rw [Vals.ref1 r]
  have e1 := vals_each vv rv
  have hz2 : bs.length ≤ sizeLine := by rw [List.length_map] at hz; exact hz
  refine sorted_data (R := fun u b => RelV (vv b) u) (enc := dat) hl.isList e1 ((each_mem e1).mono fun u b z => Dp.reads I (dat b) (vv b) u (hd b z.2).1 z.1) hal hk hz2 (fun b hb => by have := (hd b hb).2; omega) fun out hlo eo => ?_
  obtain ⟨ep, he⟩ := PyProof.Rows.sortedAll_at s.heap its out.toArray
  have hlen : ((bs.mergeSort (dataLe false dat)).map vv).length ≤ sizeLine := by
    rw [List.length_map, List.length_mergeSort]; exact hz2
  exact ⟨.ref _, upd H (s.heap.objs.size + 1) (.lst ((bs.mergeSort (dataLe false dat)).map vv)), I.laid (t' := s.toks) (fun _ _ => PyProof.Rows.sortedAll_old) (Nat.le_succ _) ⟨hlen, out, ep, each_vals vv eo, he⟩, rfl, q _ (I.hok.fresh (Nat.le_succ _))⟩
end
end DL

/-! DLs7: sorted over data. -/
namespace DL
open PySem PySem.Spec L2 PySem.W
open PyProof.Rows hiding St
def kdD : KD → D
  | .inl i => .int i
  | .inr l => .str l
def ktD (ks : List KD) : D := .tup (ks.map kdD)
def ltD (d e : D) : Bool := dataLt (toP d) (toP e)
theorem sx_inj2 {a b : Tx} (h : sx a = sx b) : a = b := by
  have : (sx a).cps = (sx b).cps := congrArg Str.cps h
  simpa [sx] using this
theorem kk_inj : ∀ {a b : KD}, kk a = kk b → a = b
  | .inl i, .inl j, h => by cases h; rfl
  | .inr a, .inr b, h => by
    have : sx a = sx b := by injection h
    rw [sx_inj2 this]
  | .inl _, .inr _, h => by cases h
  | .inr _, .inl _, h => by cases h
theorem kks_inj : ∀ {a b : List KD}, a.map kk = b.map kk → a = b
  | [], [], _ => rfl
  | x :: a, y :: b, h => by
    rw [List.map_cons, List.map_cons] at h
    injection h with h1 h2
    rw [kk_inj h1, kks_inj h2]
  | [], _ :: _, h => by cases h
  | _ :: _, [], h => by cases h
theorem kdD_inj : ∀ {a b : KD}, kdD a = kdD b → a = b
  | .inl i, .inl j, h => by cases h; rfl
  | .inr a, .inr b, h => by cases h; rfl
  | .inl _, .inr _, h => by cases h
  | .inr _, .inl _, h => by cases h
theorem map_inj {α β : Type} {f : α → β} (hf : ∀ {a b}, f a = f b → a = b) : ∀ {a b : List α}, a.map f = b.map f → a = b
  | [], [], _ => rfl
  | x :: a, y :: b, h => by
    rw [List.map_cons, List.map_cons] at h
    injection h with h1 h2
    rw [hf h1, map_inj hf h2]
  | [], _ :: _, h => by cases h
  | _ :: _, [], h => by cases h
theorem ktD_inj {a b : List KD} (h : ktD a = ktD b) : a = b := by
  unfold ktD at h
  injection h with h
  exact map_inj kdD_inj h
theorem nodup_map {α β : Type} {f : α → β} (hf : ∀ {a b}, f a = f b → a = b) {l : List α} (h : l.Nodup) : (l.map f).Nodup := by
  unfold List.Nodup
  rw [List.pairwise_map]
  exact h.imp fun hne e => hne (hf e)
theorem kdD_noL (k : KD) : noL (toP (kdD k)) = true := by cases k <;> simp [kdD, toP, noL]
theorem kts_noL : ∀ ks : List KD, noLs (toPs (ks.map kdD)) = true
  | [] => rfl
  | k :: ks => by simp [toPs, noLs, kdD_noL, kts_noL ks]
theorem ktD_noL (ks : List KD) : noL (toP (ktD ks)) = true := by simp [ktD, toP, noL, kts_noL]
theorem kdD_ok (n : Nat) (k : KD) : okd n (kdD k) = true := by cases k <;> cases n <;> simp [kdD, okd]
theorem ktD_ok (n : Nat) (ks : List KD) : okd (n + 1) (ktD ks) = true := by
  simp only [ktD, okd]
  exact okds_map fun k _ => kdD_ok n k
/-- what may stand in a set -/
def setOkD (ds : List D) : Prop := (∃ ks : List KD, ds = ks.map kdD ∧ ks.length + 1 < scanBound) ∨ ∃ kts : List (List KD), ds = kts.map ktD ∧ kts.length < 1200 ∧ ∀ k ∈ kts, k ≠ []
def sortOk (ds : List D) : Prop := AllAlike (ds.map toP) ∧ Sortable (ds.map toP)
def rSS (ds : List D) (S : Sto) (Q : DQ) : Prop := setOkD ds ∧ sortOk ds ∧ ∀ ys : List D, ys.Nodup → (∀ y, y ∈ ys ↔ y ∈ ds) → ys.Pairwise (fun x y => ltD y x = false) → Q (.lst ys) S
def rSSM (ds : List D) (S : Sto) (Q : DQ) : Prop := setOkD ds ∧ sortOk ds ∧ ∀ ys : List D, ys.Nodup → (∀ y, y ∈ ys ↔ y ∈ ds) → ys.Pairwise (fun x y => ltD y x = false) → Q (.ref S.length) (S ++ [.lst ys])
def ssOf (d : D) (S : Sto) (Q : DQ) : Prop := match asL S d with
  | some ds => rSS ds S Q
  | none => False
/-- sorted(set(e)) -/
def dSortSet (te : DTE) : DTE := fun ρ S Q => te ρ S fun d S1 => ssOf d S1 Q
section
variable {X : Cx} {G : GX} {pos pos2 p p2 : Pos} {e : Expr} {te : DTE}
theorem isL_kd {K : PySem.W.Frag} {H : Hp} {φ : Phi} : ∀ {ks : List KD} {xs : List V}, IsL K H φ (ks.map kdD) xs → xs = (ks.map kk).map kV ∧ ∀ k ∈ ks, ∀ l, k = .inr l → ∀ c ∈ l, c < 1114112
  | [], _, h => ⟨h, fun k hk => absurd hk (List.not_mem_nil)⟩
  | .inl i :: ks, _, h => by
    obtain ⟨x, r, rfl, h1, h2⟩ := h
    obtain ⟨rfl, h3⟩ := isL_kd h2
    cases h1
    refine ⟨rfl, fun k hk l e => ?_⟩
    rcases List.mem_cons.mp hk with rfl | hk
    · cases e
    · exact h3 k hk l e
  | .inr l :: ks, _, h => by
    obtain ⟨x, r, rfl, h1, h2⟩ := h
    obtain ⟨rfl, h3⟩ := isL_kd h2
    obtain ⟨rfl, hc⟩ := h1
    refine ⟨rfl, fun k hk l e => ?_⟩
    rcases List.mem_cons.mp hk with rfl | hk
    · cases e; exact hc
    · exact h3 k hk l e
theorem kd_is {K : PySem.W.Frag} {H : Hp} {φ : Phi} {k : KD} (h : ∀ l, k = .inr l → ∀ c ∈ l, c < 1114112) : Is K H φ (kdD k) (kV (kk k)) := by
  cases k with
  | inl i => exact rfl
  | inr l => exact ⟨rfl, h l rfl⟩
theorem isL_of {K : PySem.W.Frag} {H : Hp} {φ : Phi} {β : Type} (dd : β → D) (vv : β → V) : ∀ {bs : List β}, (∀ b ∈ bs, Is K H φ (dd b) (vv b)) → IsL K H φ (bs.map dd) (bs.map vv)
  | [], _ => rfl
  | b :: bs, h => ⟨_, _, rfl, h b (by simp), isL_of dd vv fun b' hb => h b' (List.mem_cons_of_mem _ hb)⟩
/-- tuples of ints and texts, told with their addresses -/
theorem isL_kt {K : PySem.W.Frag} {H : Hp} {φ : Phi} : ∀ {kts : List (List KD)} {xs : List V}, IsL K H φ (kts.map ktD) xs → ∃ qs : List (Addr × List KD), kts = qs.map (·.2) ∧ xs = qs.map (fun q => V.ref q.1) ∧ ∀ q ∈ qs, SqT K H q.1 ((q.2.map kk).map kV) ∧ Is K H φ (ktD q.2) (.ref q.1)
  | [], _, h => ⟨[], rfl, h, fun q hq => absurd hq (List.not_mem_nil)⟩
  | ks :: kts, _, h => by
    obtain ⟨x, r, rfl, h1, h2⟩ := h
    obtain ⟨qs, rfl, rfl, h3⟩ := isL_kt h2
    obtain ⟨a, ys, rfl, h4, h5⟩ := id h1
    obtain ⟨rfl, -⟩ := isL_kd h5
    refine ⟨(a, ks) :: qs, rfl, rfl, fun q hq => ?_⟩
    rcases List.mem_cons.mp hq with rfl | hq
    · exact ⟨h4, h1⟩
    · exact h3 q hq
theorem sub_map {α β : Type} (f : α → β) {qs : List α} : ∀ {L : List β}, (∀ p ∈ L, p ∈ qs.map f) → ∃ M : List α, L = M.map f ∧ ∀ m ∈ M, m ∈ qs
  | [], _ => ⟨[], rfl, fun m hm => absurd hm (List.not_mem_nil)⟩
  | p :: L, h => by
    obtain ⟨m, hm, rfl⟩ := List.mem_map.mp (h p (by simp))
    obtain ⟨M, rfl, h2⟩ := sub_map f fun p' hp => h p' (List.mem_cons_of_mem _ hp)
    refine ⟨m :: M, rfl, fun z hz => ?_⟩
    rcases List.mem_cons.mp hz with rfl | hz
    · exact hm
    · exact h2 z hz

theorem perm_nodup {α β : Type} (f : α → β) {cs bs : List α} (pm : cs.Perm bs) (h : (bs.map f).Nodup) : (cs.map f).Nodup := (pm.map f).nodup_iff.mpr h
theorem nodup_back {α β : Type} (f : α → β) {l : List α} (h : (l.map f).Nodup) : l.Nodup := List.Pairwise.of_map f (fun _ _ hne e => hne (congrArg f e)) h
/-- what is done with the sorted members, a new list at p -/
def SSK (X : Cx) (φ : Phi) (H : Hp) (φ1 : Phi) (S1 : Sto) (ds : List D) (Q : VK) : Prop := ∀ (H2 : Hp) (zs : List V) (ys : List D) (p : Addr), StoOk X.K H2 φ1 S1 → Ext φ H φ1 H2 → IsL X.K H2 φ1 ys zs → H2 p = none →
  ys.Nodup → (∀ y, y ∈ ys ↔ y ∈ ds) → ys.Pairwise (fun x y => ltD y x = false) → Q (.ref p) (upd H2 p (.lst zs))
theorem ss_fin {φ φ1 : Phi} {H H1 : Hp} {S1 : Sto} {ds : List D} {Q : VK} (ok1 : StoOk X.K H1 φ1 S1) (e1 : Ext φ H φ1 H1) (hal : AllAlike (ds.map toP)) (hso : Sortable (ds.map toP))
    (q : SSK X φ H φ1 S1 ds Q) (a : Addr) (bs : List (V × D)) (ha : H1 a = none) (hb : ∀ b ∈ bs, Is X.K H1 φ1 b.2 b.1 ∧ b.2 ∈ ds ∧ okd 8 b.2 = true ∧ noL (toP b.2) = true)
    (hnd : (bs.map (·.2)).Nodup) (hall : ∀ y ∈ ds, y ∈ bs.map (·.2)) : rSortedSO (V × D) X.K X.w [.ref a] (upd H1 a (SetHO X.w a (bs.map (·.1)))) Q := by
  have x1 : Ext φ1 H1 φ1 (upd H1 a (SetHO X.w a (bs.map (·.1)))) := Ext.fresh ha
  refine ⟨a, bs, (·.1), fun b => toP b.2, rfl, upd_same, fun b hb' => ?_, fun d hd d' hd' => ?_, ?_, fun cs p pm pw hp => ?_⟩
  · have z := okd_dp 8 b.2 b.1 (hb b hb').2.2.1 ((hb b hb').1.ext x1)
    exact ⟨z.1, (hb b hb').2.2.2, z.2.2⟩
  · obtain ⟨b, hb', rfl⟩ := List.mem_map.mp hd
    obtain ⟨b2, hb2, rfl⟩ := List.mem_map.mp hd'
    exact hal _ (List.mem_map.mpr ⟨_, (hb b hb').2.1, rfl⟩) _ (List.mem_map.mpr ⟨_, (hb b2 hb2).2.1, rfl⟩)
  · refine hso.imp (fun z d hd => ?_) fun z d hd => ?_
    · obtain ⟨b, hb', rfl⟩ := List.mem_map.mp hd
      exact z _ (List.mem_map.mpr ⟨_, (hb b hb').2.1, rfl⟩)
    · obtain ⟨b, hb', rfl⟩ := List.mem_map.mp hd
      exact z _ (List.mem_map.mpr ⟨_, (hb b hb').2.1, rfl⟩)
  · have hi : IsL X.K (upd H1 a (SetHO X.w a (bs.map (·.1)))) φ1 (cs.map (·.2)) (cs.map (·.1)) := isL_of _ _ fun b hb' => (hb b (pm.mem_iff.mp hb')).1.ext x1
    have ok2 := ok1.fresh (o := SetHO X.w a (bs.map (·.1))) ha
    refine q _ _ _ p ok2 (e1.trans x1) hi hp (perm_nodup _ pm hnd) (fun y => ⟨fun hy => ?_, fun hy => ?_⟩) ?_
    · obtain ⟨b, hb', rfl⟩ := List.mem_map.mp hy
      exact (hb b (pm.mem_iff.mp hb')).2.1
    · exact (pm.map (·.2)).mem_iff.mpr (hall y hy)
    · rw [List.pairwise_map]; exact pw
theorem ss_seq (tp : Bool) {φ φ1 : Phi} {H H1 : Hp} {S1 : Sto} {ds : List D} {l : Addr} {xs : List V} {Q : VK} (ok1 : StoOk X.K H1 φ1 S1) (e1 : Ext φ H φ1 H1) (hl : SqB tp X.K H1 l xs) (hx : IsL X.K H1 φ1 ds xs) (hset : setOkD ds) (hso0 : sortOk ds) (q : SSK X φ H φ1 S1 ds Q) :
    rSetV tp X.K X.w [.ref l] H1 fun v2 H2 => rSortedSO (V × D) X.K X.w [v2] H2 Q := by
  · obtain ⟨hal, hso⟩ := hso0
    have fin := fun a bs ha hb hnd hall => ss_fin (X := X) ok1 e1 hal hso q a bs ha hb hnd hall
    refine ⟨l, ?_⟩
    rcases hset with ⟨ks, rfl, hb⟩ | ⟨kts, rfl, hb, hne⟩
    · obtain ⟨rfl, hcp⟩ := isL_kd hx
      refine .inl ⟨ks.map kk, rfl, hl, by rw [List.length_map]; exact hb, fun a bs ha hnd hm => ?_⟩
      obtain ⟨M, rfl, hM⟩ := sub_map kk fun p hp => (hm p).mp hp
      have := fin a (M.map fun k => (kV (kk k), kdD k)) ha (fun b hb' => ?_) ?_ ?_
      · have e2 : (M.map fun k => (kV (kk k), kdD k)).map (·.1) = (M.map kk).map kV := by rw [List.map_map, List.map_map]; rfl
        rw [e2] at this
        exact this
      · obtain ⟨k, hk, rfl⟩ := List.mem_map.mp hb'
        exact ⟨kd_is (hcp k (hM k hk)), List.mem_map.mpr ⟨k, hM k hk, rfl⟩, kdD_ok 8 k, kdD_noL k⟩
      · rw [List.map_map]
        exact nodup_map kdD_inj (nodup_back _ hnd)
      · intro y hy
        obtain ⟨k, hk, rfl⟩ := List.mem_map.mp hy
        obtain ⟨k2, hk2, e2⟩ := List.mem_map.mp ((hm (kk k)).mpr (List.mem_map.mpr ⟨k, hk, rfl⟩))
        rw [kk_inj e2] at hk2
        exact List.mem_map.mpr ⟨_, List.mem_map.mpr ⟨k, hk2, rfl⟩, rfl⟩
    · obtain ⟨qs, rfl, rfl, hq⟩ := isL_kt hx
      refine .inr ⟨qs.map fun q => (q.1, q.2.map kk), rfl, by rw [List.map_map]; exact hl, fun p hp => ?_, by rw [List.length_map] at hb ⊢; exact hb, fun a L ha hsub hnd hall => ?_⟩
      · obtain ⟨q, hq', rfl⟩ := List.mem_map.mp hp
        exact (hq q hq').1
      · obtain ⟨M, rfl, hM⟩ := sub_map (fun q : Addr × List KD => (q.1, q.2.map kk)) hsub
        have := fin a (M.map fun q => (V.ref q.1, ktD q.2)) ha (fun b hb' => ?_) ?_ ?_
        · have e2 : (M.map fun q => (V.ref q.1, ktD q.2)).map (·.1) = (M.map fun q : Addr × List KD => (q.1, q.2.map kk)).map fun p => V.ref p.1 := by rw [List.map_map, List.map_map]; rfl
          rw [e2] at this
          exact this
        · obtain ⟨m, hm, rfl⟩ := List.mem_map.mp hb'
          exact ⟨(hq m (hM m hm)).2, List.mem_map.mpr ⟨_, List.mem_map.mpr ⟨m, hM m hm, rfl⟩, rfl⟩, ktD_ok 7 _, ktD_noL _⟩
        · rw [List.map_map]
          have e3 : (M.map fun q : Addr × List KD => (q.1, q.2.map kk)).map (·.2) = (M.map (·.2)).map (List.map kk) := by rw [List.map_map, List.map_map]; rfl
          rw [e3] at hnd
          have e4 : M.map ((fun b : V × D => b.2) ∘ fun q : Addr × List KD => (V.ref q.1, ktD q.2)) = (M.map (·.2)).map ktD := by rw [List.map_map]; rfl
          rw [e4]
          exact nodup_map ktD_inj (nodup_back _ hnd)
        · intro y hy
          obtain ⟨k, hk, rfl⟩ := List.mem_map.mp hy
          obtain ⟨q, hq', rfl⟩ := List.mem_map.mp hk
          have z := hall _ (List.mem_map.mpr ⟨q, hq', rfl⟩)
          obtain ⟨p, hp, e5⟩ := List.mem_map.mp z
          obtain ⟨m, hm, rfl⟩ := List.mem_map.mp hp
          rw [← kks_inj e5]
          exact List.mem_map.mpr ⟨_, List.mem_map.mpr ⟨m, hm, rfl⟩, rfl⟩
theorem SSK.frz {φ φ1 : Phi} {H H1 : Hp} {S1 : Sto} {ds : List D} {QD : DQ} {Q : VK} (c : CQ X.K φ H QD Q) (q : ∀ ys : List D, ys.Nodup → (∀ y, y ∈ ys ↔ y ∈ ds) → ys.Pairwise (fun x y => ltD y x = false) → QD (.lst ys) S1) : SSK X φ H φ1 S1 ds Q :=
  fun H2 zs ys p ok e i hp h1 h2 h3 => c _ _ φ1 (.lst ys) S1 (ok.fresh hp) (e.trans (Ext.fresh hp)) (.newLst ok hp i) (q ys h1 h2 h3)
theorem SSK.live {φ φ1 : Phi} {H H1 : Hp} {S1 : Sto} {ds : List D} {QD : DQ} {Q : VK} (c : CQ X.K φ H QD Q) (q : ∀ ys : List D, ys.Nodup → (∀ y, y ∈ ys ↔ y ∈ ds) → ys.Pairwise (fun x y => ltD y x = false) → QD (.ref S1.length) (S1 ++ [.lst ys])) : SSK X φ H φ1 S1 ds Q :=
  fun H2 zs ys p ok e i hp h1 h2 h3 => c.alloc (m := .lst ys) ok e hp ⟨zs, upd_same, i.ext (Ext.alloc ok hp)⟩ (q ys h1 h2 h3)
/-- sorted(xs) -/
def bSorted : DN := fun ds S Q => match ds with
  | [d] => match asL S d with
    | some es => sortOk es ∧ okds 8 es = true ∧ Q (.lst (es.mergeSort fun x y => !ltD y x)) S
    | none => False
  | _ => False
theorem b_sorted (hu : X.A.units + 17 < cLine) : OpN X (.builtin "sorted") bSorted := ⟨_, cr_sortedLD (β := V × D) hu, fun H φ S ds xs QD Q ok i h c => by
  unfold bSorted at h
  split at h
  · split at h
    · rename_i d es ed
      obtain ⟨⟨hal, hso⟩, hok, q⟩ := h
      obtain ⟨v, rfl, iv⟩ := i.one
      obtain ⟨a, ys, rfl, h2, h3⟩ := asL_is ok ed iv
      have key : ∀ (es : List D) (ys : List V), okds 8 es = true → IsL X.K H φ es ys → ∃ bs : List (V × D), es = bs.map (·.2) ∧ ys = bs.map (·.1) ∧ ∀ b ∈ bs, Is X.K H φ b.2 b.1 ∧ okd 8 b.2 = true := by
        intro es
        induction es with
        | nil => intro ys _ h; exact ⟨[], rfl, h, fun b hb => absurd hb (List.not_mem_nil)⟩
        | cons e es ih =>
          intro ys hk h
          obtain ⟨x, r, rfl, h4, h5⟩ := h
          have hk2 : okd 8 e = true ∧ okds 8 es = true := by simpa [okds] using hk
          obtain ⟨bs, rfl, rfl, h6⟩ := ih r hk2.2 h5
          refine ⟨(x, e) :: bs, rfl, rfl, fun b hb => ?_⟩
          rcases List.mem_cons.mp hb with rfl | hb
          · exact ⟨h4, hk2.1⟩
          · exact h6 b hb
      obtain ⟨bs, rfl, rfl, hb⟩ := key es ys hok h3
      have em : (bs.mergeSort (dataLe false fun b => toP b.2)).map (·.2) = (bs.map (·.2)).mergeSort fun x y => !ltD y x := List.map_mergeSort fun a _ b _ => rfl
      refine ⟨a, bs, (·.1), fun b => toP b.2, rfl, h2, fun b hb' => ?_, by rw [List.map_map] at hal; exact hal, by rw [List.map_map] at hso; exact hso, fun p hp => ?_⟩
      · have z := okd_dp 8 b.2 b.1 (hb b hb').2 (hb b hb').1
        exact ⟨z.1, z.2.2⟩
      · rw [← em] at q
        exact c _ _ φ (.lst _) S (ok.fresh hp) (Ext.fresh hp) (.newLst ok hp (isL_of _ _ fun b hb' => (hb b (List.mem_mergeSort.mp hb')).1)) q
    · exact h.elim
  · exact h.elim⟩
end
end DL

/-! DLs8: sorted(set(text)). -/
namespace DL
open PySem PySem.Spec L2 PySem.W
open PyProof.Rows hiding St
section
variable {P : Program} {w : World} {A : Around} {E : Value → Shared → Prop} {s : Shared}
/-- set(x) of a text -/
theorem fill_callS {x : Str} {tx : Tok} {Z : Nat → Heap → Prop} {Q : Value → Shared → Prop} (hh : A.handled = none) 
    (F0 : Filler P w s.heap.objs.size s.heap x.cps.size (SignAt x) Z) (hu : A.units + 3 < cLine)
    (q : ∀ (h2 : Heap) (tk : Nat), Z x.cps.size h2 → (∀ b o, s.heap.get? b = some o → h2.get? b = some o) → Q (.ref s.heap.objs.size) { s with heap := h2, toks := tk }) :
    wpAny (model P w) A (call (.type "set") [.str x tx]) Q E s := by
  obtain ⟨c, tl, hmro⟩ := F.called_set.mro
  have hmade := F.called_set.made
  have hsub := F.called_set.sub
  refine wpAny_call (codeAny_of_tree ?_)
  show wpAny _ _ (callAny (.type "set") _) _ _ _
  refine wpAny_pure ⟨Code.quiet_builtin _ (by decide +kernel), codeAny_builtin F.entry_type_call ?_⟩
  rw [Around.under_plain (weight_type_call_type "set" [.str x tx] []) rfl]
  have f1 := F.called_set.notType
  have f2 := F.called_set.canCreate
  have f3 := F.typeCall_set_1 (.str x tx)
  repeat (any_goals (first | assumption | wp_step))
  refine codeAny_mono (code_set_led1 (.str x tx) (E := E) (Q₁ := fun ob s1 => ob = .ref s.heap.objs.size ∧ s1 = { s with heap := s.heap.push (newSet w) }) ⟨rfl, rfl⟩) fun r s1 hr => ?_
  cases r with
  | error e => exact hr
  | ok fl =>
    cases fl with
    | ret ob =>
      obtain ⟨rfl, rfl⟩ := hr
      have hS : (s.heap.push (newSet w)).get? s.heap.objs.size = some (newSet w) := Heap.get?_push_size _ rfl
      have hT : Shared.TypeIs { s with heap := s.heap.push (newSet w) } (.ref s.heap.objs.size) "set" := ⟨_, hS, rfl⟩
      have f4 := F.called_set.init.lookup
      have f5 := F.called_set.init.bind (.ref s.heap.objs.size)
      repeat (any_goals (first | assumption | wp_step))
      refine codeAny_mono (codeAny_call_builtin (R := wants (fun r s2 => r = .none ∧ ∃ h2 tk, s2 = { s with heap := h2, toks := tk } ∧ Z x.cps.size h2 ∧
          (∀ b o, s.heap.get? b = some o → h2.get? b = some o)) E) F.called_set.init.plain F.entry_set_init (check_set_init_1 hT ?_)) fun r2 s2 hr2 => ?_
      · have f6 := F.sub_str_set
        have f7 := F.sub_str_frozenset
        have f8 : (Value.type "str" == Value.type "dict") = false := by decide
        unfold Builtin.«set.__init__» noKeywords Builtin.Frozenset.updateFrom
        generalize hPI : pyIter = PI
        wp_walk
        subst hPI
        refine wpAny_pyIter_str fun oi St hW hst => ?_
        refine wpAny_bind (wpAny_runValue ?_)
        have hh3 : A.in1.in1.in1.handled = none := by simp [hh]
        have hz1 : (s.heap.push (newSet w)).objs.size = s.heap.objs.size + 1 := Heap.size_push ..
        have none_of : ∀ b, s.heap.objs.size ≤ b → s.heap.get? b = none := fun b hb => by
          cases z : s.heap.get? b with
          | none => rfl
          | some o => exact absurd (Nat.lt_of_lt_of_le (Heap.lt_size z) hb) (Nat.lt_irrefl _)
        have hSf : s.heap.objs.size ∉ [(s.heap.push (newSet w)).objs.size] := by
          rw [hz1]; simp
        refine fill_loop ((hW _ hh3).toS) (S := s.heap.objs.size) hSf F0 (none_of _ (Nat.le_refl _)) (fun b hb => none_of b (by
            rw [List.mem_singleton.mp hb, hz1]; omega)) hu (fun s2 mv z kp => ?_) (x.cps.size - 0) 0 _ (by omega) (Nat.zero_le _)
          hst (Moved.refl (fun _ => rfl)) (fun b o e => Heap.get?_push_of_some _ (Heap.get?_push_of_some _ e))
          (F0.new (Heap.get?_push_of_some _ hS))
        obtain ⟨h2, g2, d2, tk2, os2⟩ := s2
        have eg : g2 = s.gens := mv.gens
        have ed : d2 = s.drawn := mv.drawn
        have eo : os2 = s.os := mv.os
        subst eg; subst ed; subst eo
        show wpAny _ _ _ _ _ _
        refine wpAny_pure ?_
        show wpAny _ _ (ret Value.none) _ _ _
        exact wpAny_pure ⟨rfl, h2, tk2, rfl, z, kp⟩
      · cases r2 with
        | error e => exact hr2
        | ok fl2 =>
          cases fl2 with
          | ret r =>
            obtain ⟨rfl, h2, tk, rfl, z, kp⟩ := hr2
            repeat (any_goals (first | assumption | wp_step))
            exact q _ _ z kp
          | _ => exact hr2.elim
    | _ => exact hr.elim
end
end DL

/-! DLs9: sorted(set(e)), e a list or a text. -/
namespace DL
open PySem PySem.Spec L2 PySem.W
open PyProof.Rows hiding St
section
variable {P : Program} {w : World}
theorem filler_key {S : Addr} {h0 : Heap} {n : Nat} {val : Nat → Value → Prop} {ks : List Key} (hv : ∀ i v, val i v → ∃ k, ks[i]? = some k ∧ keyIs k v = true) (hfew : ks.length + 1 < scanBound) :
    Filler P w S h0 n val fun i h => ∃ l es ep t, VS P w h S l es ep t ∧ (∀ k, k ∈ l ↔ k ∈ ks.take i) ∧ es.size ≤ i where
  keep := fun ⟨l, es, ep, t, V, m, z⟩ k1 _ => ⟨l, es, ep, t, V.keep k1, m, z⟩
  new := fun {h} e => ⟨[], #[], 0, _, ⟨⟨_, e, ⟨rfl, rfl, rfl⟩, rfl⟩, fun e he => absurd he (List.not_mem_nil), List.nodup_nil, fun k => Iff.rfl, by decide, rfl, List.Pairwise.nil, by
    show _ ∨ (!w.params.followText "set-order") = true
    cases w.params.followText "set-order"
    · exact .inr rfl
    · exact .inl rfl⟩, fun k => by simp, Nat.le_refl _⟩
  add := fun {i v A E s Q} hu hi hv' kp ⟨l, es, ep, t, V, m, z⟩ q => by
    obtain ⟨k0, e0, hk⟩ := hv i v hv'
    have hik : i < ks.length := (List.getElem?_eq_some_iff.mp e0).1
    unfold setAdd
    refine wpAny_holding ?_
    refine wpAny_bind ((mixKind P w).pyHash hk ?_)
    refine VS.add (s := { s with toks := s.toks + 1 }) V hk (by unfold scanBound at hfew ⊢; omega) fun r h2 e2 ep2 t2 sb V2 z2 => q r h2 _ (Nat.le_add_right _ _) sb ⟨k0 :: l, e2, ep2, t2, V2, fun k => ?_, by omega⟩
    have et : ks.take (i + 1) = ks.take i ++ [k0] := by rw [List.take_succ, e0]; rfl
    rw [List.mem_cons, m, et, List.mem_append, List.mem_singleton]
    exact or_comm
end
section
variable {X : Cx}
/-- set(x), x a text -/
def rSetS (w : World) : List V → Hp → VK → Prop := fun vs H Q => ∃ x : Str, vs = [.str x] ∧ x.cps.size + 1 < scanBound ∧
  ∀ a (bs : List Key), H a = none → bs.Nodup → (∀ k, k ∈ bs ↔ k ∈ x.cps.toList.map fun c => (Sum.inr ⟨#[c]⟩ : Key)) → Q (.ref a) (upd H a (SetHO w a (bs.map kV)))
theorem cr_setS (hc : X.calm = true) (hu : X.A.units + 3 < cLine) : CallR X (.type "set") (rSetS X.w) := by
  intro pins s σ H xs us Q I r h
  have hn : H s.heap.objs.size = none := I.hok.fresh (Nat.le_refl _)
  obtain ⟨x, rfl, hb, q⟩ := h
  obtain ⟨t, rfl⟩ : ∃ t, us = [.str x t] := by
    cases r with
    | cons r1 r2 => cases r2; obtain ⟨t, rfl⟩ := r1; exact ⟨t, rfl⟩
  refine fill_callS (I.ok.hd hc) (filler_key (ks := x.cps.toList.map fun c => (Sum.inr ⟨#[c]⟩ : Key)) (fun i v hv => ?_) (by rw [List.length_map, Array.length_toList]; exact hb)) hu fun h2 tk z kp => ?_
  · obtain ⟨c, u, e, rfl⟩ := hv
    refine ⟨.inr ⟨#[c]⟩, by rw [List.getElem?_map, Array.getElem?_toList, e]; rfl, ?_⟩
    show Value.isStr (.str ⟨#[c]⟩ u) ⟨#[c]⟩ = true
    simp [Value.isStr]
  · obtain ⟨l2, es, ep, t2, V, m, -⟩ := z
    obtain ⟨o, ho, hex, hd⟩ := V.at_
    refine ⟨.ref s.heap.objs.size, upd H s.heap.objs.size (SetHO X.w s.heap.objs.size ((es.toList.map fun e => keyV e.2).map kV)), I.laid (t' := tk) kp (Nat.le_refl _) (setHO_new ⟨o, ho, hex.1, hd⟩ V.fits V.few V.ris V.led (vals_kV fun e he => (V.good e he).1)), rfl, q _ _ hn V.nd fun k => ?_⟩
    rw [← V.mem, m, List.take_of_length_le (by rw [List.length_map, Array.length_toList]; exact Nat.le_refl _)]
end
/-- what set(e) goes over -/
def setIt (S : Sto) : D → Option (List D)
  | .str l => some (l.map fun c => .str [c])
  | .tup ds => some ds
  | d => asL S d
def ssOfG (d : D) (S : Sto) (Q : DQ) : Prop := match setIt S d with
  | some ds => rSS ds S Q
  | none => False
def ssOfM (d : D) (S : Sto) (Q : DQ) : Prop := match setIt S d with
  | some ds => rSSM ds S Q
  | none => False
def dSortSetM (te : DTE) : DTE := fun ρ S Q => te ρ S fun d S1 => ssOfM d S1 Q
def dSortSetG (te : DTE) : DTE := fun ρ S Q => te ρ S fun d S1 => ssOfG d S1 Q
section
variable {X : Cx} {G : GX} {pos pos2 p p2 : Pos} {e : Expr} {te : DTE}
/-- .. for what is done with it -/
theorem sortSet_core {φ φ1 : Phi} {H H1 : Hp} {S1 : Sto} {d : D} {v : V} {ds : List D} {Q : VK} (ok1 : StoOk X.K H1 φ1 S1) (e1 : Ext φ H φ1 H1) (i1 : Is X.K H1 φ1 d v) (hd : setIt S1 d = some ds) (hset : setOkD ds) (hso : sortOk ds) (q : SSK X φ H φ1 S1 ds Q) :
    ((rSetV false X.K X.w [v] H1 fun v2 H2 => rSortedSO (V × D) X.K X.w [v2] H2 Q) ∨ (rSetV true X.K X.w [v] H1 fun v2 H2 => rSortedSO (V × D) X.K X.w [v2] H2 Q)) ∨ (rSetS X.w [v] H1 fun v2 H2 => rSortedSO (V × D) X.K X.w [v2] H2 Q) := by
  cases d with
  | str l =>
    right
    cases (show some (l.map fun c => D.str [c]) = some ds from hd)
    obtain ⟨hal, hso⟩ := hso
    obtain ⟨rfl, hl⟩ := i1
    have hlen : l.length + 1 < scanBound := by
      rcases hset with ⟨ks, e2, hb⟩ | ⟨kts, e2, hb, -⟩
      · have := congrArg List.length e2
        rw [List.length_map, List.length_map] at this
        omega
      · have := congrArg List.length e2
        rw [List.length_map, List.length_map] at this
        unfold scanBound
        omega
    have ecp : (sx l).cps.toList = l := by simp [sx]
    refine ⟨sx l, rfl, by show l.toArray.size + 1 < scanBound; simpa using hlen, fun a bs ha hnd hm => ?_⟩
    rw [ecp] at hm
    obtain ⟨M, rfl, hM⟩ := sub_map (fun c : Nat => (Sum.inr (sx [c]) : Key)) fun p hp => (hm p).mp hp
    have := ss_fin (X := X) ok1 e1 hal hso q a (M.map fun n => (V.str (sx [n]), D.str [n])) ha (fun b hb' => ?_) ?_ ?_
    · have e2 : (M.map fun n => (V.str (sx [n]), D.str [n])).map (·.1) = (M.map fun c : Nat => (Sum.inr (sx [c]) : Key)).map kV := by rw [List.map_map, List.map_map]; rfl
      rw [e2] at this
      exact this
    · obtain ⟨k, hk, rfl⟩ := List.mem_map.mp hb'
      have hkl := hM k hk
      refine ⟨⟨rfl, fun c hc' => ?_⟩, List.mem_map.mpr ⟨k, hkl, rfl⟩, rfl, rfl⟩
      simp at hc'
      subst hc'
      exact hl _ hkl
    · rw [List.map_map]
      exact nodup_map (fun {a b} h => by
        have : D.str [a] = D.str [b] := h
        injection this with this
        injection this) (nodup_back _ hnd)
    · intro y hy
      obtain ⟨k, hk, rfl⟩ := List.mem_map.mp hy
      obtain ⟨k2, hk2, e2⟩ := List.mem_map.mp ((hm (.inr (sx [k]))).mpr (List.mem_map.mpr ⟨k, hk, rfl⟩))
      have : k2 = k := by
        have : sx [k2] = sx [k] := by injection e2
        have := sx_inj2 this
        injection this
      subst this
      exact List.mem_map.mpr ⟨_, List.mem_map.mpr ⟨_, hk2, rfl⟩, rfl⟩
  | tup es =>
    cases (show some es = some ds from hd)
    obtain ⟨l, xs, rfl, hl, hx⟩ := i1
    exact .inl (.inr (ss_seq true ok1 e1 hl hx hset hso q))
  | _ =>
    unfold setIt at hd
    obtain ⟨l, xs, rfl, hl, hx⟩ := asL_is ok1 hd i1
    exact .inl (.inl (ss_seq false ok1 e1 hl hx hset hso q))
theorem de_sortSet (hc : X.calm = true) (hu : X.A.units + 17 < cLine) (hm1 : X.mg "sorted" = none) (hv1 : bootBuiltins "sorted" = some (.builtin "sorted")) (hm2 : X.mg "set" = none) (hv2 : bootBuiltins "set" = some (.type "set")) (he : DE X G e te)
    (hg1 : Gl X "sorted" := by rfl) (hg2 : Gl X "set" := by rfl)
    (hs1 : starEach [Expr.Call (.Name "set" p2) [e] [] pos2] X.env = [(false, eval (Expr.Call (.Name "set" p2) [e] [] pos2) X.env)] := by rfl) (hs2 : starEach [e] X.env = [(false, eval e X.env)] := by rfl) :
    DE X G (.Call (.Name "sorted" p) [.Call (.Name "set" p2) [e] [] pos2] [] pos) (dSortSetG te) := by
  refine (pe_callB (cr_sortedSO (β := V × D) hc hu) hg1 hm1 hv1 (pa_cons (pe_callTy (((cr_setV false hc (by omega)).or (cr_setV true hc (by omega))).or (cr_setS hc (by omega))) hg2 hm2 hv2 (pa_cons he pa_nil hs2) (by decide) (by decide) hs2 (by rfl)) pa_nil hs1) (by decide) (by decide) hs1 (by rfl)).weak fun σ H Q ⟨φ, ρ, S, QD, R, h, c⟩ => ?_
  refine ⟨φ, ρ, S, _, R, h, fun v H1 φ1 d S1 ok1 e1 i1 q1 => ?_⟩
  unfold ssOfG at q1
  split at q1
  · rename_i ds ed
    obtain ⟨h1, h2, h3⟩ := q1
    exact sortSet_core ok1 e1 i1 ed h1 h2 (.frz (H1 := H1) c h3)
  · exact q1.elim
/-- .. to be changed -/
theorem de_sortSetM (hc : X.calm = true) (hu : X.A.units + 17 < cLine) (hm1 : X.mg "sorted" = none) (hv1 : bootBuiltins "sorted" = some (.builtin "sorted")) (hm2 : X.mg "set" = none) (hv2 : bootBuiltins "set" = some (.type "set")) (he : DE X G e te)
    (hg1 : Gl X "sorted" := by rfl) (hg2 : Gl X "set" := by rfl)
    (hs1 : starEach [Expr.Call (.Name "set" p2) [e] [] pos2] X.env = [(false, eval (Expr.Call (.Name "set" p2) [e] [] pos2) X.env)] := by rfl) (hs2 : starEach [e] X.env = [(false, eval e X.env)] := by rfl) :
    DE X G (.Call (.Name "sorted" p) [.Call (.Name "set" p2) [e] [] pos2] [] pos) (dSortSetM te) := by
  refine (pe_callB (cr_sortedSO (β := V × D) hc hu) hg1 hm1 hv1 (pa_cons (pe_callTy (((cr_setV false hc (by omega)).or (cr_setV true hc (by omega))).or (cr_setS hc (by omega))) hg2 hm2 hv2 (pa_cons he pa_nil hs2) (by decide) (by decide) hs2 (by rfl)) pa_nil hs1) (by decide) (by decide) hs1 (by rfl)).weak fun σ H Q ⟨φ, ρ, S, QD, R, h, c⟩ => ?_
  refine ⟨φ, ρ, S, _, R, h, fun v H1 φ1 d S1 ok1 e1 i1 q1 => ?_⟩
  unfold ssOfM at q1
  split at q1
  · rename_i ds ed
    obtain ⟨h1, h2, h3⟩ := q1
    exact sortSet_core ok1 e1 i1 ed h1 h2 (.live (H1 := H1) c h3)
  · exact q1.elim
end
end DL

/-! DLb: < of tuples; a def that is never called; room. -/
namespace DL
open PySem PySem.Spec L2 PySem.W
open PyProof.Rows hiding St
theorem hu17 {k : Nat} {A : Around} (hr : Room k A) : A.units + 17 < cLine := by have := hu65 hr; omega
section
variable {X : Cx}
/-- d < e, tuples of plain data -/
def oLtT : D2 := fun d e S Q => okd 8 d = true ∧ okd 8 e = true ∧ alike (toP d) (toP e) = true ∧ toP d ≠ .none ∧ Q (.bl (ltD d e)) S
theorem op_ltD (hu : X.A.units + 65 < cLine) : OpR X (compareOp .Lt) (fun x y H Q => ∃ d e, Dp X.K H x d ∧ Dp X.K H y e ∧ alike d e = true ∧ d ≠ .none ∧ d.depth ≤ 8 ∧ Q (.bl (dataLt d e)) H) := by
  intro pins s σ H x y v u Q I rx ry h
  obtain ⟨d, e, hd, he, ha, hn, hz, q⟩ := h
  obtain ⟨as, r1⟩ := Dp.reads I d x v hd rx
  obtain ⟨bs, r2⟩ := Dp.reads I e y u he ry
  exact lt_data r1 r2 ha hn (by have := Nat.min_le_left d.depth e.depth; omega) ⟨.bl _, H, I, rfl, q⟩
theorem o_ltT (hu : X.A.units + 65 < cLine) : Op2 X (compareOp .Lt) oLtT := ⟨_, op_ltD hu, fun H φ S d e x y QD Q ok i1 i2 h c => by
  obtain ⟨h1, h2, h3, h4, q⟩ := h
  have z1 := okd_dp 8 d x h1 i1
  have z2 := okd_dp 8 e y h2 i2
  exact ⟨_, _, z1.1, z2.1, h3, h4, z1.2.2, c _ H φ (.bl _) S ok .refl rfl q⟩⟩
end
section
variable {X : Cx} {G : GX} {pos : Pos}
def mCase (g : Nat → Nat) : DM := fun d ds S Q => match d, ds with
  | .str a, [] => (∀ c ∈ a, c < 128) ∧ a.length ≤ 5000000 ∧ Q (.str (a.map g)) S
  | _, _ => False
abbrev mUpper : DM := mCase PyProof.Rows.up1
abbrev mLower : DM := mCase PyProof.Rows.lo1
theorem case_lt (g : Nat → Nat) (h : ∀ c, c < 128 → g c < 128) {a : Tx} (ha : ∀ c ∈ a, c < 128) : ∀ c ∈ a.map g, c < 1114112 := fun c hc => by
  obtain ⟨d, hd, rfl⟩ := List.mem_map.mp hc
  have := h d (ha d hd)
  omega
theorem m_upper : OpM X "str.upper" mUpper := ⟨_, mt_upper, fun H φ S d ds x xs QD Q ok i1 i2 h c => by
  unfold mUpper mCase at h
  split at h
  · rename_i a
    obtain ⟨rfl, hb⟩ := i1
    obtain ⟨h1, h2, q⟩ := h
    cases i2
    have e : Txt.upper (sx a) = sx (a.map PyProof.Rows.up1) := by
      rw [PyProof.Rows.upper_ascii (x := sx a) (by simpa [sx] using h1)]
      show (⟨_⟩ : Str) = ⟨_⟩
      simp only [sx, List.map_toArray]
    exact ⟨_, rfl, rfl, by rw [sx_len]; omega, by rw [e]; exact c _ H φ (.str _) S ok .refl ⟨rfl, case_lt PyProof.Rows.up1 (fun c hc => by unfold PyProof.Rows.up1; split <;> omega) h1⟩ q⟩
  · exact h.elim⟩
theorem m_lower : OpM X "str.lower" mLower := ⟨_, mt_lower, fun H φ S d ds x xs QD Q ok i1 i2 h c => by
  unfold mLower mCase at h
  split at h
  · rename_i a
    obtain ⟨rfl, hb⟩ := i1
    obtain ⟨h1, h2, q⟩ := h
    cases i2
    have e : Txt.lower (sx a) = sx (a.map PyProof.Rows.lo1) := by
      rw [PyProof.Rows.lower_ascii (x := sx a) (by simpa [sx] using h1)]
      show (⟨_⟩ : Str) = ⟨_⟩
      simp only [sx, List.map_toArray]
    exact ⟨_, rfl, rfl, by rw [sx_len]; omega, by rw [e]; exact c _ H φ (.str _) S ok .refl ⟨rfl, case_lt PyProof.Rows.lo1 (fun c hc => by unfold PyProof.Rows.lo1; split <;> omega) h1⟩ q⟩
  · exact h.elim⟩
theorem ds_par3 (i j l : Nat) {x y z : Str} {a b e : Expr} {ta tb te : DTE} {px py pz pt : Pos} {kt k2 pt2} (hc : X.calm = true) (hN : X.N.Nodup) (ha : DE X G a ta) (hb : DE X G b tb) (he : DE X G e te) (hi : X.N[i]? = some x := by rfl) (hj : X.N[j]? = some y := by rfl) (hl : X.N[l]? = some z := by rfl)
    (hij : i ≠ j := by decide) (hil : i ≠ l := by decide) (hjl : j ≠ l := by decide)
    (hx : X.env.scope.names.lookup x = some .local := by rfl) (hy : X.env.scope.names.lookup y = some .local := by rfl) (hz : X.env.scope.names.lookup z = some .local := by rfl)
    (hw : swappedStores [.Tuple [.Name x px, .Name y py, .Name z pz] kt pt] (.Tuple [a, b, e] k2 pt2) X.env = pure (some [x, y, z]) := by rfl)
    (hs : swapsWithSole [.Tuple [.Name x px, .Name y py, .Name z pz] kt pt] (.Tuple [a, b, e] k2 pt2) pos.line X.env = pure false := by rfl)
    (hs1 : starEach [a, b, e] X.env = (false, eval a X.env) :: starEach [b, e] X.env := by rfl) (hs2 : starEach [b, e] X.env = (false, eval b X.env) :: starEach [e] X.env := by rfl) (hs3 : starEach [e] X.env = (false, eval e X.env) :: starEach [] X.env := by rfl) :
    DS X G (.Assign [.Tuple [.Name x px, .Name y py, .Name z pz] kt pt] (.Tuple [a, b, e] k2 pt2) pos) (sPar3 i j l ta tb te) := by
  refine (ps_par3 hc hN hi hj hl hij hil hjl hx hy hz (pa_cons ha (pa_cons hb (pa_cons he pa_nil hs3) hs2) hs1) hw hs).weak fun D σ H h => ?_
  obtain ⟨φ, ρ, S, DD, r, h, c⟩ := h
  refine ⟨φ, ρ, S, _, r, h, fun v H1 φ1 d S1 ok1 e1 i1 q1 => ?_⟩
  refine ⟨φ1, ρ, S1, _, r.ext ok1 e1, q1, fun u H2 φ2 f S2 ok2 e2 i2 q2 => ?_⟩
  refine ⟨φ2, ρ, S2, _, (r.ext ok1 e1).ext ok2 e2, q2, fun t H3 φ3 g S3 ok3 e3 i3 q3 => ?_⟩
  exact ⟨v, u, t, rfl, c.nx _ H3 φ3 _ S3 ((((r.ext ok3 ((e1.trans e2).trans e3)).set i (i1.ext (e2.trans e3))).set j (i2.ext e3)).set l i3) ((e1.trans e2).trans e3) q3⟩
@[simp] theorem e_par3 {i j l : Nat} {ta tb te : DTE} {D' : DEnds} {ρ : Env} {S : Sto} : sPar3 i j l ta tb te D' ρ S = ta ρ S fun d S1 => tb ρ S1 fun e S2 => te ρ S2 fun f S3 => D'.nx (((ρ.set i (some d)).set j (some e)).set l (some f)) S3 := rfl
@[simp] theorem e_sortset {te : DTE} {ρ : Env} {S : Sto} {Q : DQ} : dSortSetG te ρ S Q = te ρ S fun d S1 => ssOfG d S1 Q := rfl
end
theorem fn_none {P : Program} {w : World} {K : PySem.W.Frag} {mg : Str → Option Value} {base : Heap} {CX : CXT} {k : Nat} {f : Addr} {fd : FuncData} {ps : List Str} {sp : DSp} (h : ∀ ds S Q X, ¬ sp ds S Q X) : FnOk P w K mg base CX k f fd ps (liftSp K sp) :=
  ⟨fun vs H Q E ⟨_, ds, S, QD, XD, _, _, z, _⟩ => absurd z (h ds S QD XD), fun A outer s H args us vs Q E _ _ _ _ ⟨_, ds, S, QD, XD, _, _, z, _⟩ => absurd z (h ds S QD XD)⟩
end DL

/-! DLc: order, sorted sets; texts of letters; what the walk asks of the draws. -/
namespace DL
open PySem PySem.Spec L2 TL PySem.W
open PyProof.Rows hiding St

/-! ### order and == -/
theorem eqv_of_lt {x y : PyData} (ha : alike x y = true) (h1 : dataLt x y = false) (h2 : dataLt y x = false) : PyData.eqv x y = true := by
  have e := lex_total (O := itemOrd) _ _ h1 h2
  cases hq : PyData.eqv x y with
  | true => rfl
  | false =>
    have := (toks_eqv x y ha).2 hq [] [Sum.inl 0]
    rw [show PyProof.Rows.lexLt itemOrd (keyToks x) (keyToks y) = false from h1, e, lex_pre] at this
    exact absurd this (by decide)
theorem ltD_anti {d e : D} (ha : alike (toP d) (toP e) = true) (h1 : ltD d e = false) (h2 : ltD e d = false) : eqD d e = true := eqv_of_lt ha h1 h2
theorem ltD_irr (d : D) : ltD d d = false := lex_irrefl (O := itemOrd) _
theorem ltD_tr {a b c : D} (h1 : ltD b a = false) (h2 : ltD c b = false) : ltD c a = false := by
  cases h : ltD c a with
  | false => rfl
  | true =>
    rcases lex_negTrans (O := itemOrd) _ (keyToks (toP b)) _ h with z | z
    · exact absurd z (by rw [show PyProof.Rows.lexLt itemOrd (keyToks (toP c)) (keyToks (toP b)) = false from h2]; decide)
    · exact absurd z (by rw [show PyProof.Rows.lexLt itemOrd (keyToks (toP b)) (keyToks (toP a)) = false from h1]; decide)
theorem ltD_tot (a b : D) : ltD a b = false ∨ ltD b a = false := by
  cases h : ltD a b with
  | false => exact .inl rfl
  | true =>
    right
    cases h2 : ltD b a with
    | false => rfl
    | true =>
      have := lex_trans (O := itemOrd) _ _ _ h h2
      rw [lex_irrefl (O := itemOrd)] at this
      cases this
section
variable {α : Type} [DecidableEq α] {enc : α → D}
def SortEnc (enc : α → D) : Prop := EqEnc enc ∧ ∀ a b, alike (toP (enc a)) (toP (enc b)) = true
theorem SortEnc.uniq (h : SortEnc enc) {ys zs : List α} (h1 : ys.Nodup) (h2 : zs.Nodup) (hm : ∀ y, y ∈ ys ↔ y ∈ zs) (s1 : ys.Pairwise fun a b => ltD (enc b) (enc a) = false) (s2 : zs.Pairwise fun a b => ltD (enc b) (enc a) = false) : ys = zs := by
  refine List.Perm.eq_of_pairwise (le := fun a b => ltD (enc b) (enc a) = false) (fun a b _ _ x y => ?_) s1 s2 ((List.perm_ext_iff_of_nodup h1 h2).mpr hm)
  have := ltD_anti (h.2 a b) y x
  rw [h.1 a b] at this
  simpa using this
def uniq : List α → List α
  | [] => []
  | a :: l => if a ∈ l then uniq l else a :: uniq l
theorem mem_uniq {a : α} : ∀ {l : List α}, a ∈ uniq l ↔ a ∈ l
  | [] => Iff.rfl
  | b :: l => by
    unfold uniq
    split
    · rename_i hb
      rw [mem_uniq, List.mem_cons]
      exact ⟨.inr, fun z => z.elim (fun e => e ▸ hb) id⟩
    · rw [List.mem_cons, List.mem_cons, mem_uniq]
theorem nodup_uniq : ∀ {l : List α}, (uniq l).Nodup
  | [] => List.nodup_nil
  | b :: l => by
    unfold uniq
    split
    · exact nodup_uniq
    · rename_i hb
      exact List.nodup_cons.mpr ⟨fun h => hb (mem_uniq.mp h), nodup_uniq⟩
/-- sorted(set(xs)) -/
def sset (enc : α → D) (xs : List α) : List α := (uniq xs).mergeSort fun a b => !ltD (enc b) (enc a)
theorem sset_mem {a : α} {xs : List α} : a ∈ sset enc xs ↔ a ∈ xs := by
  unfold sset
  rw [List.mem_mergeSort, mem_uniq]
theorem sset_nodup {xs : List α} : (sset enc xs).Nodup := (List.mergeSort_perm _ _).nodup_iff.mpr nodup_uniq
theorem sset_sorted {xs : List α} : (sset enc xs).Pairwise fun a b => ltD (enc b) (enc a) = false := by
  have := List.pairwise_mergeSort (le := fun a b => !ltD (enc b) (enc a)) (fun a b c h1 h2 => by
    simp only [Bool.not_eq_true'] at h1 h2 ⊢
    exact ltD_tr h1 h2) (fun a b => by
    simp only [Bool.or_eq_true, Bool.not_eq_true']
    exact ltD_tot _ _) (uniq xs)
  exact this.imp fun {a b} h => by simpa using h
theorem ssg_i (h : SortEnc enc) {d : D} {S : Sto} {Q : DQ} {xs : List α} (hx : setIt S d = some (xs.map enc)) (hs : setOkD (xs.map enc)) (ho : sortOk (xs.map enc)) (q : Q (.lst ((sset enc xs).map enc)) S) : ssOfG d S Q := by
  unfold ssOfG
  rw [hx]
  refine ⟨hs, ho, fun ys h1 h2 h3 => ?_⟩
  obtain ⟨zs, rfl, hz⟩ := sub_map enc fun y hy => (h2 y).mp hy
  have e : zs = sset enc xs := h.uniq (nodup_back _ h1) sset_nodup (fun y => ⟨fun hy => sset_mem.mpr (hz y hy), fun hy => ?_⟩) (by rw [List.pairwise_map] at h3; exact h3) sset_sorted
  · rw [e]; exact q
  · obtain ⟨z, hz2, e⟩ := List.mem_map.mp ((h2 (enc y)).mpr (List.mem_map.mpr ⟨y, sset_mem.mp hy, rfl⟩))
    have := h.1 z y
    rw [e] at this
    have r : eqD (enc y) (enc y) = true := by rw [h.1]; simp
    rw [r] at this
    have : z = y := by simpa using this.symm
    rw [← this]; exact hz2
/-- a sorted list without repetition is its own -/
theorem sset_self (h : SortEnc enc) {xs : List α} (h1 : xs.Nodup) (h2 : xs.Pairwise fun a b => ltD (enc b) (enc a) = false) : sset enc xs = xs := h.uniq sset_nodup h1 (fun _ => sset_mem) sset_sorted h2
theorem sset_idem (h : SortEnc enc) (xs : List α) : sset enc (sset enc xs) = sset enc xs := sset_self h sset_nodup sset_sorted
theorem uniq_len : ∀ l : List α, (uniq l).length ≤ l.length
  | [] => Nat.le_refl _
  | a :: l => by
    unfold uniq
    split
    · exact Nat.le_succ_of_le (uniq_len l)
    · exact Nat.succ_le_succ (uniq_len l)
theorem sset_len (xs : List α) : (sset enc xs).length ≤ xs.length := by
  unfold sset
  rw [List.length_mergeSort]
  exact uniq_len xs
end
def ltr (c : Nat) : Bool := decide (97 ≤ c) && decide (c ≤ 122)
def isLet (w : Tx) (lo hi : Int) : Bool := decide (lo ≤ w.length) && decide ((w.length : Int) ≤ hi) && w.all ltr
abbrev abcz : Tx := [97, 98, 99, 100, 101, 102, 103, 104, 105, 106, 107, 108, 109, 110, 111, 112, 113, 114, 115, 116, 117, 118, 119, 120, 121, 122]
theorem mem_abcz (c : Nat) : decide (c ∈ abcz) = ltr c := by
  unfold ltr
  by_cases h : 97 ≤ c ∧ c ≤ 122
  · rw [decide_eq_true h.1, decide_eq_true h.2]
    have : c ∈ abcz := by
      have : c ∈ (List.range 26).map (· + 97) := List.mem_map.mpr ⟨c - 97, by simp; omega, by omega⟩
      exact this
    simpa using this
  · have : ¬ c ∈ abcz := fun hc => h (by
      have : c ∈ (List.range 26).map (· + 97) := hc
      obtain ⟨i, hi, rfl⟩ := List.mem_map.mp this
      simp at hi
      omega)
    rw [decide_eq_false this]
    by_cases h1 : 97 ≤ c
    · have : ¬ c ≤ 122 := fun z => h ⟨h1, z⟩
      simp [this]
    · simp [h1]
def sp_is_letters : DSp := fun ds S Q _ => ∃ (d : D) (lo hi : Int), ds = [d, .int lo, .int hi] ∧ ((∃ w, d = .str w ∧ w.length ≤ 1000000 ∧ Q (.bl (isLet w lo hi)) S) ∨ ∃ t, tyD S d = some t ∧ isiB t "str" = false ∧ Q (.bl false) S)
def t_is_letters : DTS := (sRet (dAndV (dCB bIsi (aCons (dVar 0) (aCons (dC (.ty "str")) aNil))) (dAndV (dChain oLe oLe (dVar 1) (dCB bLen (aCons (dVar 0) aNil)) (dVar 2)) (dCB bAll (aCons (dLc (iSeq (dVar 0)) (.nm 3) dYes (dOp (oInC false) (dVar 3) (dC (.str [97, 98, 99, 100, 101, 102, 103, 104, 105, 106, 107, 108, 109, 110, 111, 112, 113, 114, 115, 116, 117, 118, 119, 120, 121, 122]))) [3]) aNil)))))
theorem rd_is_letters : ∀ ds S QD, sp_is_letters ds S QD X0 → t_is_letters { nx := fun _ S' => RT S QD .non S', rt := RT S QD } (startD 4 ds) S := by
  rintro ds S QD ⟨d, lo, hi, rfl, h⟩
  rcases h with ⟨w, rfl, hw, q⟩ | ⟨t, ht, hb, q⟩
  · have hz : List.length w ≤ 16777216 := by omega
    by_cases h1 : lo ≤ w.length
    · by_cases h2 : (w.length : Int) ≤ hi
      · simp [t_is_letters, dAndV, dChain, startD, bIsi, tyD, isiB, bLen, oCmp, bAll, iSeq, hz, h1, h2]
        refine lcD_map (fun c => D.str [c]) (fun c => .bl (ltr c)) trivial w (by simpa using hz) (fun c hc k1 hk => ?_) ?_
        · simp [bound, bindT, wipeD, oInC]
          have := mem_abcz c
          simp at this
          rw [this]
          exact hk
        · simp [asL, blsD_map]
          refine RT.here ?_
          have : isLet w lo hi = w.all ltr := by simp [isLet, h1, h2]
          rw [this] at q
          simpa [Function.comp_def] using q
      · simp [t_is_letters, dAndV, dChain, startD, bIsi, tyD, isiB, bLen, oCmp, bAll, iSeq, hz, h1, h2]
        have : isLet w lo hi = false := by simp [isLet, h2]
        rw [this] at q
        exact RT.here q
    · simp [t_is_letters, dAndV, dChain, startD, bIsi, tyD, isiB, bLen, oCmp, bAll, iSeq, hz, h1]
      have : isLet w lo hi = false := by simp [isLet, h1]
      rw [this] at q
      exact RT.here q
  · simp [t_is_letters, dAndV, dChain, startD, bIsi, ht, hb]
    exact RT.here q

/-! what the walk asks of the draws -/
abbrev sp__law_source : DSp := sp_source
abbrev t__law_source : DTS := t_source
theorem rd__law_source : ∀ ds S QD, sp__law_source ds S QD X0 → t__law_source { nx := fun _ S' => RT S QD .non S', rt := RT S QD } (startD 3 ds) S := rd_source
theorem len__law_source : ∀ ds S Q X, sp__law_source ds S Q X → ds.length = 2 := by
  rintro ds S Q X ⟨_, _, h, _⟩
  rw [h]; rfl
theorem sx__law_source : ∀ ds S Q X, sp__law_source ds S Q X → sp__law_source ds S Q X0 := fun _ _ _ _ h => h
abbrev sp__law_draw : DSp := sp_draw
abbrev t__law_draw : DTS := t_draw
theorem rd__law_draw : ∀ ds S QD, sp__law_draw ds S QD X0 → t__law_draw { nx := fun _ S' => RT S QD .non S', rt := RT S QD } (startD 3 ds) S := rd_draw
theorem len__law_draw : ∀ ds S Q X, sp__law_draw ds S Q X → ds.length = 2 := by
  rintro ds S Q X ⟨_, _, h, _⟩
  rw [h]; rfl
theorem sx__law_draw : ∀ ds S Q X, sp__law_draw ds S Q X → sp__law_draw ds S Q X0 := fun _ _ _ _ h => h
abbrev sp__law_choice : DSp := sp_choice
abbrev t__law_choice : DTS := t_choice
theorem rd__law_choice : ∀ ds S QD, sp__law_choice ds S QD X0 → t__law_choice { nx := fun _ S' => RT S QD .non S', rt := RT S QD } (startD 2 ds) S := rd_choice
theorem len__law_choice : ∀ ds S Q X, sp__law_choice ds S Q X → ds.length = 2 := by
  rintro ds S Q X ⟨_, _, _, h, _⟩
  rw [h]; rfl
theorem sx__law_choice : ∀ ds S Q X, sp__law_choice ds S Q X → sp__law_choice ds S Q X0 := fun _ _ _ _ h => h
abbrev sp__law_some_letters : DSp := sp_some
abbrev t__law_some_letters : DTS := t_some
theorem rd__law_some_letters : ∀ ds S QD, sp__law_some_letters ds S QD X0 → t__law_some_letters { nx := fun _ S' => RT S QD .non S', rt := RT S QD } (startD 5 ds) S := rd_some
theorem len__law_some_letters : ∀ ds S Q X, sp__law_some_letters ds S Q X → ds.length = 3 := by
  rintro ds S Q X ⟨_, _, _, h, _⟩
  rw [h]; rfl
theorem sx__law_some_letters : ∀ ds S Q X, sp__law_some_letters ds S Q X → sp__law_some_letters ds S Q X0 := fun _ _ _ _ h => h
theorem len_is_letters : ∀ ds S Q X, sp_is_letters ds S Q X → ds.length = 3 := by
  rintro ds S Q X ⟨_, _, _, h, _⟩
  rw [h]; rfl
theorem sx_is_letters : ∀ ds S Q X, sp_is_letters ds S Q X → sp_is_letters ds S Q X0 := fun _ _ _ _ h => h
abbrev sp_law : DSp := spLaw
theorem len_law : ∀ ds S Q X, sp_law ds S Q X → ds.length = 1 := fun _ _ _ _ h => by obtain ⟨_, rfl, _⟩ := h; rfl
theorem sx_law : ∀ ds S Q X, sp_law ds S Q X → sp_law ds S Q X0 := fun _ _ _ _ h => h
end DL

/-! DLd: what a list is (stemflags.lists). -/
namespace DL
open PySem PySem.Spec L2 TL PySem.W
open PyProof.Rows hiding St
/-! ### small plain data -/
mutual
def sml (N : Nat) : D → Bool
  | .non => true
  | .bl _ => true
  | .int _ => true
  | .str l => decide (l.length ≤ N) && l.all fun c => decide (c < 128)
  | .tup ds => decide (ds.length ≤ N) && smls N ds
  | .lst ds => decide (ds.length ≤ N) && smls N ds
  | _ => false
def smls (N : Nat) : List D → Bool
  | [] => true
  | d :: ds => sml N d && smls N ds
end
theorem smls_all (N : Nat) : ∀ ds : List D, smls N ds = ds.all (sml N)
  | [] => rfl
  | d :: ds => by simp [smls, smls_all N ds]
theorem smls_mem {N : Nat} {ds : List D} (h : smls N ds = true) {d : D} (hd : d ∈ ds) : sml N d = true := by
  rw [smls_all] at h
  exact List.all_eq_true.mp h d hd
theorem okds_mem {n : Nat} {ds : List D} (h : okds n ds = true) {d : D} (hd : d ∈ ds) : okd n d = true := by
  rw [okds_all] at h
  exact List.all_eq_true.mp h d hd
theorem sml_str {N : Nat} {w : Tx} (h : sml N (.str w) = true) : w.length ≤ N ∧ ∀ c ∈ w, c < 128 := by
  simp only [sml, Bool.and_eq_true, decide_eq_true_eq, List.all_eq_true] at h
  exact h
def fltr (c : Nat) : Bool := decide (65 ≤ c) && decide (c ≤ 90)
theorem mem_AZ (c : Nat) : decide (c ∈ ([65, 66, 67, 68, 69, 70, 71, 72, 73, 74, 75, 76, 77, 78, 79, 80, 81, 82, 83, 84, 85, 86, 87, 88, 89, 90] : Tx)) = fltr c := by
  unfold fltr
  by_cases h : 65 ≤ c ∧ c ≤ 90
  · rw [decide_eq_true h.1, decide_eq_true h.2]
    have : c ∈ (List.range 26).map (· + 65) := List.mem_map.mpr ⟨c - 65, by simp; omega, by omega⟩
    exact decide_eq_true this
  · have : ¬ c ∈ (List.range 26).map (· + 65) := fun hc => h (by
      obtain ⟨i, hi, rfl⟩ := List.mem_map.mp hc
      simp at hi
      omega)
    have e2 : decide (c ∈ ([65, 66, 67, 68, 69, 70, 71, 72, 73, 74, 75, 76, 77, 78, 79, 80, 81, 82, 83, 84, 85, 86, 87, 88, 89, 90] : Tx)) = false := decide_eq_false this
    rw [e2]
    by_cases h1 : 65 ≤ c
    · have : ¬ c ≤ 90 := fun z => h ⟨h1, z⟩
      simp [this]
    · simp [h1]
/-- strictly rising -/
def rise : Tx → Bool
  | a :: b :: l => decide (a < b) && rise (b :: l)
  | _ => true
def isFlag : D → Bool
  | .str [c] => fltr c
  | _ => false
def flagsT (w : Tx) : Bool := decide (w.length ≤ 4) && w.all fltr && rise w
def isFlags : D → Bool
  | .str w => flagsT w
  | _ => false
def isLets (d : D) (lo hi : Int) : Bool := match d with
  | .str w => isLet w lo hi
  | _ => false
def isStem : D → Bool
  | .tup [a, b] => isLets a 1 8 && isFlags b
  | _ => false
def isPref : D → Bool
  | .tup [a, b, c] => isFlag a && isLets b 0 6 && isLets c 0 6 && !eqD b c
  | _ => false
def isSuf : D → Bool
  | .tup [a, b, c, e] => isFlag a && isLets b 0 6 && isLets c 0 6 && isFlags e
  | _ => false
def risD : List D → Bool
  | a :: b :: l => ltD a b && risD (b :: l)
  | _ => true
def isListD : D → Bool
  | .tup [.tup xs, .tup ys, .tup zs] => xs.all isStem && ys.all isPref && zs.all isSuf && (decide (xs.length ≤ 8) && risD xs) && (decide (ys.length ≤ 3) && risD ys) && (decide (zs.length ≤ 6) && risD zs)
  | _ => false

/-! ### is_letters, is_flag -/
theorem lets_i {S : Sto} {Q : DQ} {E : DXK} {d : D} {lo hi : Int} (hs : sml 1000 d = true) (q : Q (.bl (isLets d lo hi)) S) : sp_is_letters [d, .int lo, .int hi] S Q E := by
  refine ⟨d, lo, hi, rfl, ?_⟩
  cases d with
  | str w =>
    have := (sml_str hs).1
    exact .inl ⟨w, rfl, by omega, q⟩
  | non => exact .inr ⟨_, rfl, rfl, q⟩
  | bl b => exact .inr ⟨_, rfl, rfl, q⟩
  | int i => exact .inr ⟨_, rfl, rfl, q⟩
  | tup ds => exact .inr ⟨_, rfl, rfl, q⟩
  | lst ds => exact .inr ⟨_, rfl, rfl, q⟩
  | _ => simp [sml] at hs
def sp_is_flag : DSp := fun ds S Q _ => ∃ d, ds = [d] ∧ sml 1000 d = true ∧ Q (.bl (isFlag d)) S
def t_is_flag : DTS := (sRet (dAndV (dCB bIsi (aCons (dVar 0) (aCons (dC (.ty "str")) aNil))) (dAndV (dOp oEq (dCB bLen (aCons (dVar 0) aNil)) (dC (.int 1))) (dOp (oInC false) (dVar 0) (dC (.str [65, 66, 67, 68, 69, 70, 71, 72, 73, 74, 75, 76, 77, 78, 79, 80, 81, 82, 83, 84, 85, 86, 87, 88, 89, 90]))))))
theorem rd_is_flag : ∀ ds S QD, sp_is_flag ds S QD X0 → t_is_flag { nx := fun _ S' => RT S QD .non S', rt := RT S QD } (startD 1 ds) S := by
  rintro ds S QD ⟨d, rfl, hs, q⟩
  cases d with
  | str w =>
    have hw := (sml_str hs).1
    have hz : w.length ≤ 16777216 := by omega
    simp [t_is_flag, startD, bIsi, tyD, isiB, bLen, hz, oEq, vw, okd, eqD_int]
    by_cases h1 : w.length = 1
    · obtain ⟨c, rfl⟩ := List.length_eq_one_iff.mp h1
      have e := mem_AZ c
      simp at e
      simp [oInC]
      rw [e]
      exact RT.here q
    · have : ¬ (w.length : Int) = 1 := by omega
      simp [h1, this]
      have e : isFlag (.str w) = false := by
        unfold isFlag
        split
        · rename_i c e
          cases e
          exact absurd rfl h1
        · rfl
      rw [e] at q
      exact RT.here q
  | non => simp [t_is_flag, startD, bIsi, tyD, isiB]; exact RT.here q
  | bl b => simp [t_is_flag, startD, bIsi, tyD, isiB]; exact RT.here q
  | int i => simp [t_is_flag, startD, bIsi, tyD, isiB]; exact RT.here q
  | tup ds => simp [t_is_flag, startD, bIsi, tyD, isiB]; exact RT.here q
  | lst ds => simp [t_is_flag, startD, bIsi, tyD, isiB]; exact RT.here q
  | _ => simp [sml] at hs
theorem flag_i {S : Sto} {Q : DQ} {E : DXK} {d : D} (hs : sml 1000 d = true) (q : Q (.bl (isFlag d)) S) : sp_is_flag [d] S Q E := ⟨d, rfl, hs, q⟩

/-! ### are_flags -/
theorem eS1_sort : SortEnc (fun c : Nat => D.str [c]) := ⟨fun a b => by rw [eqD_str]; simp, fun a b => by simp [toP, alike]⟩
theorem dStr_sort : SortEnc D.str := ⟨eqD_str, fun a b => by simp [toP, alike]⟩
theorem ltD_str (a b : Tx) : ltD (.str a) (.str b) = decide (a < b) := by
  show dataLt (.str (sx a)) (.str (sx b)) = _
  rw [dataLt_str]
  simp only [sx]
  exact decide_eq_decide.mpr Iff.rfl
theorem str_so {α : Type} (f : α → Tx) (xs : List α) : sortOk (xs.map fun x => D.str (f x)) := by
  refine ⟨?_, ?_⟩
  · rw [List.map_map]
    exact AllAlike.of fun a b => by simp [toP, alike]
  · rw [List.map_map]
    exact Sortable.others fun b => ⟨by simp [toP], fun xs => by simp [toP]⟩
theorem str_set {α : Type} (f : α → Tx) {xs : List α} (h : xs.length + 1 < 4096) : setOkD (xs.map fun x => D.str (f x)) := .inl ⟨xs.map fun x => .inr (f x), by rw [List.map_map]; rfl, by unfold scanBound; simpa using h⟩
/-- the signs of a text, each once, in order -/
def sgs (w : Tx) : Tx := sset (fun c : Nat => D.str [c]) w
theorem rise_pw : ∀ {w : Tx}, rise w = true ↔ w.Pairwise (· < ·)
  | [] => by simp [rise]
  | [a] => by simp [rise]
  | a :: b :: l => by
    unfold rise
    rw [Bool.and_eq_true, rise_pw, decide_eq_true_eq]
    constructor
    · rintro ⟨h1, h2⟩
      refine List.pairwise_cons.mpr ⟨fun c hc => ?_, h2⟩
      rcases List.mem_cons.mp hc with rfl | hc
      · exact h1
      · exact Nat.lt_trans h1 ((List.pairwise_cons.mp h2).1 c hc)
    · intro h
      exact ⟨(List.pairwise_cons.mp h).1 b (by simp), (List.pairwise_cons.mp h).2⟩
theorem sgs_self {w : Tx} : sgs w = w ↔ rise w = true := by
  rw [rise_pw]
  have key : ∀ a b : Nat, ltD (.str [b]) (.str [a]) = false ↔ a ≤ b := fun a b => by
    rw [ltD_str, decide_eq_false_iff_not]
    constructor
    · intro h
      by_cases hc : a ≤ b
      · exact hc
      · exact absurd (List.cons_lt_cons_iff.mpr (.inl (by omega))) h
    · intro h hc
      rcases List.cons_lt_cons_iff.mp hc with z | ⟨_, z⟩
      · omega
      · exact absurd z (by simp)
  constructor
  · intro h
    have h1 : w.Nodup := by rw [← h]; exact sset_nodup
    have h2 : (sgs w).Pairwise _ := sset_sorted
    rw [h] at h2
    exact (h2.and h1).imp fun {a b} ⟨x, y⟩ => by
      have := (key a b).mp x
      have : a ≠ b := y
      omega
  · intro h
    exact sset_self eS1_sort (h.imp fun {a b} z => Nat.ne_of_lt z) (h.imp fun {a b} z => (key a b).mpr (Nat.le_of_lt z))
def sp_are_flags : DSp := fun ds S Q _ => ∃ d, ds = [d] ∧ sml 1000 d = true ∧ Q (.bl (isFlags d)) S
def t_are_flags : DTS := (sSeq (sIf (dOr (dNot (dTest (dCB bIsi (aCons (dVar 0) (aCons (dC (.ty "str")) aNil))))) (dOr (dTest (dOp oGt (dCB bLen (aCons (dVar 0) aNil)) (dC (.int 4)))) (dNot (dTest (dCB bAll (aCons (dLc (iSeq (dVar 0)) (.nm 1) dYes (dOp (oInC false) (dVar 1) (dC (.str [65, 66, 67, 68, 69, 70, 71, 72, 73, 74, 75, 76, 77, 78, 79, 80, 81, 82, 83, 84, 85, 86, 87, 88, 89, 90]))) [1]) aNil)))))) (sRet (dC (.bl false))) sNext)
  (sRet (dOp oEq (dVar 0) (dMS mJoin (dC (.str [])) (aCons (dSortSetG (dVar 0)) aNil)))))
theorem join_sgs {S : Sto} {Q : DQ} {cs : Tx} (h : cs.length ≤ 100000) (q : Q (.str cs) S) : mJoin (.str []) [.lst (cs.map fun c => D.str [c])] S Q := by
  have ef : joinL [] (cs.map fun c => [c]) = cs := by
    rw [joinL_nil]
    clear h q
    induction cs with
    | nil => rfl
    | cons c cs ih => rw [List.map_cons, List.flatten_cons, ih]; rfl
  have es : ((cs.map fun c => [c]).map (·.length)).sum = cs.length := by
    clear ef h q
    induction cs with
    | nil => rfl
    | cons c cs ih => rw [List.map_cons, List.map_cons, List.sum_cons, ih]; simp; omega
  unfold mJoin
  simp only [seqD, asL]
  rw [txD_map (fun c => [c]) cs]
  dsimp only
  rw [ef, es]
  exact ⟨by simp; omega, q⟩
theorem rd_are_flags : ∀ ds S QD, sp_are_flags ds S QD X0 → t_are_flags { nx := fun _ S' => RT S QD .non S', rt := RT S QD } (startD 2 ds) S := by
  rintro ds S QD ⟨d, rfl, hs, q⟩
  cases d with
  | str w =>
    have hw := (sml_str hs).1
    have hz : w.length ≤ 16777216 := by omega
    refine seq_o fun N hN => ?_
    simp [startD, bIsi, tyD, isiB, bLen, hz, oCmp]
    by_cases h1 : w.length ≤ 4
    · have h1' : ¬ (4 : Int) < w.length := by omega
      simp [h1']
      refine lcD_map (fun c => D.str [c]) (fun c => .bl (fltr c)) trivial w (by simpa using hz) (fun c hc k1 hk => ?_) ?_
      · simp [bound, bindT, wipeD, oInC]
        have := mem_AZ c
        simp at this
        rw [this]
        exact hk
      · simp [bAll, asL, blsD_map]
        by_cases h2 : w.all fltr = true
        · have h2' : ∀ x ∈ w, fltr x = true := List.all_eq_true.mp h2
          have h2'' : (∃ x, x ∈ w ∧ fltr x = false) ↔ False := ⟨fun ⟨x, a, b⟩ => (by rw [h2' x a] at b; cases b), False.elim⟩
          rw [if_pos h2']
          subst hN
          simp [isS]
          refine ssg_i (enc := fun c : Nat => D.str [c]) (xs := w) eS1_sort rfl (str_set (fun c => [c]) (by omega)) (str_so (fun c => [c]) w) ?_
          refine join_sgs (cs := sgs w) (by have := sset_len (enc := fun c : Nat => D.str [c]) w; show (sset _ w).length ≤ _; omega) ?_
          simp [oEq, vw, okd, eqD_str]
          refine RT.here ?_
          have e : isFlags (.str w) = decide (w = sgs w) := by
            show flagsT w = _
            unfold flagsT
            rw [h2, decide_eq_true h1]
            by_cases h3 : rise w = true
            · rw [h3, decide_eq_true (sgs_self.mpr h3).symm]; rfl
            · rw [decide_eq_false fun z => h3 (sgs_self.mp z.symm)]
              simpa using h3
          rw [e] at q
          exact q
        · have h2' : ∃ x, x ∈ w ∧ fltr x = false := by
            rw [List.all_eq_true] at h2
            simpa using h2
          have e : isFlags (.str w) = false := by
            show flagsT w = _
            unfold flagsT
            rw [show w.all fltr = false by simpa using h2]
            simp
          rw [e] at q
          rw [if_neg (fun z => by obtain ⟨x, hx, e⟩ := h2'; rw [z x hx] at e; cases e)]
          exact RT.here q
    · have h1' : (4 : Int) < w.length := by omega
      have e : isFlags (.str w) = false := by
        show flagsT w = _
        unfold flagsT
        rw [decide_eq_false h1]
        simp
      rw [e] at q
      simp [h1']
      exact RT.here q
  | non => simp [t_are_flags, startD, bIsi, tyD, isiB]; exact RT.here q
  | bl b => simp [t_are_flags, startD, bIsi, tyD, isiB]; exact RT.here q
  | int i => simp [t_are_flags, startD, bIsi, tyD, isiB]; exact RT.here q
  | tup ds => simp [t_are_flags, startD, bIsi, tyD, isiB]; exact RT.here q
  | lst ds => simp [t_are_flags, startD, bIsi, tyD, isiB]; exact RT.here q
  | _ => simp [sml] at hs
end DL

/-! DLe: stems, rules, lists. -/
namespace DL
open PySem PySem.Spec L2 TL PySem.W
open PyProof.Rows hiding St
theorem flags_i {S : Sto} {Q : DQ} {E : DXK} {d : D} (hs : sml 1000 d = true) (q : Q (.bl (isFlags d)) S) : sp_are_flags [d] S Q E := ⟨d, rfl, hs, q⟩
theorem sml_tup {N : Nat} {ds : List D} (h : sml N (.tup ds) = true) : ds.length ≤ N ∧ smls N ds = true := by
  simp only [sml, Bool.and_eq_true, decide_eq_true_eq] at h
  exact h
theorem len2 {ds : List D} (h : ds.length = 2) : ∃ a b, ds = [a, b] := by
  match ds, h with
  | [a, b], _ => exact ⟨a, b, rfl⟩
theorem len3 {ds : List D} (h : ds.length = 3) : ∃ a b c, ds = [a, b, c] := by
  match ds, h with
  | [a, b, c], _ => exact ⟨a, b, c, rfl⟩
theorem len4 {ds : List D} (h : ds.length = 4) : ∃ a b c e, ds = [a, b, c, e] := by
  match ds, h with
  | [a, b, c, e], _ => exact ⟨a, b, c, e, rfl⟩
theorem isStem_ne {ds : List D} (h : ¬ ds.length = 2) : isStem (.tup ds) = false := by
  unfold isStem
  split
  · rename_i e; cases e; exact absurd rfl h
  · rfl
theorem isPref_ne {ds : List D} (h : ¬ ds.length = 3) : isPref (.tup ds) = false := by
  unfold isPref
  split
  · rename_i e; cases e; exact absurd rfl h
  · rfl
theorem isSuf_ne {ds : List D} (h : ¬ ds.length = 4) : isSuf (.tup ds) = false := by
  unfold isSuf
  split
  · rename_i e; cases e; exact absurd rfl h
  · rfl
def sp_is_stem : DSp := fun ds S Q _ => ∃ d, ds = [d] ∧ sml 1000 d = true ∧ Q (.bl (isStem d)) S
def t_is_stem : DTS := (sRet (dAndV (dCB bIsi (aCons (dVar 0) (aCons (dC (.ty "tuple")) aNil))) (dAndV (dOp oEq (dCB bLen (aCons (dVar 0) aNil)) (dC (.int 2))) (dAndV (dCall sp_is_letters X0 (aCons (dOp oIx (dVar 0) (dC (.int 0))) (aCons (dC (.int 1)) (aCons (dC (.int 8)) aNil)))) (dCall sp_are_flags X0 (aCons (dOp oIx (dVar 0) (dC (.int 1))) aNil))))))
theorem rd_is_stem : ∀ ds S QD, sp_is_stem ds S QD X0 → t_is_stem { nx := fun _ S' => RT S QD .non S', rt := RT S QD } (startD 1 ds) S := by
  rintro ds S QD ⟨d, rfl, hs, q⟩
  cases d with
  | tup ds =>
    by_cases hl : ds.length = 2
    · obtain ⟨a, b, rfl⟩ := len2 hl
      have h2 := (sml_tup hs).2
      have ha := smls_mem h2 (d := a) (by simp)
      have hb := smls_mem h2 (d := b) (by simp)
      simp [t_is_stem, startD, bIsi, tyD, isiB, bLen, oEq, vw, okd, eqD_int, oIx]
      refine lets_i ha ?_
      simp only [andOf_bl]
      by_cases h1 : isLets a 1 8 = true
      · rw [if_pos h1]
        refine flags_i hb (RT.here ?_)
        have e : isStem (.tup [a, b]) = isFlags b := by simp [isStem, h1]
        rw [e] at q; exact q
      · rw [if_neg h1]
        have e : isStem (.tup [a, b]) = false := by simp [isStem, h1]
        rw [e] at q; exact RT.here q
    · have h1 : ¬ (ds.length : Int) = 2 := by omega
      simp [t_is_stem, startD, bIsi, tyD, isiB, bLen, oEq, vw, okd, eqD_int, h1]
      rw [isStem_ne hl] at q
      exact RT.here q
  | non => simp [t_is_stem, startD, bIsi, tyD, isiB]; exact RT.here q
  | bl b => simp [t_is_stem, startD, bIsi, tyD, isiB]; exact RT.here q
  | int i => simp [t_is_stem, startD, bIsi, tyD, isiB]; exact RT.here q
  | str l => simp [t_is_stem, startD, bIsi, tyD, isiB]; exact RT.here q
  | lst ds => simp [t_is_stem, startD, bIsi, tyD, isiB]; exact RT.here q
  | _ => simp [sml] at hs
theorem stem_i {S : Sto} {Q : DQ} {E : DXK} {d : D} (hs : sml 1000 d = true) (q : Q (.bl (isStem d)) S) : sp_is_stem [d] S Q E := ⟨d, rfl, hs, q⟩
def sp_is_prefix : DSp := fun ds S Q _ => ∃ d, ds = [d] ∧ sml 1000 d = true ∧ okd 8 d = true ∧ Q (.bl (isPref d)) S
def t_is_prefix : DTS := (sSeq (sIf (dOr (dNot (dTest (dCB bIsi (aCons (dVar 0) (aCons (dC (.ty "tuple")) aNil))))) (dOr (dTest (dOp oNe (dCB bLen (aCons (dVar 0) aNil)) (dC (.int 3)))) (dNot (dTest (dCall sp_is_flag X0 (aCons (dOp oIx (dVar 0) (dC (.int 0))) aNil)))))) (sRet (dC (.bl false))) sNext)
  (sRet (dAndV (dCall sp_is_letters X0 (aCons (dOp oIx (dVar 0) (dC (.int 1))) (aCons (dC (.int 0)) (aCons (dC (.int 6)) aNil)))) (dAndV (dCall sp_is_letters X0 (aCons (dOp oIx (dVar 0) (dC (.int 2))) (aCons (dC (.int 0)) (aCons (dC (.int 6)) aNil)))) (dOp oNe (dOp oIx (dVar 0) (dC (.int 1))) (dOp oIx (dVar 0) (dC (.int 2))))))))
theorem okd_up : ∀ {n : Nat} {d : D}, okd n d = true → okd (n + 1) d = true := by
  intro n
  induction n with
  | zero => intro d h; cases d <;> simp_all [okd]
  | succ n ih =>
    intro d h
    cases d with
    | tup ds =>
      simp only [okd, okds_all, List.all_eq_true] at h ⊢
      exact fun x hx => ih (h x hx)
    | lst ds =>
      simp only [okd, okds_all, List.all_eq_true] at h ⊢
      exact fun x hx => ih (h x hx)
    | _ => simp_all [okd]
theorem vw_ok {S : Sto} {n : Nat} {d : D} (h : okd n d = true) : vw S d = d := by
  cases d with
  | ref m => cases n <;> simp [okd] at h
  | _ => rfl
theorem rd_is_prefix : ∀ ds S QD, sp_is_prefix ds S QD X0 → t_is_prefix { nx := fun _ S' => RT S QD .non S', rt := RT S QD } (startD 1 ds) S := by
  rintro ds S QD ⟨d, rfl, hs, hk, q⟩
  cases d with
  | tup ds =>
    by_cases hl : ds.length = 3
    · obtain ⟨a, b, c, rfl⟩ := len3 hl
      have h2 := (sml_tup hs).2
      have ha := smls_mem h2 (d := a) (by simp)
      have hb := smls_mem h2 (d := b) (by simp)
      have hc := smls_mem h2 (d := c) (by simp)
      have hk2 : okds 7 [a, b, c] = true := by simpa [okd] using hk
      have kb := okds_mem hk2 (d := b) (by simp)
      have kc := okds_mem hk2 (d := c) (by simp)
      refine seq_o fun N hN => ?_
      simp [startD, bIsi, tyD, isiB, bLen, oNe, vw, okd, eqD_int, oIx]
      refine flag_i ha ?_
      simp only [e_tst]
      by_cases h1 : isFlag a = true
      · simp [h1]
        subst hN
        simp [oIx]
        refine lets_i hb ?_
        simp only [andOf_bl]
        by_cases h3 : isLets b 0 6 = true
        · rw [if_pos h3]
          refine lets_i hc ?_
          simp only [andOf_bl]
          by_cases h4 : isLets c 0 6 = true
          · rw [if_pos h4]
            unfold oNe
            rw [vw_ok kb, vw_ok kc]
            refine ⟨okd_up kb, okd_up kc, RT.here ?_⟩
            have e : isPref (.tup [a, b, c]) = !eqD b c := by simp [isPref, h1, h3, h4]
            rw [e] at q; exact q
          · rw [if_neg h4]
            have e : isPref (.tup [a, b, c]) = false := by simp [isPref, h4]
            rw [e] at q; exact RT.here q
        · rw [if_neg h3]
          have e : isPref (.tup [a, b, c]) = false := by simp [isPref, h3]
          rw [e] at q; exact RT.here q
      · have e : isPref (.tup [a, b, c]) = false := by simp [isPref, h1]
        rw [e] at q
        simp [h1]
        exact RT.here q
    · have h1 : ¬ (ds.length : Int) = 3 := by omega
      simp [t_is_prefix, startD, bIsi, tyD, isiB, bLen, oNe, vw, okd, eqD_int, h1]
      rw [isPref_ne hl] at q
      exact RT.here q
  | non => simp [t_is_prefix, startD, bIsi, tyD, isiB]; exact RT.here q
  | bl b => simp [t_is_prefix, startD, bIsi, tyD, isiB]; exact RT.here q
  | int i => simp [t_is_prefix, startD, bIsi, tyD, isiB]; exact RT.here q
  | str l => simp [t_is_prefix, startD, bIsi, tyD, isiB]; exact RT.here q
  | lst ds => simp [t_is_prefix, startD, bIsi, tyD, isiB]; exact RT.here q
  | _ => simp [sml] at hs
theorem pref_i {S : Sto} {Q : DQ} {E : DXK} {d : D} (hs : sml 1000 d = true) (hk : okd 8 d = true) (q : Q (.bl (isPref d)) S) : sp_is_prefix [d] S Q E := ⟨d, rfl, hs, hk, q⟩
def sp_is_suffix : DSp := fun ds S Q _ => ∃ d, ds = [d] ∧ sml 1000 d = true ∧ Q (.bl (isSuf d)) S
def t_is_suffix : DTS := (sSeq (sIf (dOr (dNot (dTest (dCB bIsi (aCons (dVar 0) (aCons (dC (.ty "tuple")) aNil))))) (dOr (dTest (dOp oNe (dCB bLen (aCons (dVar 0) aNil)) (dC (.int 4)))) (dNot (dTest (dCall sp_is_flag X0 (aCons (dOp oIx (dVar 0) (dC (.int 0))) aNil)))))) (sRet (dC (.bl false))) sNext)
  (sRet (dAndV (dCall sp_is_letters X0 (aCons (dOp oIx (dVar 0) (dC (.int 1))) (aCons (dC (.int 0)) (aCons (dC (.int 6)) aNil)))) (dAndV (dCall sp_is_letters X0 (aCons (dOp oIx (dVar 0) (dC (.int 2))) (aCons (dC (.int 0)) (aCons (dC (.int 6)) aNil)))) (dCall sp_are_flags X0 (aCons (dOp oIx (dVar 0) (dC (.int 3))) aNil))))))
theorem rd_is_suffix : ∀ ds S QD, sp_is_suffix ds S QD X0 → t_is_suffix { nx := fun _ S' => RT S QD .non S', rt := RT S QD } (startD 1 ds) S := by
  rintro ds S QD ⟨d, rfl, hs, q⟩
  cases d with
  | tup ds =>
    by_cases hl : ds.length = 4
    · obtain ⟨a, b, c, e, rfl⟩ := len4 hl
      have h2 := (sml_tup hs).2
      have ha := smls_mem h2 (d := a) (by simp)
      have hb := smls_mem h2 (d := b) (by simp)
      have hc := smls_mem h2 (d := c) (by simp)
      have he := smls_mem h2 (d := e) (by simp)
      refine seq_o fun N hN => ?_
      simp [startD, bIsi, tyD, isiB, bLen, oNe, vw, okd, eqD_int, oIx]
      refine flag_i ha ?_
      simp only [e_tst]
      by_cases h1 : isFlag a = true
      · simp [h1]
        subst hN
        simp [oIx]
        refine lets_i hb ?_
        simp only [andOf_bl]
        by_cases h3 : isLets b 0 6 = true
        · rw [if_pos h3]
          refine lets_i hc ?_
          simp only [andOf_bl]
          by_cases h4 : isLets c 0 6 = true
          · rw [if_pos h4]
            refine flags_i he (RT.here ?_)
            have e : isSuf (.tup [a, b, c, e]) = isFlags e := by simp [isSuf, h1, h3, h4]
            rw [e] at q; exact q
          · rw [if_neg h4]
            have e : isSuf (.tup [a, b, c, e]) = false := by simp [isSuf, h4]
            rw [e] at q; exact RT.here q
        · rw [if_neg h3]
          have e : isSuf (.tup [a, b, c, e]) = false := by simp [isSuf, h3]
          rw [e] at q; exact RT.here q
      · have e : isSuf (.tup [a, b, c, e]) = false := by simp [isSuf, h1]
        rw [e] at q
        simp [h1]
        exact RT.here q
    · have h1 : ¬ (ds.length : Int) = 4 := by omega
      simp [t_is_suffix, startD, bIsi, tyD, isiB, bLen, oNe, vw, okd, eqD_int, h1]
      rw [isSuf_ne hl] at q
      exact RT.here q
  | non => simp [t_is_suffix, startD, bIsi, tyD, isiB]; exact RT.here q
  | bl b => simp [t_is_suffix, startD, bIsi, tyD, isiB]; exact RT.here q
  | int i => simp [t_is_suffix, startD, bIsi, tyD, isiB]; exact RT.here q
  | str l => simp [t_is_suffix, startD, bIsi, tyD, isiB]; exact RT.here q
  | lst ds => simp [t_is_suffix, startD, bIsi, tyD, isiB]; exact RT.here q
  | _ => simp [sml] at hs
theorem suf_i {S : Sto} {Q : DQ} {E : DXK} {d : D} (hs : sml 1000 d = true) (q : Q (.bl (isSuf d)) S) : sp_is_suffix [d] S Q E := ⟨d, rfl, hs, q⟩
end DL

/-! DLf: is_rising, is_list. -/
namespace DL
open PySem PySem.Spec L2 TL PySem.W
open PyProof.Rows hiding St
abbrev T3 := Tx × Tx × Tx
abbrev T4 := Tx × Tx × Tx × Tx
def e3 (p : T3) : D := .tup [.str p.1, .str p.2.1, .str p.2.2]
def e4 (p : T4) : D := .tup [.str p.1, .str p.2.1, .str p.2.2.1, .str p.2.2.2]
theorem lets_str {d : D} {lo hi : Int} (h : isLets d lo hi = true) : ∃ w, d = .str w := by
  cases d with
  | str w => exact ⟨w, rfl⟩
  | _ => simp [isLets] at h
theorem flags_str {d : D} (h : isFlags d = true) : ∃ w, d = .str w := by
  cases d with
  | str w => exact ⟨w, rfl⟩
  | _ => simp [isFlags] at h
theorem flag_str {d : D} (h : isFlag d = true) : ∃ w, d = .str w := by
  cases d with
  | str w => exact ⟨w, rfl⟩
  | _ => simp [isFlag] at h
theorem stem_shape {d : D} (h : isStem d = true) : ∃ p, d = eP p := by
  unfold isStem at h
  split at h
  · rw [Bool.and_eq_true] at h
    obtain ⟨a, rfl⟩ := lets_str h.1
    obtain ⟨b, rfl⟩ := flags_str h.2
    exact ⟨(a, b), rfl⟩
  · cases h
theorem pref_shape {d : D} (h : isPref d = true) : ∃ p, d = e3 p := by
  unfold isPref at h
  split at h
  · simp only [Bool.and_eq_true] at h
    obtain ⟨a, rfl⟩ := flag_str h.1.1.1
    obtain ⟨b, rfl⟩ := lets_str h.1.1.2
    obtain ⟨c, rfl⟩ := lets_str h.1.2
    exact ⟨(a, b, c), rfl⟩
  · cases h
theorem suf_shape {d : D} (h : isSuf d = true) : ∃ p, d = e4 p := by
  unfold isSuf at h
  split at h
  · simp only [Bool.and_eq_true] at h
    obtain ⟨a, rfl⟩ := flag_str h.1.1.1
    obtain ⟨b, rfl⟩ := lets_str h.1.1.2
    obtain ⟨c, rfl⟩ := lets_str h.1.2
    obtain ⟨e, rfl⟩ := flags_str h.2
    exact ⟨(a, b, c, e), rfl⟩
  · cases h
/-- data that is compared -/
def Alk (xs : List D) : Prop := (∀ x ∈ xs, okd 8 x = true ∧ toP x ≠ .none) ∧ ∀ x ∈ xs, ∀ y ∈ xs, alike (toP x) (toP y) = true
theorem alk_of {α : Type} {f : α → D} (h1 : ∀ a, okd 8 (f a) = true ∧ toP (f a) ≠ .none) (h2 : ∀ a b, alike (toP (f a)) (toP (f b)) = true) {xs : List D} (h : ∀ x ∈ xs, ∃ a, x = f a) : Alk xs :=
  ⟨fun x hx => by obtain ⟨a, rfl⟩ := h x hx; exact h1 a, fun x hx y hy => by obtain ⟨a, rfl⟩ := h x hx; obtain ⟨b, rfl⟩ := h y hy; exact h2 a b⟩
theorem alk_stems {xs : List D} (h : xs.all isStem = true) : Alk xs := alk_of (f := eP) (fun a => ⟨eP_ok 7 a, by simp [eP, toP]⟩) (fun a b => by simp [eP, toP, toPs, alike, alikeAll]) fun x hx => stem_shape (List.all_eq_true.mp h x hx)
theorem alk_prefs {xs : List D} (h : xs.all isPref = true) : Alk xs := alk_of (f := e3) (fun a => ⟨by simp [e3, okd, okds], by simp [e3, toP]⟩) (fun a b => by simp [e3, toP, toPs, alike, alikeAll]) fun x hx => pref_shape (List.all_eq_true.mp h x hx)
theorem alk_sufs {xs : List D} (h : xs.all isSuf = true) : Alk xs := alk_of (f := e4) (fun a => ⟨by simp [e4, okd, okds], by simp [e4, toP]⟩) (fun a b => by simp [e4, toP, toPs, alike, alikeAll]) fun x hx => suf_shape (List.all_eq_true.mp h x hx)
def sp_is_rising : DSp := fun ds S Q _ => ∃ xs n, ds = [.tup xs, .int n] ∧ xs.length ≤ 1000 ∧ Alk xs ∧ Q (.bl (decide ((xs.length : Int) ≤ n) && risD xs)) S
def t_is_rising : DTS := (sRet (dAndV (dOp oLe (dCB bLen (aCons (dVar 0) aNil)) (dVar 1)) (dCB bAll (aCons (dLc (iZip (aCons (dVar 0) (aCons (dSl (dVar 0) (pSome (dC (.int 1))) pNone) aNil))) (.tp [(.nm 2), (.nm 3)]) dYes (dOp oLtT (dVar 2) (dVar 3)) [2, 3]) aNil))))
theorem zip_tail : ∀ xs : List D, (xs.zip (xs.drop 1)).all (fun p => ltD p.1 p.2) = risD xs
  | [] => rfl
  | [a] => rfl
  | a :: b :: l => by
    have := zip_tail (b :: l)
    rw [risD, ← this]
    rfl
theorem rd_is_rising : ∀ ds S QD, sp_is_rising ds S QD X0 → t_is_rising { nx := fun _ S' => RT S QD .non S', rt := RT S QD } (startD 4 ds) S := by
  rintro ds S QD ⟨xs, n, rfl, hl, hA, q⟩
  have c1 : cutD xs (some 1) none = xs.drop 1 := cutD_from xs (by decide)
  by_cases hn : (xs.length : Int) ≤ n
  · simp [t_is_rising, startD, bLen, oCmp, hn]
    simp only [iZip, e_acons, e_anil, e_var, e_sl, e_pn, pSome, e_c, rSl]
    simp [c1]
    have ez : zipD xs (xs.drop 1) = (xs.zip (xs.drop 1)).map fun p => D.tup [p.1, p.2] := by
      unfold zipD
      rw [List.zip, List.map_zipWith]
    have ez' : zipD xs xs.tail = (xs.zip xs.tail).map fun p => D.tup [p.1, p.2] := by
      unfold zipD
      rw [List.zip, List.map_zipWith]
    first | rw [ez] | rw [ez']
    refine lcD_map (fun p : D × D => D.tup [p.1, p.2]) (fun p => .bl (ltD p.1 p.2)) trivial _ (by simp; omega) (fun p hp k1 hk => ?_) ?_
    · obtain ⟨h1, h2⟩ := List.of_mem_zip hp
      have h2' : p.2 ∈ xs := by
        first | exact List.mem_of_mem_drop h2 | exact List.mem_of_mem_tail h2
      simp [bound, bindT, bindTs, wipeD]
      exact ⟨(hA.1 _ h1).1, (hA.1 _ h2').1, hA.2 _ h1 _ h2', (hA.1 _ h1).2, hk⟩
    · simp only [bAll, asL, blsD_map]
      have e := zip_tail xs
      rw [decide_eq_true hn, Bool.true_and, ← e] at q
      refine RT.here ?_
      simpa [List.all_map, Function.comp_def] using q
  · simp [t_is_rising, startD, bLen, oCmp, hn]
    rw [decide_eq_false hn, Bool.false_and] at q
    exact RT.here q
theorem rising_i {S : Sto} {Q : DQ} {E : DXK} {xs : List D} {n : Int} (hl : xs.length ≤ 1000) (hA : Alk xs) (q : Q (.bl (decide ((xs.length : Int) ≤ n) && risD xs)) S) : sp_is_rising [.tup xs, .int n] S Q E := ⟨xs, n, rfl, hl, hA, q⟩
theorem lcD_each (g : D → D) {lv : Sto → Prop} {T : Tg} {te : DTE} {ρ : Env} {S : Sto} {k : List D → Sto → Prop} (hl : lv S) (xs : List D) (hz : xs.length ≤ sizeLine) (h : ∀ x ∈ xs, ∀ k1 : D → Sto → Prop, k1 (g x) S → bound T x ρ fun ρ' => te ρ' S k1)
    (q : k (xs.map g) S) : lcD lv T dYes te ρ xs [] S k := by
  have := lcD_map (fun x : D => x) g hl xs hz h q
  rwa [List.map_id'] at this
def isTup : D → Bool
  | .tup _ => true
  | _ => false
theorem isTup_ty {S : Sto} {N : Nat} {d : D} (h : sml N d = true) : ∃ t, tyD S d = some t ∧ isiB t "tuple" = isTup d := by
  cases d <;> first | exact ⟨_, rfl, rfl⟩ | simp [sml] at h
def sp_is_list : DSp := fun ds S Q _ => ∃ d, ds = [d] ∧ sml 1000 d = true ∧ okd 8 d = true ∧ Q (.bl (isListD d)) S
def t_is_list : DTS := (sSeq (sIf (dOr (dNot (dTest (dCB bIsi (aCons (dVar 0) (aCons (dC (.ty "tuple")) aNil))))) (dOr (dTest (dOp oNe (dCB bLen (aCons (dVar 0) aNil)) (dC (.int 3)))) (dNot (dTest (dCB bAll (aCons (dLc (iSeq (dVar 0)) (.nm 4) dYes (dCB bIsi (aCons (dVar 4) (aCons (dC (.ty "tuple")) aNil))) [4]) aNil)))))) (sRet (dC (.bl false))) sNext)
  (sSeq (sAsg (dVar 0) (.tp [(.nm 1), (.nm 2), (.nm 3)]))
  (sSeq (sIf (dOr (dNot (dTest (dCB bAll (aCons (dLc (iSeq (dVar 1)) (.nm 5) dYes (dCall sp_is_stem X0 (aCons (dVar 5) aNil)) [5]) aNil)))) (dNot (dTest (dCB bAll (aCons (dLc (iSeq (dVar 2)) (.nm 5) dYes (dCall sp_is_prefix X0 (aCons (dVar 5) aNil)) [5]) aNil))))) (sRet (dC (.bl false))) sNext)
  (sSeq (sIf (dOr (dNot (dTest (dCB bAll (aCons (dLc (iSeq (dVar 3)) (.nm 5) dYes (dCall sp_is_suffix X0 (aCons (dVar 5) aNil)) [5]) aNil)))) (dNot (dTest (dCall sp_is_rising X0 (aCons (dVar 1) (aCons (dC (.int 8)) aNil)))))) (sRet (dC (.bl false))) sNext)
  (sRet (dAndV (dCall sp_is_rising X0 (aCons (dVar 2) (aCons (dC (.int 3)) aNil))) (dCall sp_is_rising X0 (aCons (dVar 3) (aCons (dC (.int 6)) aNil)))))))))
theorem isList_ne {ds : List D} (h : ¬ ds.length = 3) : isListD (.tup ds) = false := by
  unfold isListD
  split
  · rename_i e; cases e; exact absurd rfl h
  · rfl
theorem all_map_i {S : Sto} {Q : DQ} {f : D → Bool} (xs : List D) (q : Q (.bl (xs.all f)) S) : bAll [.lst (xs.map fun x => .bl (f x))] S Q := by
  simp only [bAll, asL, blsD_map]
  have : (xs.map f).all id = xs.all f := by rw [List.all_map]; rfl
  rw [this]
  exact q
theorem isTup_all {a b c : D} (h : [a, b, c].all isTup = true) : ∃ xs ys zs, a = .tup xs ∧ b = .tup ys ∧ c = .tup zs := by
  simp only [List.all_cons, List.all_nil, Bool.and_true, Bool.and_eq_true] at h
  have key : ∀ d : D, isTup d = true → ∃ xs, d = .tup xs := fun d hd => by
    cases d <;> first | exact ⟨_, rfl⟩ | cases hd
  obtain ⟨xs, rfl⟩ := key a h.1
  obtain ⟨ys, rfl⟩ := key b h.2.1
  obtain ⟨zs, rfl⟩ := key c h.2.2
  exact ⟨xs, ys, zs, rfl, rfl, rfl⟩
theorem isTup_no {a b c : D} (h : [a, b, c].all isTup = false) : isListD (.tup [a, b, c]) = false := by
  unfold isListD
  split
  · rename_i e; cases e; simp [isTup] at h
  · rfl
theorem rd_is_list : ∀ ds S QD, sp_is_list ds S QD X0 → t_is_list { nx := fun _ S' => RT S QD .non S', rt := RT S QD } (startD 6 ds) S := by
  rintro ds S QD ⟨d, rfl, hs, hk, q⟩
  cases d with
  | tup ds =>
    have h2 := (sml_tup hs).2
    have hl0 := (sml_tup hs).1
    refine seq_o fun N hN => ?_
    simp [startD, bIsi, tyD, isiB, bLen, oNe, vw, okd, eqD_int]
    by_cases hl : ds.length = 3
    · have hl' : (ds.length : Int) = 3 := by omega
      simp [hl']
      refine lcD_each (fun x => .bl (isTup x)) trivial ds (by simp; omega) (fun x hx k1 hk1 => by
          obtain ⟨t, ht, hb⟩ := isTup_ty (S := S) (smls_mem h2 hx)
          simp [bound, bindT, wipeD, bIsi, ht, hb]
          exact hk1) ?_
      refine all_map_i ds ?_
      simp only [e_tst]
      by_cases hT : ds.all isTup = true
      · rw [if_pos hT]
        obtain ⟨a, b, c, rfl⟩ := len3 hl
        obtain ⟨xs, ys, zs, rfl, rfl, rfl⟩ := isTup_all hT
        have sx := sml_tup (smls_mem h2 (d := .tup xs) (by simp))
        have sy := sml_tup (smls_mem h2 (d := .tup ys) (by simp))
        have sz := sml_tup (smls_mem h2 (d := .tup zs) (by simp))
        have hk2 : okds 7 [.tup xs, .tup ys, .tup zs] = true := by simpa [okd] using hk
        have ky : okds 6 ys = true := by simpa [okd] using okds_mem hk2 (d := .tup ys) (by simp)
        subst hN
        refine seq_o fun N hN => ?_
        simp [bound, bindT, bindTs]
        subst hN
        refine seq_o fun N hN => ?_
        simp
        refine lcD_each (fun x => .bl (isStem x)) trivial xs (by simp; omega) (fun x hx k1 hk1 => by
          simp [bound, bindT, wipeD]
          exact stem_i (smls_mem sx.2 hx) hk1) ?_
        refine all_map_i xs ?_
        simp only [e_tst]
        by_cases h3 : xs.all isStem = true
        · simp only [h3, Bool.not_true, Bool.false_eq_true, if_false, if_true, Bool.not_false]
          refine lcD_each (fun x => .bl (isPref x)) trivial ys (by simp; omega) (fun x hx k1 hk1 => by
            simp [bound, bindT, wipeD]
            exact pref_i (smls_mem sy.2 hx) (okd_up (okd_up (okds_mem ky hx))) hk1) ?_
          refine all_map_i ys ?_
          simp only [e_tst]
          by_cases h4 : ys.all isPref = true
          · simp only [h4, Bool.not_true, Bool.false_eq_true, if_false, if_true, Bool.not_false]
            subst hN
            refine seq_o fun N hN => ?_
            simp
            refine lcD_each (fun x => .bl (isSuf x)) trivial zs (by simp; omega) (fun x hx k1 hk1 => by
              simp [bound, bindT, wipeD]
              exact suf_i (smls_mem sz.2 hx) hk1) ?_
            refine all_map_i zs ?_
            simp only [e_tst]
            by_cases h5 : zs.all isSuf = true
            · simp only [h5, Bool.not_true, Bool.false_eq_true, if_false, if_true, Bool.not_false]
              refine rising_i sx.1 (alk_stems h3) ?_
              simp only [e_tst]
              by_cases h6 : (decide ((xs.length : Int) ≤ 8) && risD xs) = true
              · simp only [h6, Bool.not_true, Bool.false_eq_true, if_false, if_true, Bool.not_false]
                subst hN
                simp
                refine rising_i sy.1 (alk_prefs h4) ?_
                simp only [andOf_bl]
                have c8 : decide ((xs.length : Int) ≤ 8) = decide (xs.length ≤ 8) := decide_eq_decide.mpr (by omega)
                have c3 : decide ((ys.length : Int) ≤ 3) = decide (ys.length ≤ 3) := decide_eq_decide.mpr (by omega)
                have c6 : decide ((zs.length : Int) ≤ 6) = decide (zs.length ≤ 6) := decide_eq_decide.mpr (by omega)
                rw [c8] at h6
                rw [c3]
                by_cases h7 : (decide (ys.length ≤ 3) && risD ys) = true
                · rw [if_pos h7]
                  refine rising_i sz.1 (alk_sufs h5) (RT.here ?_)
                  rw [c6]
                  have e : isListD (.tup [.tup xs, .tup ys, .tup zs]) = (decide (zs.length ≤ 6) && risD zs) := by
                    simp only [isListD]
                    rw [h3, h4, h5, h6, h7]; rfl
                  rw [e] at q; exact q
                · rw [if_neg h7]
                  have e : isListD (.tup [.tup xs, .tup ys, .tup zs]) = false := by
                    simp only [isListD]
                    rw [show (decide (ys.length ≤ 3) && risD ys) = false by simpa using h7]
                    simp
                  rw [e] at q; exact RT.here q
              · have h6' : (decide ((xs.length : Int) ≤ 8) && risD xs) = false := by
                  cases hb : (decide ((xs.length : Int) ≤ 8) && risD xs) with
                  | false => rfl
                  | true => exact absurd hb h6
                have c8 : decide ((xs.length : Int) ≤ 8) = decide (xs.length ≤ 8) := decide_eq_decide.mpr (by omega)
                rw [c8] at h6'
                rw [c8]
                simp only [h6', Bool.not_false, if_true, Bool.not_true, Bool.false_eq_true, if_false]
                have e : isListD (.tup [.tup xs, .tup ys, .tup zs]) = false := by
                  simp only [isListD]
                  rw [h6']
                  simp
                rw [e] at q; exact RT.here q
            · have h5' : zs.all isSuf = false := by simpa using h5
              simp only [h5', Bool.not_false, if_true, Bool.not_true, Bool.false_eq_true, if_false]
              have e : isListD (.tup [.tup xs, .tup ys, .tup zs]) = false := by
                simp only [isListD]
                rw [h5']
                simp
              rw [e] at q; exact RT.here q
          · have h4' : ys.all isPref = false := by simpa using h4
            simp only [h4', Bool.not_false, if_true, Bool.not_true, Bool.false_eq_true, if_false]
            have e : isListD (.tup [.tup xs, .tup ys, .tup zs]) = false := by
              simp only [isListD]
              rw [h4']
              simp
            rw [e] at q; exact RT.here q
        · have h3' : xs.all isStem = false := by simpa using h3
          simp only [h3', Bool.not_false, if_true, Bool.not_true, Bool.false_eq_true, if_false]
          have e : isListD (.tup [.tup xs, .tup ys, .tup zs]) = false := by
            simp only [isListD]
            rw [h3']
            simp
          rw [e] at q; exact RT.here q
      · rw [if_neg hT]
        obtain ⟨a, b, c, rfl⟩ := len3 hl
        rw [isTup_no (by simpa using hT)] at q
        exact RT.here q
    · have hl' : ¬ (ds.length : Int) = 3 := by omega
      simp [hl']
      rw [isList_ne hl] at q
      exact RT.here q
  | non => simp [t_is_list, startD, bIsi, tyD, isiB]; exact RT.here q
  | bl b => simp [t_is_list, startD, bIsi, tyD, isiB]; exact RT.here q
  | int i => simp [t_is_list, startD, bIsi, tyD, isiB]; exact RT.here q
  | str l => simp [t_is_list, startD, bIsi, tyD, isiB]; exact RT.here q
  | lst ds => simp [t_is_list, startD, bIsi, tyD, isiB]; exact RT.here q
  | _ => simp [sml] at hs
theorem list_i {S : Sto} {Q : DQ} {E : DXK} {d : D} (hs : sml 1000 d = true) (hk : okd 8 d = true) (q : Q (.bl (isListD d)) S) : sp_is_list [d] S Q E := ⟨d, rfl, hs, hk, q⟩
end DL

/-! DLg: the lists that the laws draw. -/
namespace DL
open PySem PySem.Spec L2 TL PySem.W
open PyProof.Rows hiding St
def abc (w : Tx) : Prop := ∀ c ∈ w, c = 97 ∨ c = 98 ∨ c = 99
def abxz (w : Tx) : Prop := ∀ c ∈ w, c = 65 ∨ c = 66 ∨ c = 88 ∨ c = 90
def okFl (n : Nat) (w : Tx) : Prop := w.length ≤ n ∧ rise w = true ∧ abxz w
theorem SrcOk.lt {S : Sto} {r : Nat} (h : SrcOk S r) : r < S.length := by
  obtain ⟨a, b, _, e⟩ := h
  exact (List.getElem?_eq_some_iff.mp e).1
theorem SrcOk.app {S T : Sto} {r : Nat} (h : SrcOk S r) : SrcOk (S ++ T) r := by
  have := h.lt
  obtain ⟨a, b, hb, e⟩ := h
  exact ⟨a, b, hb, by rw [List.getElem?_append_left this]; exact e⟩
theorem Src'.app {S T S2 : Sto} {r : Nat} (hr : r < S.length) (h : Src' (S ++ T) r S2) : ∃ S3, S2 = S3 ++ T ∧ Src' S r S3 := by
  obtain ⟨a, b, hb, rfl⟩ := h
  exact ⟨S.set r (mkS a b), by rw [List.set_append_left _ _ hr], a, b, hb, rfl⟩
theorem Src'.kept {S S2 : Sto} {r : Nat} (T : Sto) (h : Src' S r S2) : Kept S (S2 ++ T) := by
  obtain ⟨a, b, hb, rfl⟩ := h
  intro i m hi e
  rw [List.getElem?_append_left (by simpa using hi)] at e
  by_cases hir : r = i
  · subst hir
    rw [List.getElem?_set_self hi] at e
    cases e
    exact .inr rfl
  · rw [List.getElem?_set_ne hir] at e
    exact .inl e
theorem RT.src {S S2 : Sto} {QD : DQ} {d : D} {r : Nat} (T : Sto) (h : Src' S r S2) (hd : d.ltn S.length = true) (q : QD d S2) : RT S QD d (S2 ++ T) :=
  .inr ⟨h.kept T, d, .inl ⟨hd, rfl⟩, by rw [← h.len, List.take_left']; exact q; rfl⟩
def sp__law_some_flags : DSp := fun ds S Q _ => ∃ (r n : Nat), ds = [.ref r, .int n] ∧ SrcOk S r ∧ n ≤ 1000 ∧ ∀ w S', okFl n w → Src' S r S' → Q (.str w) S'
def t__law_some_flags : DTS := (sSeq (sAsg (dLc (iRange1 (aCons (dCall sp__law_draw X0 (aCons (dVar 0) (aCons (dOp oAdd (dVar 1) (dC (.int 1))) aNil))) aNil)) (.nm 3) dYes (dCall sp__law_choice X0 (aCons (dVar 0) (aCons (dLst (aCons (dC (.str [65])) (aCons (dC (.str [65])) (aCons (dC (.str [66])) (aCons (dC (.str [66])) (aCons (dC (.str [88])) (aCons (dC (.str [90])) aNil))))))) aNil))) [3]) (.nm 2))
  (sRet (dMS mJoin (dC (.str [])) (aCons (dSortSetG (dVar 2)) aNil))))
theorem rd__law_some_flags : ∀ ds S QD, sp__law_some_flags ds S QD X0 → t__law_some_flags { nx := fun _ S' => RT S QD .non S', rt := RT S QD } (startD 4 ds) S := by
  rintro ds S QD ⟨r, n, rfl, hs, hn, q⟩
  refine seq_o fun N hN => ?_
  simp [startD, oAdd]
  refine draw_i hs (by omega) (by omega) fun d S1 hd hS => ?_
  refine rg1_i (by omega) (by omega) ?_
  rw [Int.toNat_natCast]
  refine lcD_draw (fun acc S' => Src' S r S' ∧ ∃ cs : Tx, acc = cs.map (fun c => D.str [c]) ∧ abxz cs) _ [] S1 (by simp [rngD]; omega) (fun _ _ _ => trivial) ?_ ?_ ⟨hS, [], rfl, fun c hc => absurd hc (List.not_mem_nil)⟩
  · rintro x hx acc S2 k1 k0 ⟨h1, cs, rfl, hc⟩ hk
    simp [bound, bindT, wipeD]
    refine choice_i rfl (h1.ok hs) (by simp) (by simp) ?_
    have st : ∀ (c : Nat) (S3 : Sto), (c = 65 ∨ c = 66 ∨ c = 88 ∨ c = 90) → Src' S2 r S3 → k1 (.str [c]) S3 := fun c S3 h2 h3 => hk _ S3 ⟨h1.trans h3, cs ++ [c], by simp, fun z hz => by
      rcases List.mem_append.mp hz with hz | hz
      · exact hc z hz
      · simp at hz; subst hz; exact h2⟩
    intro e he S3 h3
    simp at he
    rcases he with rfl | rfl | rfl | rfl | rfl | rfl
    all_goals exact st _ S3 (by simp) h3
  · rintro acc' S2 hl ⟨h1, cs, rfl, hc⟩
    simp [rngD] at hl
    simp only [bound, bindT, List.set]
    subst hN
    simp [isS]
    refine ssg_i (enc := fun c : Nat => D.str [c]) (xs := cs) eS1_sort rfl (str_set (fun c => [c]) (by omega)) (str_so (fun c => [c]) cs) ?_
    have hsl : (sgs cs).length ≤ cs.length := sset_len (enc := fun c : Nat => D.str [c]) cs
    refine join_sgs (cs := sgs cs) (by omega) (RT.here (q _ _ ⟨by omega, sgs_self.mp (sset_idem eS1_sort cs), fun c hc' => hc c (sset_mem.mp hc')⟩ h1))
theorem some_flags_i {S : Sto} {Q : DQ} {E : DXK} {r : Nat} {n : Int} (hs : SrcOk S r) (h0 : 0 ≤ n) (hn : n ≤ 1000) (q : ∀ w S', okFl n.toNat w → Src' S r S' → Q (.str w) S') : sp__law_some_flags [.ref r, .int n] S Q E := by
  obtain ⟨k, rfl⟩ := Int.eq_ofNat_of_zero_le h0
  exact ⟨r, k, rfl, hs, by omega, fun w S' h => q w S' (by simpa using h)⟩

/-! ### _law_list -/
structure Lists where
  stems : List (Tx × Tx)
  prefs : List T3
  sufs : List T4
def dL (L : Lists) : D := .tup [.tup (L.stems.map eP), .tup (L.prefs.map e3), .tup (L.sufs.map e4)]
def okStem (p : Tx × Tx) : Prop := 1 ≤ p.1.length ∧ p.1.length ≤ 3 ∧ abc p.1 ∧ okFl 2 p.2
def okPref (p : T3) : Prop := (p.1 = [65] ∨ p.1 = [66] ∨ p.1 = [90]) ∧ p.2.1.length ≤ 1 ∧ p.2.2.length ≤ 2 ∧ abc p.2.1 ∧ abc p.2.2 ∧ p.2.1 ≠ p.2.2
def okSuf (g : Bool) (p : T4) : Prop := (p.1 = [65] ∨ p.1 = [66] ∨ p.1 = [88]) ∧ p.2.1.length ≤ 2 ∧ p.2.2.1.length ≤ 2 ∧ (g = true → p.2.1.length ≤ p.2.2.1.length) ∧ abc p.2.1 ∧ abc p.2.2.1 ∧ okFl 2 p.2.2.2
theorem e3_eq : EqEnc e3 := fun a b => by
  unfold e3
  rw [eqD_tup, eqDs_cc, eqDs_cc, eqDs_cc, eqDs_nil, eqD_str, eqD_str, eqD_str]
  obtain ⟨a1, a2, a3⟩ := a
  obtain ⟨b1, b2, b3⟩ := b
  by_cases h1 : a1 = b1 <;> by_cases h2 : a2 = b2 <;> by_cases h3 : a3 = b3 <;> simp [h1, h2, h3]
theorem e4_eq : EqEnc e4 := fun a b => by
  unfold e4
  rw [eqD_tup, eqDs_cc, eqDs_cc, eqDs_cc, eqDs_cc, eqDs_nil, eqD_str, eqD_str, eqD_str, eqD_str]
  obtain ⟨a1, a2, a3, a4⟩ := a
  obtain ⟨b1, b2, b3, b4⟩ := b
  by_cases h1 : a1 = b1 <;> by_cases h2 : a2 = b2 <;> by_cases h3 : a3 = b3 <;> by_cases h4 : a4 = b4 <;> simp [h1, h2, h3, h4]
theorem eP_srt : SortEnc eP := ⟨eP_eq, fun a b => by simp [eP, toP, toPs, alike, alikeAll]⟩
theorem e3_srt : SortEnc e3 := ⟨e3_eq, fun a b => by simp [e3, toP, toPs, alike, alikeAll]⟩
theorem e4_srt : SortEnc e4 := ⟨e4_eq, fun a b => by simp [e4, toP, toPs, alike, alikeAll]⟩
theorem so_of {α : Type} {enc : α → D} (h : ∀ a b, alike (toP (enc a)) (toP (enc b)) = true) (ht : ∀ a, ∃ x r, toP (enc a) = .tuple (x :: r)) (xs : List α) : sortOk (xs.map enc) := by
  refine ⟨?_, ?_⟩
  · rw [List.map_map]
    exact AllAlike.of fun a b => h a b
  · rw [List.map_map]
    exact Sortable.tuples fun p => ht p
theorem eP_sok (xs : List (Tx × Tx)) : sortOk (xs.map eP) := so_of eP_srt.2 (fun a => ⟨_, _, rfl⟩) xs
theorem e3_sok (xs : List T3) : sortOk (xs.map e3) := so_of e3_srt.2 (fun a => ⟨_, _, rfl⟩) xs
theorem e4_sok (xs : List T4) : sortOk (xs.map e4) := so_of e4_srt.2 (fun a => ⟨_, _, rfl⟩) xs
theorem eP_st {xs : List (Tx × Tx)} (h : xs.length < 64) : setOkD (xs.map eP) := .inr ⟨xs.map fun p => [.inr p.1, .inr p.2], by rw [List.map_map]; rfl, by simp; omega, fun k hk => by
  obtain ⟨p, _, rfl⟩ := List.mem_map.mp hk
  simp⟩
theorem e3_st {xs : List T3} (h : xs.length < 64) : setOkD (xs.map e3) := .inr ⟨xs.map fun p => [.inr p.1, .inr p.2.1, .inr p.2.2], by rw [List.map_map]; rfl, by simp; omega, fun k hk => by
  obtain ⟨p, _, rfl⟩ := List.mem_map.mp hk
  simp⟩
theorem e4_st {xs : List T4} (h : xs.length < 64) : setOkD (xs.map e4) := .inr ⟨xs.map fun p => [.inr p.1, .inr p.2.1, .inr p.2.2.1, .inr p.2.2.2], by rw [List.map_map]; rfl, by simp; omega, fun k hk => by
  obtain ⟨p, _, rfl⟩ := List.mem_map.mp hk
  simp⟩
/-- a list as the laws draw it -/
structure LawL (g : Bool) (L : Lists) : Prop where
  ns : L.stems.length ≤ 3
  np : L.prefs.length ≤ 2
  nf : L.sufs.length ≤ 4
  stem : ∀ p ∈ L.stems, okStem p
  pref : ∀ p ∈ L.prefs, okPref p
  suf : ∀ p ∈ L.sufs, okSuf g p
  ss : sset eP L.stems = L.stems
  sp : sset e3 L.prefs = L.prefs
  sf : sset e4 L.sufs = L.sufs
def sp__law_list : DSp := fun ds S Q _ => ∃ (r : Nat) (g : Bool), ds = [.ref r, .bl g] ∧ SrcOk S r ∧ ∀ L S', LawL g L → Src' S r S' → Q (dL L) S'
def tl_1 : DTE := (dLc (iRange1 (aCons (dCall sp__law_draw X0 (aCons (dVar 0) (aCons (dC (.int 4)) aNil))) aNil)) (.nm 5) dYes (dTup (aCons (dCall sp__law_some_letters X0 (aCons (dVar 0) (aCons (dC (.int 1)) (aCons (dC (.int 3)) aNil)))) (aCons (dCall sp__law_some_flags X0 (aCons (dVar 0) (aCons (dC (.int 2)) aNil))) aNil))) [5])
def tl_2 : DTS := (sSeq (sPar 6 7 (dCall sp__law_some_letters X0 (aCons (dVar 0) (aCons (dC (.int 0)) (aCons (dC (.int 1)) aNil)))) (dCall sp__law_some_letters X0 (aCons (dVar 0) (aCons (dC (.int 0)) (aCons (dC (.int 2)) aNil)))))
  (sIf (dTest (dOp oNe (dVar 6) (dVar 7))) (sDrop (dML mAppend (dVar 3) (aCons (dTup (aCons (dCall sp__law_choice X0 (aCons (dVar 0) (aCons (dLst (aCons (dC (.str [65])) (aCons (dC (.str [66])) (aCons (dC (.str [90])) aNil)))) aNil))) (aCons (dVar 6) (aCons (dVar 7) aNil)))) aNil))) sNext))
def tl_3 : DTS := (sSeq (sAsg (dCall sp__law_some_letters X0 (aCons (dVar 0) (aCons (dC (.int 0)) (aCons (dC (.int 2)) aNil)))) (.nm 6))
  (sSeq (sAsg (dCall sp__law_some_letters X0 (aCons (dVar 0) (aCons (dIf (dTest (dVar 1)) (dCB bLen (aCons (dVar 6) aNil)) (dC (.int 0))) (aCons (dC (.int 2)) aNil)))) (.nm 7))
  (sDrop (dML mAppend (dVar 4) (aCons (dTup (aCons (dCall sp__law_choice X0 (aCons (dVar 0) (aCons (dLst (aCons (dC (.str [65])) (aCons (dC (.str [66])) (aCons (dC (.str [88])) aNil)))) aNil))) (aCons (dVar 6) (aCons (dVar 7) (aCons (dCall sp__law_some_flags X0 (aCons (dVar 0) (aCons (dC (.int 2)) aNil))) aNil))))) aNil)))))
def t__law_list : DTS := (sSeq (sAsg tl_1 (.nm 2))
  (sSeq (sPar 3 4 (dLstM aNil) (dLstM aNil))
  (sSeq (sFor (iRange1 (aCons (dCall sp__law_draw X0 (aCons (dVar 0) (aCons (dC (.int 3)) aNil))) aNil)) (.nm 5) tl_2)
  (sSeq (sFor (iRange1 (aCons (dCall sp__law_draw X0 (aCons (dVar 0) (aCons (dC (.int 5)) aNil))) aNil)) (.nm 5) tl_3)
  (sRet (dTup (aCons (dCB bTuple (aCons (dSortSetG (dVar 2)) aNil)) (aCons (dCB bTuple (aCons (dSortSetG (dVar 3)) aNil)) (aCons (dCB bTuple (aCons (dSortSetG (dVar 4)) aNil)) aNil)))))))))
theorem rd_2 {D' : DEnds} {x1 x2 x5 x6 x7 : Option D} {S : Sto} {r : Nat} {ps : List T3} {sf : List T4} (hs : SrcOk S r) (hl : ps.length ≤ 10) (hp : ∀ p ∈ ps, okPref p)
    (hN : ∀ S2 y6 y7 (ps2 : List T3), Src' S r S2 → ps2.length ≤ ps.length + 1 → (∀ p ∈ ps2, okPref p) → D'.nx [some (.ref r), x1, x2, some (.ref S.length), some (.ref (S.length + 1)), x5, y6, y7] (S2 ++ [.lst (ps2.map e3), .lst (sf.map e4)])) :
    tl_2 D' [some (.ref r), x1, x2, some (.ref S.length), some (.ref (S.length + 1)), x5, x6, x7] (S ++ [MO.lst (ps.map e3), MO.lst (sf.map e4)]) := by
  refine seq_o fun N hN1 => ?_
  simp
  refine some_i hs.app (by omega) (by omega) (by omega) fun old S1 h1 h2 ho hS => ?_
  obtain ⟨S2, rfl, hS2⟩ := hS.app hs.lt
  have hs2 := hS2.ok hs
  refine some_i hs2.app (by omega) (by omega) (by omega) fun new S1 h3 h4 hn hS => ?_
  obtain ⟨S3, rfl, hS3⟩ := hS.app hs2.lt
  have hs3 := hS3.ok hs2
  have h23 := hS2.trans hS3
  try dsimp only
  subst hN1
  simp [oNe, vw, okd, eqD_str]
  by_cases hne : old = new
  · simp [hne]
    exact hN _ _ _ ps h23 (by omega) hp
  · simp [hne]
    have e1 : asL (S3 ++ [MO.lst (ps.map e3), MO.lst (sf.map e4)]) (.ref S.length) = some (ps.map e3) := by
      simp [asL, ← h23.len]
    simp [e1]
    refine choice_i (es := [.str [65], .str [66], .str [90]]) rfl hs3.app (by simp) (by simp) fun e he S4 hS => ?_
    obtain ⟨S5, rfl, hS5⟩ := hS.app hs3.lt
    have h25 := h23.trans hS5
    have e2 : (S5 ++ [MO.lst (ps.map e3), MO.lst (sf.map e4)])[S.length]? = some (MO.lst (ps.map e3)) := by
      rw [← h25.len]; simp
    have e3' : ∀ m, (S5 ++ [MO.lst (ps.map e3), MO.lst (sf.map e4)]).set S.length m = S5 ++ [m, MO.lst (sf.map e4)] := fun m => by
      rw [← h25.len, List.set_append_right _ _ (Nat.le_refl _)]; simp
    simp [mAppend, e2, e3']
    refine ⟨by omega, ?_⟩
    have fin : ∀ c : Tx, (c = [65] ∨ c = [66] ∨ c = [90]) → D'.nx [some (.ref r), x1, x2, some (.ref S.length), some (.ref (S.length + 1)), x5, some (.str old), some (.str new)] (S5 ++ [.lst (ps.map e3 ++ [.tup [.str c, .str old, .str new]]), .lst (sf.map e4)]) := fun c hc => by
      have := hN S5 (some (.str old)) (some (.str new)) (ps ++ [(c, old, new)]) h25 (by simp) (fun p hp' => by
        rcases List.mem_append.mp hp' with hp' | hp'
        · exact hp p hp'
        · simp at hp'; subst hp'; exact ⟨hc, by show old.length ≤ 1; omega, by show new.length ≤ 2; omega, ho, hn, hne⟩)
      simpa [e3] using this
    simp at he
    rcases he with rfl | rfl | rfl
    all_goals exact fin _ (by simp)
theorem rd_3 {D' : DEnds} {g : Bool} {x2 x5 x6 x7 : Option D} {S : Sto} {r : Nat} {ps : List T3} {sf : List T4} (hs : SrcOk S r) (hl : sf.length ≤ 10) (hp : ∀ p ∈ sf, okSuf g p)
    (hN : ∀ S2 y6 y7 (p : T4), Src' S r S2 → okSuf g p → D'.nx [some (.ref r), some (.bl g), x2, some (.ref S.length), some (.ref (S.length + 1)), x5, y6, y7] (S2 ++ [.lst (ps.map e3), .lst ((sf ++ [p]).map e4)])) :
    tl_3 D' [some (.ref r), some (.bl g), x2, some (.ref S.length), some (.ref (S.length + 1)), x5, x6, x7] (S ++ [MO.lst (ps.map e3), MO.lst (sf.map e4)]) := by
  refine seq_o fun N hN1 => ?_
  simp
  refine some_i hs.app (by omega) (by omega) (by omega) fun old S1 h1 h2 ho hS => ?_
  obtain ⟨S2, rfl, hS2⟩ := hS.app hs.lt
  have hs2 := hS2.ok hs
  simp only [bound, bindT, List.set]
  subst hN1
  refine seq_o fun N hN1 => ?_
  have key : sp_some [.ref r, .int (if g = true then (old.length : Int) else 0), .int 2] (S2 ++ [MO.lst (ps.map e3), MO.lst (sf.map e4)]) (fun d S1 => bound (Tg.nm 7) d [some (.ref r), some (.bl g), x2, some (.ref S.length), some (.ref (S.length + 1)), x5, some (.str old), x7] fun ρ' => N ρ' S1) X0 := by
    refine some_i hs2.app (by split <;> omega) (by split <;> omega) (by omega) fun new S1 h3 h4 hn hS => ?_
    obtain ⟨S3, rfl, hS3⟩ := hS.app hs2.lt
    have hs3 := hS3.ok hs2
    have h23 := hS2.trans hS3
    simp only [bound, bindT, List.set]
    subst hN1
    have e1 : asL (S3 ++ [MO.lst (ps.map e3), MO.lst (sf.map e4)]) (.ref (S.length + 1)) = some (sf.map e4) := by
      simp [asL, ← h23.len]
    simp [e1]
    refine choice_i (es := [.str [65], .str [66], .str [88]]) rfl hs3.app (by simp) (by simp) fun e he S4 hS => ?_
    obtain ⟨S5, rfl, hS5⟩ := hS.app hs3.lt
    have hs5 := hS5.ok hs3
    refine some_flags_i hs5.app (by omega) (by omega) fun fl S6 hfl hS => ?_
    obtain ⟨S7, rfl, hS7⟩ := hS.app hs5.lt
    have h27 := (h23.trans hS5).trans hS7
    have e2 : (S7 ++ [MO.lst (ps.map e3), MO.lst (sf.map e4)])[S.length + 1]? = some (MO.lst (sf.map e4)) := by
      rw [← h27.len]; simp
    have e3' : ∀ m, (S7 ++ [MO.lst (ps.map e3), MO.lst (sf.map e4)]).set (S.length + 1) m = S7 ++ [MO.lst (ps.map e3), m] := fun m => by
      rw [← h27.len, List.set_append_right _ _ (by omega)]; simp
    simp [mAppend, e2, e3']
    refine ⟨by omega, ?_⟩
    have fin : ∀ c : Tx, (c = [65] ∨ c = [66] ∨ c = [88]) → D'.nx [some (.ref r), some (.bl g), x2, some (.ref S.length), some (.ref (S.length + 1)), x5, some (.str old), some (.str new)] (S7 ++ [.lst (ps.map e3), .lst (sf.map e4 ++ [.tup [.str c, .str old, .str new, .str fl]])]) := fun c hc => by
      have := hN S7 (some (.str old)) (some (.str new)) (c, old, new, fl) h27 ⟨hc, by show old.length ≤ 2; omega, by show new.length ≤ 2; omega, fun hg => by rw [if_pos hg] at h3; show old.length ≤ new.length; omega, ho, hn, hfl⟩
      simpa [e4] using this
    simp at he
    rcases he with rfl | rfl | rfl
    all_goals exact fin _ (by simp)
  have hz : old.length ≤ 16777216 := by omega
  cases g
  · simpa [bLen, hz] using key
  · simpa [bLen, hz] using key
theorem rd__law_list : ∀ ds S QD, sp__law_list ds S QD X0 → t__law_list { nx := fun _ S' => RT S QD .non S', rt := RT S QD } (startD 8 ds) S := by
  rintro ds S QD ⟨r, g, rfl, hs, q⟩
  refine seq_o fun N hN => ?_
  simp [startD, tl_1]
  refine draw_i hs (by omega) (by omega) fun d S1 hd hS => ?_
  refine rg1_i (by omega) (by omega) ?_
  rw [Int.toNat_natCast]
  refine lcD_draw (fun acc S' => Src' S r S' ∧ ∃ st : List (Tx × Tx), acc = st.map eP ∧ ∀ p ∈ st, okStem p) _ [] S1 (by simp [rngD]; omega) (fun _ _ _ => trivial) ?_ ?_ ⟨hS, [], rfl, fun c hc => absurd hc (List.not_mem_nil)⟩
  · rintro x hx acc S2 k1 k0 ⟨h1, st, rfl, hc⟩ hk
    simp [bound, bindT, wipeD]
    refine some_i (h1.ok hs) (by omega) (by omega) (by omega) fun w S3 h2 h3 hw h4 => ?_
    refine some_flags_i (h4.ok (h1.ok hs)) (by omega) (by omega) fun fl S4 hfl h5 => ?_
    refine hk _ S4 ⟨(h1.trans h4).trans h5, st ++ [(w, fl)], by simp [eP], fun p hp => ?_⟩
    rcases List.mem_append.mp hp with hp | hp
    · exact hc p hp
    · simp at hp; subst hp; exact ⟨by show 1 ≤ w.length; omega, by show w.length ≤ 3; omega, hw, hfl⟩
  · rintro acc' S2 hl ⟨h1, st, rfl, hst⟩
    simp [rngD] at hl
    simp only [bound, bindT, List.set]
    subst hN
    refine seq_o fun N hN => ?_
    simp
    subst hN
    refine seq_o fun N hN => ?_
    have hs2 := h1.ok hs
    simp
    refine draw_i hs2.app (by omega) (by omega) fun d2 S3 hd2 hS => ?_
    obtain ⟨S3, rfl, hS3⟩ := hS.app hs2.lt
    refine rg1_i (by omega) (by omega) ?_
    rw [Int.toNat_natCast]
    refine forD_rng (fun i ρ S' => ∃ S4 y5 y6 y7, ∃ ps : List T3, Src' S r S4 ∧ ps.length ≤ i ∧ (∀ p ∈ ps, okPref p) ∧ S' = S4 ++ [.lst (List.map e3 ps), .lst (List.map e4 [])] ∧ ρ = [some (.ref r), some (.bl g), some (.lst (st.map eP)), some (.ref S2.length), some (.ref (S2.length + 1)), y5, y6, y7]) ?_ ?_ ⟨S3, _, _, _, [], h1.trans hS3, Nat.zero_le _, fun p hp => absurd hp (List.not_mem_nil), rfl, rfl⟩
    · rintro ρ S' ⟨S4, y5, y6, y7, ps, h4, hpl, hps, rfl, rfl⟩
      refine ⟨trivial, ?_⟩
      dsimp only
      subst hN
      refine seq_o fun N hN => ?_
      have hs4 := h4.ok hs
      simp
      refine draw_i hs4.app (by omega) (by omega) fun d3 S5 hd3 hS => ?_
      obtain ⟨S5, rfl, hS5⟩ := hS.app hs4.lt
      refine rg1_i (by omega) (by omega) ?_
      rw [Int.toNat_natCast]
      refine forD_rng (fun i ρ S' => ∃ S6 y5 y6 y7, ∃ sf : List T4, Src' S r S6 ∧ sf.length = i ∧ (∀ p ∈ sf, okSuf g p) ∧ S' = S6 ++ [.lst (ps.map e3), .lst (List.map e4 sf)] ∧ ρ = [some (.ref r), some (.bl g), some (.lst (st.map eP)), some (.ref S2.length), some (.ref (S2.length + 1)), y5, y6, y7]) ?_ ?_ ⟨S5, _, _, _, [], h4.trans hS5, rfl, fun p hp => absurd hp (List.not_mem_nil), rfl, rfl⟩
      · rintro ρ S' ⟨S6, y5, y6, y7, sf, h6, hfl, hsf, rfl, rfl⟩
        refine ⟨trivial, ?_⟩
        dsimp only
        subst hN
        simp
        have eL : S2.length = S6.length := by rw [h1.len, h6.len]
        refine ssg_i (xs := st) eP_srt rfl (eP_st (by omega)) (eP_sok _) ?_
        simp [bTuple, asL]
        refine ssg_i (xs := ps) e3_srt (by simp [setIt, asL, eL]) (e3_st (by omega)) (e3_sok _) ?_
        simp [bTuple, asL]
        refine ssg_i (xs := sf) e4_srt (by simp [setIt, asL, eL]) (e4_st (by omega)) (e4_sok _) ?_
        simp [bTuple, asL]
        have hL : LawL g ⟨sset eP st, sset e3 ps, sset e4 sf⟩ := ⟨Nat.le_trans (sset_len st) (by omega), Nat.le_trans (sset_len ps) (by omega), Nat.le_trans (sset_len sf) (by omega), fun p hp => hst p (sset_mem.mp hp), fun p hp => hps p (sset_mem.mp hp), fun p hp => hsf p (sset_mem.mp hp), sset_idem eP_srt _, sset_idem e3_srt _, sset_idem e4_srt _⟩
        have := q _ S6 hL h6
        refine RT.src _ h6 ?_ this
        simp [D.ltn, ltnL]
        exact ⟨ltnL_map fun _ _ => rfl, ltnL_map fun _ _ => rfl, ltnL_map fun _ _ => rfl⟩
      · rintro i ρ S' N2 hi hN2 ⟨S6, y5, y6, y7, sf, h6, hfl, hsf, rfl, rfl⟩
        refine ⟨trivial, ?_⟩
        simp only [bound, bindT, List.set]
        have eL : S2.length = S6.length := by rw [h1.len, h6.len]
        rw [eL]
        refine rd_3 (h6.ok hs) (by omega) hsf fun S7 y6 y7 p h7 hp => hN2 _ _ ⟨S7, _, _, _, sf ++ [p], h6.trans h7, by simp [hfl], fun p' hp' => ?_, rfl, by rw [eL]⟩
        rcases List.mem_append.mp hp' with hp' | hp'
        · exact hsf p' hp'
        · simp at hp'; subst hp'; exact hp
    · rintro i ρ S' N2 hi hN2 ⟨S6, y5, y6, y7, ps, h6, hpl, hps, rfl, rfl⟩
      refine ⟨trivial, ?_⟩
      simp only [bound, bindT, List.set]
      have eL : S2.length = S6.length := by rw [h1.len, h6.len]
      rw [eL]
      refine rd_2 (h6.ok hs) (by omega) hps fun S7 y6 y7 ps2 h7 hl2 hp2 => hN2 _ _ ⟨S7, _, _, _, ps2, h6.trans h7, by omega, hp2, rfl, by rw [eL]⟩
theorem law_list_i {S : Sto} {Q : DQ} {E : DXK} {r : Nat} {g : Bool} (hs : SrcOk S r) (q : ∀ L S', LawL g L → Src' S r S' → Q (dL L) S') : sp__law_list [.ref r, .bl g] S Q E := ⟨r, g, rfl, hs, q⟩
end DL

/-! DLh: list(text); text * n. -/
namespace DL
open PySem PySem.Spec L2 TL PySem.W
open PyProof.Rows hiding St
section
variable {X : Cx}
theorem cr_listS (hc : X.calm = true) : CallR X (.type "list") (fun xs H Q => ∃ x : Str, xs = [.str x] ∧ x.cps.size ≤ sizeLine ∧ ∀ l, H l = none → Q (.ref l) (upd H l (.lst (x.cps.toList.map fun c => V.str ⟨#[c]⟩)))) := by
  intro pins s σ H xs us Q I r h
  obtain ⟨x, rfl, hz, q⟩ := h
  obtain ⟨t, rfl⟩ : ∃ t, us = [.str x t] := by
    cases r with
    | cons r1 r2 => cases r2; obtain ⟨t, rfl⟩ := r1; exact ⟨t, rfl⟩
  have hn : H s.heap.objs.size = none := I.hok.fresh (Nat.le_refl _)
  refine call_list_str (I.ok.hd hc) x t (fun h2 tk acc c kp hS hacc => ?_) hz
  have key : ∀ (n : Nat) (cs : List Nat) (vs : List Value), cs.length = n → vs.length = n → (∀ (j : Nat) (v : Value), vs[j]? = some v → ∃ (c : Nat) (u : Tok), cs[j]? = some c ∧ v = .str ⟨#[c]⟩ u) → Vals (cs.map fun c => V.str ⟨#[c]⟩) vs := by
    intro n
    induction n with
    | zero =>
      intro cs vs h1 h2 _
      rw [List.length_eq_zero_iff] at h1 h2
      subst h1 h2
      exact .nil
    | succ n ih =>
      intro cs vs h1 h2 h
      cases cs with
      | nil => simp at h1
      | cons c cs =>
        cases vs with
        | nil => simp at h2
        | cons v vs =>
          refine .cons ?_ (ih cs vs (by simpa using h1) (by simpa using h2) fun j v hv => h (j + 1) v (by simpa using hv))
          obtain ⟨c', u, e1, e2⟩ := h 0 v rfl
          cases e1
          exact ⟨u, e2⟩
  have hv : Vals (x.cps.toList.map fun c => V.str ⟨#[c]⟩) acc.toList := key x.cps.size _ _ (by simp) (by rw [Array.length_toList]; exact hacc.1) fun j v hv => by
    obtain ⟨c, u, e1, e2⟩ := hacc.2 j v (by rw [← Array.getElem?_toList]; exact hv)
    exact ⟨c, u, by rw [Array.getElem?_toList]; exact e1, e2⟩
  refine ⟨.ref s.heap.objs.size, _, I.laid (t' := tk) kp (Nat.le_refl _) (show ObjOk X.prog X.w _ h2 _ (.lst (x.cps.toList.map fun c => V.str ⟨#[c]⟩)) from ⟨by rw [List.length_map, Array.length_toList]; exact hz, acc.toList, c, hv, by simpa using hS⟩), rfl, q _ hn⟩
/-- list(e): of a list, a tuple, a text -/
def lstOf (S : Sto) : D → Option (List D)
  | .str l => if l.length ≤ sizeLine then some (l.map fun c => .str [c]) else none
  | d => seqD S d
theorem lstOf_seq {S : Sto} {d : D} (h : ∀ l, d ≠ .str l) : lstOf S d = seqD S d := by
  cases d with
  | str l => exact absurd rfl (h l)
  | _ => rfl
def bListG : DN := fun ds S Q => match ds with
  | [d] => match lstOf S d with
    | some es => Q (.lst es) S
    | none => False
  | _ => False
theorem b_listG (hc : X.calm = true) : OpN X (.type "list") bListG := ⟨_, call_list_of.or (cr_listS hc), fun H φ S ds xs QD Q ok i h c => by
  unfold bListG at h
  split at h
  · split at h
    · rename_i d _ es ee
      obtain ⟨v, rfl, iv⟩ := i.one
      by_cases hd : ∃ l, d = .str l
      · obtain ⟨l, rfl⟩ := hd
        obtain ⟨rfl, hl⟩ := iv
        simp only [lstOf] at ee
        split at ee
        · rename_i hz
          cases ee
          refine .inr ⟨sx l, rfl, by simpa [sx] using hz, fun q hq => ?_⟩
          have e1 : (sx l).cps.toList.map (fun c => V.str ⟨#[c]⟩) = l.map fun c => V.str (sx [c]) := by simp [sx]
          rw [e1]
          exact c _ _ φ (.lst _) S (ok.fresh hq) (Ext.fresh hq) (.newLst ok hq (isL_of (fun c => D.str [c]) (fun c => V.str (sx [c])) fun c hc' => ⟨rfl, fun z hz => by simp at hz; subst hz; exact hl _ hc'⟩)) h
        · cases ee
      · rw [lstOf_seq fun l e => hd ⟨l, e⟩] at ee
        obtain ⟨a, ys, rfl, h2, h3⟩ := seqD_is ok ee iv
        exact .inl ⟨a, ys, rfl, h2, fun q hq => c _ _ φ (.lst es) S (ok.fresh hq) (Ext.fresh hq) (.newLst ok hq h3) h⟩
    · exact h.elim
  · exact h.elim⟩
/-- c * n -/
def oMulS : D2 := fun d e S Q => match d, e with
  | .str [c], .int n => 1 ≤ n ∧ n ≤ 1000 ∧ Q (.str (List.replicate n.toNat c)) S
  | _, _ => False
theorem rep_fold (c : Nat) : ∀ (k : Nat) (acc : Array Nat), (List.replicate k #[c]).foldl (· ++ ·) acc = acc ++ (List.replicate k c).toArray
  | 0, acc => by simp
  | k + 1, acc => by
    rw [List.replicate_succ, List.foldl_cons, rep_fold c k, List.replicate_succ]
    apply Array.toList_inj.mp
    simp
theorem o_mulS : Op2 X (binaryOp .Mult) oMulS := ⟨fun x y H Q => ∃ (c : Nat) (n : Int), x = .str (sx [c]) ∧ y = .int n ∧ 1 ≤ n ∧ n ≤ 1000 ∧ Q (.str (sx (List.replicate n.toNat c))) H, fun pins s σ H x y v u Q I rx ry h => by
  obtain ⟨c, n, rfl, rfl, h1, h2, q⟩ := h
  obtain ⟨t, rfl⟩ := rx
  obtain ⟨t', rfl⟩ := ry
  have hok : MulOk (sx [c]) n := by
    refine ⟨?_, fun _ _ => ?_, fun _ _ => ?_⟩
    · simp; omega
    · have e : ((sx [c]).length : Int) = 1 := rfl
      rw [e]
      have : 1 ≤ (2 ^ 63 - 1) / n := by
        rw [Int.le_ediv_iff_mul_le (by omega)]
        omega
      omega
    · have e : (sx [c]).length = 1 := rfl
      rw [e]
      show Builtin.Str.tooLong _ = false
      unfold Builtin.Str.tooLong
      simp
      omega
  have em : Txt.mul (sx [c]) n = sx (List.replicate n.toNat c) := by
    unfold Txt.mul
    rw [if_neg (by omega)]
    have e : (sx [c]).length = 1 := rfl
    by_cases hn : n = 1
    · subst hn; rfl
    · rw [if_neg (by simp [hn, e])]
      show (⟨_⟩ : Str) = ⟨_⟩
      have : (sx [c]).cps = #[c] := rfl
      rw [this, rep_fold]
      simp
  refine SB.mul hok fun t2 k => ?_
  rw [em]
  exact ⟨.str _, H, I.tok _, ⟨_, rfl⟩, q⟩, fun H φ S d e x y QD Q ok i1 i2 h c => by
  unfold oMulS at h
  split at h
  · rename_i c' n
    obtain ⟨rfl, hc⟩ := i1
    cases i2
    exact ⟨c', n, rfl, rfl, h.1, h.2.1, c _ H φ (.str _) S ok .refl ⟨rfl, fun z hz => by rw [List.eq_of_mem_replicate hz]; exact hc _ (by simp)⟩ h.2.2⟩
  · exact h.elim⟩
end
end DL

/-! DLw: rising tuples and sorted ones; small data; the lists of the laws are lists; the law's loop over the script. -/
namespace DL
open PySem PySem.Spec L2 TL PySem.W
open PyProof.Rows hiding St
/-! ### rising and sorted -/
theorem ltD_trans {a b c : D} (h1 : ltD a b = true) (h2 : ltD b c = true) : ltD a c = true := lex_trans (O := itemOrd) _ _ _ h1 h2
theorem ltD_asym {a b : D} (h : ltD a b = true) : ltD b a = false := by
  cases h2 : ltD b a with
  | false => rfl
  | true =>
    have := ltD_trans h h2
    rw [ltD_irr] at this
    cases this
theorem risD_pw : ∀ {xs : List D}, risD xs = true → xs.Pairwise fun a b => ltD a b = true
  | [], _ => List.Pairwise.nil
  | [a], _ => List.pairwise_singleton _ _
  | a :: b :: l, h => by
    unfold risD at h
    rw [Bool.and_eq_true] at h
    have ih := risD_pw h.2
    refine List.pairwise_cons.mpr ⟨fun c hc => ?_, ih⟩
    rcases List.mem_cons.mp hc with rfl | hc
    · exact h.1
    · exact ltD_trans h.1 ((List.pairwise_cons.mp ih).1 c hc)
theorem pw_risD : ∀ {xs : List D}, (xs.Pairwise fun a b => ltD a b = true) → risD xs = true
  | [], _ => rfl
  | [a], _ => rfl
  | a :: b :: l, h => by
    unfold risD
    rw [Bool.and_eq_true]
    exact ⟨(List.pairwise_cons.mp h).1 b (by simp), pw_risD (List.pairwise_cons.mp h).2⟩
theorem ris_sset {α : Type} [DecidableEq α] {enc : α → D} (h : SortEnc enc) {ps : List α} : risD (ps.map enc) = true ↔ sset enc ps = ps := by
  constructor
  · intro hr
    have := risD_pw hr
    rw [List.pairwise_map] at this
    refine sset_self h (this.imp fun {a b} z e => ?_) (this.imp fun {a b} z => ltD_asym z)
    subst e
    rw [ltD_irr] at z
    cases z
  · intro e
    have h1 : ps.Nodup := by rw [← e]; exact sset_nodup
    have h2 : (sset enc ps).Pairwise _ := sset_sorted
    rw [e] at h2
    refine pw_risD ?_
    rw [List.pairwise_map]
    refine (h2.and h1).imp fun {a b} ⟨x, y⟩ => ?_
    cases z : ltD (enc a) (enc b) with
    | true => rfl
    | false =>
      have := ltD_anti (h.2 a b) z x
      rw [h.1 a b] at this
      exact absurd (by simpa using this) y
/-! ### _law_parted -/
mutual
theorem sml_mono {N M : Nat} (h : N ≤ M) : ∀ d : D, sml N d = true → sml M d = true
  | .non, _ => rfl
  | .bl _, _ => rfl
  | .int _, _ => rfl
  | .str l, z => by
    simp only [sml, Bool.and_eq_true, decide_eq_true_eq] at z ⊢
    exact ⟨Nat.le_trans z.1 h, z.2⟩
  | .tup ds, z => by
    simp only [sml, Bool.and_eq_true, decide_eq_true_eq] at z ⊢
    exact ⟨Nat.le_trans z.1 h, smls_mono h ds z.2⟩
  | .lst ds, z => by
    simp only [sml, Bool.and_eq_true, decide_eq_true_eq] at z ⊢
    exact ⟨Nat.le_trans z.1 h, smls_mono h ds z.2⟩
  | .ty _, z => by simp [sml] at z
  | .glob _, z => by simp [sml] at z
  | .ref _, z => by simp [sml] at z
  | .dK _ _, z => by simp [sml] at z
  | .dT _ _, z => by simp [sml] at z
theorem smls_mono {N M : Nat} (h : N ≤ M) : ∀ ds : List D, smls N ds = true → smls M ds = true
  | [], _ => rfl
  | d :: ds, z => by
    simp only [smls, Bool.and_eq_true] at z ⊢
    exact ⟨sml_mono h d z.1, smls_mono h ds z.2⟩
end
theorem smls_of {N : Nat} {ds : List D} (h : ∀ d ∈ ds, sml N d = true) : smls N ds = true := by
  rw [smls_all, List.all_eq_true]; exact h
theorem okds_of {n : Nat} {ds : List D} (h : ∀ d ∈ ds, okd n d = true) : okds n ds = true := by
  rw [okds_all, List.all_eq_true]; exact h
def okV (n : Nat) (N : Nat) (d : D) : Prop := okd n d = true ∧ sml N d = true
theorem okV_tup {n N : Nat} {ds : List D} (hl : ds.length ≤ N) (h : ∀ d ∈ ds, okV n N d) : okV (n + 1) N (.tup ds) :=
  ⟨by simp only [okd]; exact okds_of fun d hd => (h d hd).1, by simp only [sml, Bool.and_eq_true, decide_eq_true_eq]; exact ⟨hl, smls_of fun d hd => (h d hd).2⟩⟩
theorem okV_str {n N : Nat} {w : Tx} (hl : w.length ≤ N) (h : ∀ c ∈ w, c < 128) : okV n N (.str w) :=
  ⟨by cases n <;> rfl, by simp only [sml, Bool.and_eq_true, decide_eq_true_eq, List.all_eq_true]; exact ⟨hl, h⟩⟩
theorem okV.up {n N M : Nat} {d : D} (h : okV n N d) (hM : N ≤ M) : okV (n + 1) M d := ⟨okd_up h.1, sml_mono hM d h.2⟩
theorem okV_up8 {m N : Nat} {d : D} (hm : m ≤ 8) (h : okd m d = true) : okd 8 d = true := by
  have : ∀ j, m ≤ j → okd j d = true := by
    intro j hj
    induction j with
    | zero =>
      have : m = 0 := by omega
      subst this; exact h
    | succ j ih =>
      by_cases hj2 : m ≤ j
      · exact okd_up (ih hj2)
      · have : m = j + 1 := by omega
        subst this; exact h
  exact this 8 hm
/-! ### the law -/
theorem abc_ltr {w : Tx} (h : abc w) : w.all ltr = true := by
  rw [List.all_eq_true]
  intro c hc
  rcases h c hc with rfl | rfl | rfl <;> rfl
theorem abc_lets {w : Tx} {lo hi : Int} (h : abc w) (h1 : lo ≤ w.length) (h2 : (w.length : Int) ≤ hi) : isLets (.str w) lo hi = true := by
  show isLet w lo hi = true
  unfold isLet
  rw [abc_ltr h, decide_eq_true h1, decide_eq_true h2]; rfl
theorem okFl_flags {n : Nat} {w : Tx} (hn : n ≤ 4) (h : okFl n w) : isFlags (.str w) = true := by
  show flagsT w = true
  unfold flagsT
  rw [h.2.1, decide_eq_true (p := w.length ≤ 4) (Nat.le_trans h.1 hn)]
  have : w.all fltr = true := by
    rw [List.all_eq_true]
    intro c hc
    rcases h.2.2 c hc with rfl | rfl | rfl | rfl <;> rfl
  rw [this]; rfl
theorem okStem_is {p : Tx × Tx} (h : okStem p) : isStem (eP p) = true := by
  obtain ⟨h1, h2, h3, h4⟩ := h
  show (isLets (.str p.1) 1 8 && isFlags (.str p.2)) = true
  rw [abc_lets h3 (by omega) (by omega), okFl_flags (by omega) h4]; rfl
theorem okPref_is {p : T3} (h : okPref p) : isPref (e3 p) = true := by
  obtain ⟨h1, h2, h3, h4, h5, h6⟩ := h
  show (isFlag (.str p.1) && isLets (.str p.2.1) 0 6 && isLets (.str p.2.2) 0 6 && !eqD (.str p.2.1) (.str p.2.2)) = true
  have hf : isFlag (.str p.1) = true := by rcases h1 with e | e | e <;> rw [e] <;> rfl
  rw [hf, abc_lets h4 (by omega) (by omega), abc_lets h5 (by omega) (by omega), eqD_str, decide_eq_false h6]; rfl
theorem okSuf_is {g : Bool} {p : T4} (h : okSuf g p) : isSuf (e4 p) = true := by
  obtain ⟨h1, h2, h3, h4, h5, h6, h7⟩ := h
  show (isFlag (.str p.1) && isLets (.str p.2.1) 0 6 && isLets (.str p.2.2.1) 0 6 && isFlags (.str p.2.2.2)) = true
  have hf : isFlag (.str p.1) = true := by rcases h1 with e | e | e <;> rw [e] <;> rfl
  rw [hf, abc_lets h5 (by omega) (by omega), abc_lets h6 (by omega) (by omega), okFl_flags (by omega) h7]; rfl
theorem LawL.is {g : Bool} {L : Lists} (h : LawL g L) : isListD (dL L) = true := by
  have a1 : (L.stems.map eP).all isStem = true := by
    rw [List.all_map, List.all_eq_true]; exact fun p hp => okStem_is (h.stem p hp)
  have a2 : (L.prefs.map e3).all isPref = true := by
    rw [List.all_map, List.all_eq_true]; exact fun p hp => okPref_is (h.pref p hp)
  have a3 : (L.sufs.map e4).all isSuf = true := by
    rw [List.all_map, List.all_eq_true]; exact fun p hp => okSuf_is (h.suf p hp)
  simp only [dL, isListD]
  rw [a1, a2, a3, (ris_sset eP_srt).mpr h.ss, (ris_sset e3_srt).mpr h.sp, (ris_sset e4_srt).mpr h.sf]
  have n1 := h.ns
  have n2 := h.np
  have n3 := h.nf
  rw [decide_eq_true (p := (L.stems.map eP).length ≤ 8) (by rw [List.length_map]; omega), decide_eq_true (p := (L.prefs.map e3).length ≤ 3) (by rw [List.length_map]; omega), decide_eq_true (p := (L.sufs.map e4).length ≤ 6) (by rw [List.length_map]; omega)]
  rfl
theorem abc_lt {w : Tx} (h : abc w) : ∀ c ∈ w, c < 128 := fun c hc => by rcases h c hc with rfl | rfl | rfl <;> omega
theorem abxz_lt {w : Tx} (h : abxz w) : ∀ c ∈ w, c < 128 := fun c hc => by rcases h c hc with rfl | rfl | rfl | rfl <;> omega
theorem LawL.ok {g : Bool} {L : Lists} (h : LawL g L) : okV 3 100 (dL L) := by
  have n1 := h.ns
  have n2 := h.np
  have n3 := h.nf
  have one : ∀ w : Tx, (w = [65] ∨ w = [66] ∨ w = [88] ∨ w = [90]) → okV 0 100 (.str w) := fun w hw => by
    rcases hw with rfl | rfl | rfl | rfl <;> exact ⟨rfl, rfl⟩
  refine okV_tup (by simp) fun d hd => ?_
  simp only [List.mem_cons, List.not_mem_nil, or_false] at hd
  rcases hd with rfl | rfl | rfl
  · refine okV_tup (by rw [List.length_map]; omega) fun d hd => ?_
    obtain ⟨p, hp, rfl⟩ := List.mem_map.mp hd
    obtain ⟨h1, h2, h3, h4⟩ := h.stem p hp
    refine okV_tup (by simp) fun d hd => ?_
    simp only [List.mem_cons, List.not_mem_nil, or_false] at hd
    rcases hd with rfl | rfl
    · exact okV_str (by omega) (abc_lt h3)
    · exact okV_str (by have := h4.1; omega) (abxz_lt h4.2.2)
  · refine okV_tup (by rw [List.length_map]; omega) fun d hd => ?_
    obtain ⟨p, hp, rfl⟩ := List.mem_map.mp hd
    obtain ⟨h1, h2, h3, h4, h5, h6⟩ := h.pref p hp
    refine okV_tup (by simp) fun d hd => ?_
    simp only [List.mem_cons, List.not_mem_nil, or_false] at hd
    rcases hd with rfl | rfl | rfl
    · exact one _ (by rcases h1 with e | e | e <;> simp [e])
    · exact okV_str (by omega) (abc_lt h4)
    · exact okV_str (by omega) (abc_lt h5)
  · refine okV_tup (by rw [List.length_map]; omega) fun d hd => ?_
    obtain ⟨p, hp, rfl⟩ := List.mem_map.mp hd
    obtain ⟨h1, h2, h3, h4, h5, h6, h7⟩ := h.suf p hp
    refine okV_tup (by simp) fun d hd => ?_
    simp only [List.mem_cons, List.not_mem_nil, or_false] at hd
    rcases hd with rfl | rfl | rfl | rfl
    · exact one _ (by rcases h1 with e | e | e <;> simp [e])
    · exact okV_str (by omega) (abc_lt h5)
    · exact okV_str (by omega) (abc_lt h6)
    · exact okV_str (by have := h7.1; omega) (abxz_lt h7.2.2)
theorem src_0 {a b : Nat} {T : Sto} (hb : b < 2147483648) : SrcOk (mkS a b :: T) 0 := ⟨a, b, hb, rfl⟩
theorem src_0' {a b : Nat} {T S' : Sto} (h : Src' (mkS a b :: T) 0 S') : ∃ a b, b < 2147483648 ∧ S' = mkS a b :: T := by
  obtain ⟨a, b, hb, rfl⟩ := h
  exact ⟨a, b, hb, rfl⟩
theorem ltn_ints (n : Nat) (ns : List Int) : ltnL n (ns.map D.int) = true := ltnL_map fun _ _ => rfl
theorem Kept.src {a b a' b' : Nat} {T : Sto} : Kept [mkS a b] (mkS a' b' :: T) := fun i m hi h => by
  have : i = 0 := by simpa using hi
  subst this
  cases h
  exact .inr rfl
theorem Kept.nil {S : Sto} : Kept [] S := fun i m hi _ => absurd hi (Nat.not_lt_zero _)
theorem dL_ltn (n : Nat) (L : Lists) : (dL L).ltn n = true := by
  simp only [dL, D.ltn, ltnL]
  rw [ltnL_map (fun p _ => eP_ltn n p), ltnL_map (f := e3) (fun p _ => rfl), ltnL_map (f := e4) (fun p _ => rfl)]; rfl
end DL

/-! DLu: loops over enumerate, over texts' steps; the forms of lists (prefix and suffix steps). -/
namespace DL
open PySem PySem.Spec L2 TL PySem.W
open PyProof.Rows hiding St
theorem forD_enumA {α : Type} (enc : α → D) (I : List α → List α → Env → Sto → Prop) {lv : Sto → Prop} {T : Tg} {tb : DTS} {DD : DEnds}
    (h0 : ∀ pre ρ S, I pre [] ρ S → lv S ∧ DD.nx ρ S)
    (hs : ∀ pre x post ρ S (N : Env → Sto → Prop), (∀ ρ S, I (pre ++ [x]) post ρ S → N ρ S) → I pre (x :: post) ρ S →
      lv S ∧ bound T (.tup [.int (pre.length : Nat), enc x]) ρ fun ρ' => tb { nx := N, rt := DD.rt, bk := DD.nx, ct := N } ρ' S) :
    ∀ (xs pre : List α) (ρ : Env) (S : Sto), I pre xs ρ S → forD lv T tb DD (xs.mapIdx fun i x => D.tup [.int ((pre.length + i : Nat) : Int), enc x]) ρ S
  | [], pre, ρ, S, h => h0 pre ρ S h
  | x :: xs, pre, ρ, S, h => by
    rw [List.mapIdx_cons]
    refine hs pre x xs ρ S _ (fun ρ' S' h' => ?_) h
    have := forD_enumA enc I h0 hs xs (pre ++ [x]) ρ' S' h'
    have e : (fun (i : Nat) (x : α) => D.tup [.int (((pre ++ [x]).length + i : Nat) : Int), enc x]) = fun i x => D.tup [.int ((pre.length + (i + 1) : Nat) : Int), enc x] := by
      funext i y
      rw [List.length_append, List.length_singleton, show pre.length + 1 + i = pre.length + (i + 1) by omega]
    have e2 : (fun (i : Nat) (y : α) => D.tup [.int (((pre ++ [x]).length + i : Nat) : Int), enc y]) = fun i y => D.tup [.int ((pre.length + (i + 1) : Nat) : Int), enc y] := by
      funext i y
      rw [List.length_append, List.length_singleton, show pre.length + 1 + i = pre.length + (i + 1) by omega]
    rw [e2] at this
    exact this
theorem forD_enum {α : Type} (enc : α → D) (I : List α → List α → Env → Sto → Prop) {lv : Sto → Prop} {T : Tg} {tb : DTS} {DD : DEnds}
    (h0 : ∀ pre ρ S, I pre [] ρ S → lv S ∧ DD.nx ρ S)
    (hs : ∀ pre x post ρ S (N : Env → Sto → Prop), (∀ ρ S, I (pre ++ [x]) post ρ S → N ρ S) → I pre (x :: post) ρ S →
      lv S ∧ bound T (.tup [.int (pre.length : Nat), enc x]) ρ fun ρ' => tb { nx := N, rt := DD.rt, bk := DD.nx, ct := N } ρ' S)
    (xs : List α) {ρ : Env} {S : Sto} (h : I [] xs ρ S) : forD lv T tb DD (enD (xs.map enc)) ρ S := by
  have e : enD (xs.map enc) = xs.mapIdx fun i x => D.tup [.int ((([] : List α).length + i : Nat) : Int), enc x] := by
    unfold enD
    apply List.ext_getElem?
    intro i
    rw [List.getElem?_mapIdx, List.getElem?_mapIdx, List.getElem?_map]
    cases xs[i]? <;> simp
  rw [e]
  exact forD_enumA enc I h0 hs xs [] ρ S h

/-! ### steps -/
def hasF (fl G : Tx) : Bool := match fl with
  | [c] => decide (c ∈ G)
  | _ => false
def preF (s : Tx × Tx) (r : T3) : Option (Tx × Tx) := if (hasF r.1 s.2 && stw s.1 r.2.1) = true then some (r.2.2 ++ s.1.drop r.2.1.length, s.2) else none
def preForms (L : Lists) : List (Tx × Tx) := L.stems.flatMap fun s => L.prefs.filterMap (preF s)
def sufF (f : Tx × Tx) (r : T4) : Option (Tx × Tx) := if (hasF r.1 f.2 && edw f.1 r.2.1) = true then some (f.1.take (f.1.length - r.2.1.length) ++ r.2.2.1, r.2.2.2) else none
def sufForms (L : Lists) (f : Tx × Tx) : List (Tx × Tx) := L.sufs.filterMap (sufF f)
/-- lists that are small, with flags of one sign -/
structure SmL (L : Lists) : Prop where
  ns : L.stems.length ≤ 10
  np : L.prefs.length ≤ 10
  nf : L.sufs.length ≤ 10
  st : ∀ p ∈ L.stems, p.1.length ≤ 100
  pf : ∀ p ∈ L.prefs, (∃ c, p.1 = [c]) ∧ p.2.1.length ≤ 100 ∧ p.2.2.length ≤ 100
  sf : ∀ p ∈ L.sufs, (∃ c, p.1 = [c]) ∧ p.2.1.length ≤ 100 ∧ p.2.2.1.length ≤ 100
def ePre (f : (Tx × Tx) × Nat × Nat) : D := .tup [eP f.1, .int f.2.1, .int f.2.2]
def eSf (f : (Tx × Tx) × Nat) : D := .tup [eP f.1, .int f.2]
def sp_prefixed : DSp := fun ds S Q _ => ∃ L, ds = [dL L] ∧ SmL L ∧ ∀ xs : List ((Tx × Tx) × Nat × Nat), xs.map (·.1) = preForms L → Q (.lst (xs.map ePre)) S
def tl_pf : DTS := (sIf (dAnd (dTest (dOp (oInC false) (dVar 6) (dVar 4))) (dTest (dMS (mS1 stw) (dVar 3) (aCons (dVar 7) aNil)))) (sDrop (dML mAppend (dVar 1) (aCons (dTup (aCons (dTup (aCons (dOp oAdd (dVar 8) (dSl (dVar 3) (pSome (dCB bLen (aCons (dVar 7) aNil))) pNone)) (aCons (dVar 4) aNil))) (aCons (dVar 2) (aCons (dVar 5) aNil)))) aNil))) sNext)
def t_prefixed : DTS := (sSeq (sAsg (dLstM aNil) (.nm 1))
  (sSeq (sFor (iEn (aCons (dOp oIx (dVar 0) (dC (.int 0))) aNil)) (.tp [(.nm 2), (.tp [(.nm 3), (.nm 4)])])
    (sFor (iEn (aCons (dOp oIx (dVar 0) (dC (.int 1))) aNil)) (.tp [(.nm 5), (.tp [(.nm 6), (.nm 7), (.nm 8)])]) tl_pf))
  (sRet (dVar 1))))
theorem rd_pf {D' : DEnds} {S : Sto} {x0 : Option D} {i j : Nat} {s : Tx × Tx} {r : T3} {xs : List ((Tx × Tx) × Nat × Nat)} (hl : xs.length ≤ 1000) (hs : s.1.length ≤ 100) (hr : (∃ c, r.1 = [c]) ∧ r.2.1.length ≤ 100 ∧ r.2.2.length ≤ 100)
    (h1 : ∀ f, preF s r = some f → D'.nx [x0, some (.ref S.length), some (.int i), some (.str s.1), some (.str s.2), some (.int j), some (.str r.1), some (.str r.2.1), some (.str r.2.2)] (S ++ [.lst ((xs ++ [(f, i, j)]).map ePre)]))
    (h0 : preF s r = none → D'.nx [x0, some (.ref S.length), some (.int i), some (.str s.1), some (.str s.2), some (.int j), some (.str r.1), some (.str r.2.1), some (.str r.2.2)] (S ++ [.lst (xs.map ePre)])) :
    tl_pf D' [x0, some (.ref S.length), some (.int i), some (.str s.1), some (.str s.2), some (.int j), some (.str r.1), some (.str r.2.1), some (.str r.2.2)] (S ++ [.lst (xs.map ePre)]) := by
  obtain ⟨s1, s2⟩ := s
  obtain ⟨r1, r2, r3⟩ := r
  obtain ⟨⟨c, hc⟩, hr2, hr3⟩ := hr
  have hc : r1 = [c] := hc
  subst hc
  have hs : s1.length ≤ 100 := hs
  have hr2 : r2.length ≤ 100 := hr2
  have hr3 : r3.length ≤ 100 := hr3
  unfold tl_pf
  simp [oInC, isS, mS1]
  by_cases hm : c ∈ s2
  · by_cases hw : stw s1 r2 = true
    · have ef : preF (s1, s2) ([c], r2, r3) = some (r3 ++ s1.drop r2.length, s2) := by simp [preF, hasF, hm, hw]
      have e2 := cutD_from s1 (i := (r2.length : Int)) (by omega)
      rw [Int.toNat_natCast] at e2
      have e1 : asL (S ++ [MO.lst (xs.map ePre)]) (.ref S.length) = some (xs.map ePre) := asL_last _
      simp [hm, hw, e1, bLen, pSome, rSl, e2, oAdd, mAppend]
      refine ⟨by omega, by omega, by omega, by omega, ?_⟩
      have := h1 _ ef
      simpa [ePre, eP] using this
    · have ef : preF (s1, s2) ([c], r2, r3) = none := by simp [preF, hasF, hm, hw]
      simp [hm, hw]
      exact h0 ef
  · have ef : preF (s1, s2) ([c], r2, r3) = none := by simp [preF, hasF, hm]
    simp [hm]
    exact h0 ef
end DL

/-! DLv: prefixed, behind_suffixes. -/
namespace DL
open PySem PySem.Spec L2 TL PySem.W
open PyProof.Rows hiding St
theorem len_fm {α β : Type} {f : α → List β} {n : Nat} : ∀ {l : List α}, (∀ x ∈ l, (f x).length ≤ n) → (l.flatMap f).length ≤ l.length * n
  | [], _ => by simp
  | x :: l, h => by
    rw [List.flatMap_cons, List.length_append, List.length_cons, Nat.succ_mul]
    have h1 := h x List.mem_cons_self
    have h2 := len_fm (l := l) fun y hy => h y (List.mem_cons_of_mem _ hy)
    omega
theorem len_fmap {α β : Type} (f : α → Option β) (l : List α) : (l.filterMap f).length ≤ l.length := List.length_filterMap_le f l
theorem rd_prefixed : ∀ ds S QD, sp_prefixed ds S QD X0 → t_prefixed { nx := fun _ S' => RT S QD .non S', rt := RT S QD } (startD 9 ds) S := by
  rintro ds S QD ⟨L, rfl, hL, q⟩
  refine seq_o fun N hN => ?_
  simp [startD, bound, bindT]
  subst hN
  refine seq_o fun N hN => ?_
  simp [oIx, dL, iEn, bound, bindT]
  refine forD_enum eP (fun pre post ρ S' => ∃ (xs : List ((Tx × Tx) × Nat × Nat)) (x2 x3 x4 x5 x6 x7 x8 : Option D), S' = S ++ [.lst (xs.map ePre)] ∧ pre ++ post = L.stems ∧ xs.map (·.1) = (pre.flatMap fun s => L.prefs.filterMap (preF s)) ∧
    ρ = [some (dL L), some (.ref S.length), x2, x3, x4, x5, x6, x7, x8]) ?_ ?_ L.stems ⟨[], none, none, none, none, none, none, none, rfl, rfl, rfl, rfl⟩
  · rintro pre ρ S' ⟨xs, x2, x3, x4, x5, x6, x7, x8, rfl, hp, hx, rfl⟩
    refine ⟨trivial, ?_⟩
    dsimp only
    subst hN
    simp
    rw [List.append_nil] at hp
    subst hp
    exact RT.frz (ltnL_map fun p _ => rfl) (q xs hx)
  · rintro pre s post ρ S' N2 hN2 ⟨xs, x2, x3, x4, x5, x6, x7, x8, rfl, hp, hx, rfl⟩
    refine ⟨trivial, ?_⟩
    simp only [bound, bindT, bindTs, eP, List.set]
    simp [oIx, dL, iEn]
    refine forD_enum e3 (fun pre2 post2 ρ S' => ∃ (ys : List ((Tx × Tx) × Nat × Nat)) (x5 x6 x7 x8 : Option D), S' = S ++ [.lst (ys.map ePre)] ∧ pre2 ++ post2 = L.prefs ∧ ys.map (·.1) = (pre.flatMap fun s => L.prefs.filterMap (preF s)) ++ pre2.filterMap (preF s) ∧
      ρ = [some (dL L), some (.ref S.length), some (.int (pre.length : Nat)), some (.str s.1), some (.str s.2), x5, x6, x7, x8]) ?_ ?_ L.prefs ⟨xs, _, _, _, _, rfl, rfl, by simpa using hx, rfl⟩
    · rintro pre2 ρ S' ⟨ys, x5, x6, x7, x8, rfl, hp2, hy, rfl⟩
      refine ⟨trivial, hN2 _ _ ⟨ys, _, _, _, _, _, _, _, rfl, by simpa using hp, ?_, rfl⟩⟩
      rw [List.append_nil] at hp2
      subst hp2
      rw [hy]; simp
    · rintro pre2 r post2 ρ S' N3 hN3 ⟨ys, x5, x6, x7, x8, rfl, hp2, hy, rfl⟩
      refine ⟨trivial, ?_⟩
      simp only [bound, bindT, bindTs, e3, List.set]
      have hs := hL.st s (by rw [← hp]; simp)
      have hr := hL.pf r (by rw [← hp2]; simp)
      have hlen : ys.length ≤ 1000 := by
        have e := congrArg List.length hy
        rw [List.length_map, List.length_append] at e
        have h1 := len_fm (l := pre) (f := fun s => L.prefs.filterMap (preF s)) (n := 10) fun x _ => Nat.le_trans (len_fmap _ _) hL.np
        have h2 := len_fmap (preF s) pre2
        have h3 : pre.length ≤ 10 := by have := congrArg List.length hp; have := hL.ns; simp at *; omega
        have h4 : pre2.length ≤ 10 := by have := congrArg List.length hp2; have := hL.np; simp at *; omega
        omega
      refine rd_pf hlen hs hr (fun f hf => ?_) fun hf => ?_
      · exact hN3 _ _ ⟨ys ++ [(f, pre.length, pre2.length)], _, _, _, _, rfl, by simpa using hp2, by rw [List.map_append, hy, List.filterMap_append]; simp [hf], rfl⟩
      · exact hN3 _ _ ⟨ys, _, _, _, _, rfl, by simpa using hp2, by rw [hy, List.filterMap_append]; simp [hf], rfl⟩
/-! ### behind_suffixes -/
def sp_behind_suffixes : DSp := fun ds S Q _ => ∃ L f, ds = [dL L, eP f] ∧ SmL L ∧ f.1.length ≤ 10000 ∧ ∀ xs : List ((Tx × Tx) × Nat), xs.map (·.1) = sufForms L f → Q (.lst (xs.map eSf)) S
def tl_sf : DTS := (sIf (dAnd (dTest (dOp (oInC false) (dVar 6) (dVar 3))) (dTest (dMS (mS1 edw) (dVar 2) (aCons (dVar 7) aNil)))) (sDrop (dML mAppend (dVar 4) (aCons (dTup (aCons (dTup (aCons (dOp oAdd (dSl (dVar 2) pNone (pSome (dOp oSub (dCB bLen (aCons (dVar 2) aNil)) (dCB bLen (aCons (dVar 7) aNil))))) (dVar 8)) (aCons (dVar 9) aNil))) (aCons (dVar 5) aNil))) aNil))) sNext)
def t_behind_suffixes : DTS := (sSeq (sAsg (dVar 1) (.tp [(.nm 2), (.nm 3)]))
  (sSeq (sAsg (dLstM aNil) (.nm 4))
  (sSeq (sFor (iEn (aCons (dOp oIx (dVar 0) (dC (.int 2))) aNil)) (.tp [(.nm 5), (.tp [(.nm 6), (.nm 7), (.nm 8), (.nm 9)])]) tl_sf)
  (sRet (dVar 4)))))
theorem edw_len {a b : Tx} (h : edw a b = true) : b.length ≤ a.length := by
  unfold edw at h
  simp at h
  exact h.1
theorem rd_sf {D' : DEnds} {S : Sto} {x0 x1 : Option D} {j : Nat} {f : Tx × Tx} {r : T4} {xs : List ((Tx × Tx) × Nat)} (hl : xs.length ≤ 1000) (hs : f.1.length ≤ 10000) (hr : (∃ c, r.1 = [c]) ∧ r.2.1.length ≤ 100 ∧ r.2.2.1.length ≤ 100)
    (h1 : ∀ g, sufF f r = some g → D'.nx [x0, x1, some (.str f.1), some (.str f.2), some (.ref S.length), some (.int j), some (.str r.1), some (.str r.2.1), some (.str r.2.2.1), some (.str r.2.2.2)] (S ++ [.lst ((xs ++ [(g, j)]).map eSf)]))
    (h0 : sufF f r = none → D'.nx [x0, x1, some (.str f.1), some (.str f.2), some (.ref S.length), some (.int j), some (.str r.1), some (.str r.2.1), some (.str r.2.2.1), some (.str r.2.2.2)] (S ++ [.lst (xs.map eSf)])) :
    tl_sf D' [x0, x1, some (.str f.1), some (.str f.2), some (.ref S.length), some (.int j), some (.str r.1), some (.str r.2.1), some (.str r.2.2.1), some (.str r.2.2.2)] (S ++ [.lst (xs.map eSf)]) := by
  obtain ⟨s1, s2⟩ := f
  obtain ⟨r1, r2, r3, r4⟩ := r
  obtain ⟨⟨c, hc⟩, hr2, hr3⟩ := hr
  have hc : r1 = [c] := hc
  subst hc
  have hs : s1.length ≤ 10000 := hs
  have hr2 : r2.length ≤ 100 := hr2
  have hr3 : r3.length ≤ 100 := hr3
  unfold tl_sf
  simp [oInC, isS, mS1]
  by_cases hm : c ∈ s2
  · by_cases hw : edw s1 r2 = true
    · have ef : sufF (s1, s2) ([c], r2, r3, r4) = some (s1.take (s1.length - r2.length) ++ r3, r4) := by simp [sufF, hasF, hm, hw]
      have hle := edw_len hw
      have e2 := cutD_to s1 (i := (s1.length : Int) - (r2.length : Int)) (by omega)
      rw [show ((s1.length : Int) - (r2.length : Int)).toNat = s1.length - r2.length by omega] at e2
      have e1 : asL (S ++ [MO.lst (xs.map eSf)]) (.ref S.length) = some (xs.map eSf) := asL_last _
      simp [hm, hw, e1, bLen, oSub, oI, pSome, rSl, e2, oAdd, mAppend]
      refine ⟨by omega, by omega, by omega, by omega, by omega, ?_⟩
      have := h1 _ ef
      simpa [eSf, eP] using this
    · have ef : sufF (s1, s2) ([c], r2, r3, r4) = none := by simp [sufF, hasF, hm, hw]
      simp [hm, hw]
      exact h0 ef
  · have ef : sufF (s1, s2) ([c], r2, r3, r4) = none := by simp [sufF, hasF, hm]
    simp [hm]
    exact h0 ef
theorem rd_behind_suffixes : ∀ ds S QD, sp_behind_suffixes ds S QD X0 → t_behind_suffixes { nx := fun _ S' => RT S QD .non S', rt := RT S QD } (startD 10 ds) S := by
  rintro ds S QD ⟨L, f, rfl, hL, hf, q⟩
  refine seq_o fun N hN => ?_
  simp [startD, eP, bound, bindT, bindTs]
  subst hN
  refine seq_o fun N hN => ?_
  simp [bound, bindT]
  subst hN
  refine seq_o fun N hN => ?_
  simp [oIx, dL, iEn]
  refine forD_enum e4 (fun pre post ρ S' => ∃ (xs : List ((Tx × Tx) × Nat)) (x1 x5 x6 x7 x8 x9 : Option D), S' = S ++ [.lst (xs.map eSf)] ∧ pre ++ post = L.sufs ∧ xs.map (·.1) = pre.filterMap (sufF f) ∧
    ρ = [some (dL L), x1, some (.str f.1), some (.str f.2), some (.ref S.length), x5, x6, x7, x8, x9]) ?_ ?_ L.sufs ⟨[], _, none, none, none, none, none, rfl, rfl, rfl, rfl⟩
  · rintro pre ρ S' ⟨xs, x1, x5, x6, x7, x8, x9, rfl, hp, hx, rfl⟩
    refine ⟨trivial, ?_⟩
    dsimp only
    subst hN
    simp
    rw [List.append_nil] at hp
    subst hp
    exact RT.frz (ltnL_map fun p _ => rfl) (q xs hx)
  · rintro pre r post ρ S' N2 hN2 ⟨xs, x1, x5, x6, x7, x8, x9, rfl, hp, hx, rfl⟩
    refine ⟨trivial, ?_⟩
    simp only [bound, bindT, bindTs, e4, List.set]
    have hr := hL.sf r (by rw [← hp]; simp)
    have hlen : xs.length ≤ 1000 := by
      have e := congrArg List.length hx
      rw [List.length_map] at e
      have h2 := len_fmap (sufF f) pre
      have h4 : pre.length ≤ 10 := by have := congrArg List.length hp; have := hL.nf; simp at *; omega
      omega
    refine rd_sf hlen hf hr (fun g hg => ?_) fun hg => ?_
    · exact hN2 _ _ ⟨xs ++ [(g, pre.length)], _, _, _, _, _, _, rfl, by simpa using hp, by rw [List.map_append, hx, List.filterMap_append]; simp [hg], rfl⟩
    · exact hN2 _ _ ⟨xs, _, _, _, _, _, _, rfl, by simpa using hp, by rw [hx, List.filterMap_append]; simp [hg], rfl⟩
end DL

/-! DLx: zip of a list and a tuple; <= of data; tuple.index; tuples of the module. -/
namespace DL
open PySem PySem.Spec L2 PySem.W
open PyProof.Rows hiding St

/-! ### zip(list, tuple) -/
/-- pairs out of the list at a and the tuple at b -/
def ItzM (K : PySem.W.Frag) (a b : Addr) : It where
  go := fun i H => ∃ (xs ys : List V) (x y : V), SqL K H a xs ∧ SqT K H b ys ∧ xs[i]? = some x ∧ ys[i]? = some y
  yld := fun i H v H' => ∃ T x y, v = .ref T ∧ H T = none ∧ H' = upd H T (.tup [x, y]) ∧ (∀ xs, SqL K H a xs → xs[i]? = some x) ∧ ∀ ys, SqT K H b ys → ys[i]? = some y
  stop := fun i H => ∃ xs ys : List V, SqL K H a xs ∧ SqT K H b ys ∧ (i = xs.length ∧ i ≤ ys.length ∨ i ≤ xs.length ∧ i = ys.length)
theorem om1 (N : Nat) : N + 2 ≠ N + 4 := by omega
theorem om2 (N : Nat) : N + 2 ≠ N + 3 := by omega
theorem om3 (N : Nat) : N + 2 ≠ N := by omega
theorem om4 (N : Nat) : N + 2 ≠ N + 1 := by omega
theorem om5 (N : Nat) : N + 3 ≠ N + 4 := by omega
theorem om6 (N : Nat) : N ≠ N + 4 := by omega
theorem om7 (N : Nat) : N + 1 ≠ N + 4 := by omega
theorem omlt {N c m : Nat} (h : c ∈ [N + 4, N + 2, N + 3, N, N + 1]) (l : N + 4 < m) : c < m := by
  simp only [List.mem_cons, List.not_mem_nil, or_false] at h
  omega
theorem omle {N c : Nat} (h : c ∈ [N + 4, N + 2, N + 3, N, N + 1]) : N ≤ c := by
  simp only [List.mem_cons, List.not_mem_nil, or_false] at h
  omega
theorem turn_zipM {P : Program} {w : World} {K : PySem.W.Frag} {elts : List Expr} {kk : Nat} {tpos : Pos} {N a b : Nat} (ha : a < N) (hb : b < N) :
    Turn P w K (.Tuple elts kk tpos) (ItzM K a b) [N + 4, N + 2, N + 3, N, N + 1] (N + 4) (fun i h => IsZip h (N + 4) (N + 2) (N + 3) .none ∧ IsTupOf2 h (N + 2) (.ref N) (.ref (N + 1)) ∧ (∃ x y, IsTupOf2 h (N + 3) x y) ∧ h.IsListIter N a i ∧ h.IsTupleIter (N + 1) b i) where
  mem := by simp
  obj := fun i h st c hc => by
    obtain ⟨s1, s2, ⟨x, y, s3⟩, ⟨o1, e1, _, d1⟩, ⟨o2, e2, _, d2⟩⟩ := st
    simp only [List.mem_cons, List.not_mem_nil, or_false] at hc
    rcases hc with rfl | rfl | rfl | rfl | rfl
    · exact ⟨_, s1, fun v q => nomatch q⟩
    · exact ⟨_, s2, fun v q => nomatch q⟩
    · exact ⟨_, s3, fun v q => nomatch q⟩
    · exact ⟨o1, e1, fun v q => by rw [d1] at q; cases q⟩
    · exact ⟨o2, e2, fun v q => by rw [d2] at q; cases q⟩
  keep := fun i h h' st k => by
    obtain ⟨s1, s2, ⟨x, y, s3⟩, s4, s5⟩ := st
    exact ⟨k _ (by simp) _ s1, k _ (by simp) _ s2, ⟨x, y, k _ (by simp) _ s3⟩, s4.at fun o q => k N (by simp) o q, s5.at fun o q => k (N + 1) (by simp) o q⟩
  item := by
    intro X hP hw hK hc i pins s σ H E I hf st hg
    subst hP hw hK
    obtain ⟨s1, s2, ⟨x0, y0, s3⟩, s4, s5⟩ := st
    obtain ⟨xs, ys, x, y, qx, qy, hx, hy⟩ := hg
    obtain ⟨its, rv, p, _⟩ := I.list qx
    obtain ⟨its2, rv2, p2, _⟩ := I.tuple qy
    obtain ⟨u, hu, ru⟩ := rv.get hx
    obtain ⟨u2, hu2, ru2⟩ := rv2.get hy
    have hd : X.A.in1.handled = none := I.ok.hd hc
    have D1 := Draws.list (prog := X.prog) (w := X.w) hd N a (Nat.ne_of_lt ha) its.toArray
    have D2 := Draws.tuple (prog := X.prog) (w := X.w) hd (N + 1) b (show (b : Nat) ≠ N + 1 by omega) its2.toArray
    have sp : ZipSep2 (N + 4) (N + 2) (N + 3) N (N + 1) [N, a] [N + 1, b] := zip_sep2 (fun c q => by rw [List.mem_singleton.mp q]; exact ha) (fun c q => by rw [List.mem_singleton.mp q]; exact hb)
    have zl : (N + 4 : Nat) < s.heap.objs.size := Heap.lt_size s1
    have l1 : i < its.toArray.size := by simpa using (List.getElem?_eq_some_iff.mp hu).1
    have l2 : i < its2.toArray.size := by simpa using (List.getElem?_eq_some_iff.mp hu2).1
    refine wpAny_pyNext_zipD2_item sp D1 D2 s1 s2 s3 ⟨s4, p.isList⟩ ⟨s5, p2⟩ l1 l2 fun x1 x2 h' tk g1 g2 z' T' t1 t2 nT hsz hk => ?_
    have g1 : x1 = u := by
      have e : its[i]? = some x1 := by simpa using g1
      rw [hu] at e; exact (Option.some.inj e).symm
    have g2 : x2 = u2 := by
      have e : its2[i]? = some x2 := by simpa using g2
      rw [hu2] at e; exact (Option.some.inj e).symm
    subst g1 g2
    refine ⟨_, rfl, wpAny_letOwnedTupleGo_zip (s := { s with heap := h', toks := tk }) z' fun h'' z'' sb => ?_⟩
    have nT2 : h''.get? s.heap.objs.size = some { cls := .type "tuple", data := .seq #[x1, x2] } := (sb.2 _ (show (_ : Nat) ≠ (_ : Nat) by omega)).trans nT
    have new : ObjOk X.prog X.w (upd H s.heap.objs.size (.tup [x, y])) h'' s.heap.objs.size (.tup [x, y]) :=
      ⟨by show 2 ≤ sizeLine; decide, [x1, x2], .cons ru (.cons ru2 .nil), ⟨_, nT2, rfl, _, rfl⟩⟩
    have I1 : Inv X pins σ (upd H s.heap.objs.size (.tup [x, y])) { s with heap := h'', toks := tk } := by
      refine I.turnedNew (t' := tk) (ch := [N + 4, N + 2, N + 3, N, N + 1]) (fun c o hb q => ?_) hf (Nat.le_refl _) new
      simp only [List.mem_cons, List.not_mem_nil, or_false, not_or] at hb
      exact (sb.2 c hb.1).trans (hk c o hb.1 hb.2.2.1 hb.2.2.2.1 hb.2.2.2.2 q)
    refine ⟨.ref s.heap.objs.size, _, I1, rfl, ⟨_, x, y, rfl, I.hok.fresh (Nat.le_refl _), rfl, fun l hl => by rw [I.list_inj hl qx]; exact hx, fun l hl => by rw [I.tuple_inj hl qy]; exact hy⟩, ⟨z'', ?_, ⟨x1, x2, ?_⟩, ?_, ?_⟩, fun c hcm => ?_⟩
    · exact (sb.2 _ (om1 N)).trans (hk _ _ (om1 N) (om2 N) (om3 N) (om4 N) s2)
    · exact (sb.2 _ (om5 N)).trans T'
    · exact t1.1.at fun o q => (sb.2 _ (om6 N)).trans q
    · exact t2.1.at fun o q => (sb.2 _ (om7 N)).trans q
    · have hlt : c < s.heap.objs.size := omlt hcm zl
      rw [upd_ne (Nat.ne_of_lt hlt)]
      exact (hf c hcm).1
  done := by
    intro X hP hw hK hc i pins s σ H E I hf st hg
    subst hP hw hK
    obtain ⟨s1, s2, ⟨x0, y0, s3⟩, s4, s5⟩ := st
    obtain ⟨xs, ys, qx, qy, hend⟩ := hg
    obtain ⟨its, rv, p, _⟩ := I.list qx
    obtain ⟨its2, rv2, p2, _⟩ := I.tuple qy
    have hd : X.A.in1.handled = none := I.ok.hd hc
    have D1 := Draws.list (prog := X.prog) (w := X.w) hd N a (Nat.ne_of_lt ha) its.toArray
    have D2 := Draws.tuple (prog := X.prog) (w := X.w) hd (N + 1) b (show (b : Nat) ≠ N + 1 by omega) its2.toArray
    have sp : ZipSep2 (N + 4) (N + 2) (N + 3) N (N + 1) [N, a] [N + 1, b] := zip_sep2 (fun c q => by rw [List.mem_singleton.mp q]; exact ha) (fun c q => by rw [List.mem_singleton.mp q]; exact hb)
    have l1 := rv.length
    have l2 := rv2.length
    have z1 : its.toArray.size = xs.length := by simp [l1]
    have z2 : its2.toArray.size = ys.length := by simp [l2]
    refine wpAny_pyNext_zipD2_end sp D1 D2 s1 s2 s3 ⟨s4, p.isList⟩ ⟨s5, p2⟩ (by omega) (by omega) (by omega) fun h' tk hk => ⟨rfl, ?_⟩
    refine I.turnedL (t' := tk) (ch := [N + 4, N + 2, N + 3, N, N + 1]) (fun c o hb q => ?_) hf
    simp only [List.mem_cons, List.not_mem_nil, or_false, not_or] at hb
    exact hk c o hb.1 hb.2.2.1 hb.2.2.2.1 hb.2.2.2.2 q
  self := fun A i s Q E st h => wpAny_pyIter_zip st.1 h
section
variable {X : Cx} {G : GX} {pos p : Pos} {tg e e2 : Expr} {te : DTE} {ta : DTA}
theorem itOk_zipM {K : PySem.W.Frag} {a b : Addr} {ds es : List D} : ItOk K (ItzM K a b) (zipD ds es) (fun H φ => Is K H φ (.lst ds) (.ref a) ∧ Is K H φ (.tup es) (.ref b)) (fun _ => ds.length = es.length) where
  item := fun i d H φ S ok f _ hd => by
    obtain ⟨x, y, hx, hy, rfl⟩ := zipD_get hd
    obtain ⟨⟨_, xs, e1, h1, l1⟩, ⟨_, ys, e2, h2, l2⟩⟩ := f
    cases e1; cases e2
    obtain ⟨u, hu, iu⟩ := l1.get hx
    obtain ⟨v, hv, iv⟩ := l2.get hy
    refine ⟨⟨xs, ys, u, v, h1.sq, h2, hu, hv⟩, fun z H' hz => ?_⟩
    obtain ⟨T, u', v', rfl, nT, rfl, f1, f2⟩ := hz
    have q1 := f1 _ h1.sq
    have q2 := f2 _ h2
    rw [hu] at q1; cases q1
    rw [hv] at q2; cases q2
    exact pair_at ok nT iu iv
  stop := fun H φ S ok f hl => by
    obtain ⟨⟨_, xs, e1, h1, l1⟩, ⟨_, ys, e2, h2, l2⟩⟩ := f
    cases e1; cases e2
    refine ⟨xs, ys, h1.sq, h2, ?_⟩
    unfold zipD
    rw [List.length_zipWith, ← l1.length, ← l2.length]
    omega
def iZipM (ta : DTA) : DTI := fun ρ S R => ta ρ S fun ds S1 => match ds with
  | [.lst a, .tup b] => a.length = b.length ∧ R (zipD a b) (fun _ => a.length = b.length) S1
  | _ => False
theorem di_zipM {elts : List Expr} {kk : Nat} {tpos : Pos} (hm : X.mg "zip" = none) (ha : DA X G [e, e2] ta) (hg : Gl X "zip" := by rfl)
    (hs : starEach [e, e2] X.env = (false, eval e X.env) :: starEach [e2] X.env := by rfl) (hpl : (backTo pos (starEach [e2] X.env)).any (·.1) = false := by rfl) : DI X G (.Tuple elts kk tpos) (.Call (.Name "zip" p) [e, e2] [] pos) (iZipM ta) := by
  refine ⟨fun pins s σ H R I h => ?_⟩
  obtain ⟨φ, ρ, S, RD, r, h, c⟩ := h
  refine Call_ (ld_blt I hg hm PyProof.Rows.boot_zip (PyProof.Rows.callWith_type1 (thn (ha.run pos pins s σ H (fun vs H1 => ∃ φ1 ds S1, StoOk X.K H1 φ1 S1 ∧ Ext φ H φ1 H1 ∧ IsL X.K H1 φ1 ds vs ∧ (match ds with
    | [.lst a, .tup b] => a.length = b.length ∧ RD (zipD a b) (fun _ => a.length = b.length) S1
    | _ => False)) I ⟨φ, ρ, S, _, r, h, fun vs H1 φ1 ds S1 ok1 e1 i1 q1 => ⟨φ1, ds, S1, ok1, e1, i1, q1⟩⟩) fun us s1 ⟨vs, H1, I1, r1, q1⟩ => ?_) hs hpl))
  obtain ⟨φ1, ds, S1, ok1, e1, i1, q1⟩ := q1
  split at q1
  · rename_i da db
    obtain ⟨u, v, rfl, iu, iv⟩ := i1.two
    obtain ⟨a, xs, rfl, h1, l1⟩ := id iu
    obtain ⟨b, ys, rfl, h2, l2⟩ := id iv
    cases r1 with
    | cons ra rr =>
      cases rr with
      | cons rb rr =>
        cases rr
        cases ra
        cases rb
        obtain ⟨its, rv, p1, _⟩ := I1.list h1.sq
        obtain ⟨its2, rv2, p2, _⟩ := I1.tuple h2
        obtain ⟨o2, ho2, _⟩ := id p2
        have fresh5 : ∀ c, c ∈ [s1.heap.objs.size + 4, s1.heap.objs.size + 2, s1.heap.objs.size + 3, s1.heap.objs.size, s1.heap.objs.size + 1] → FpOk X pins H1 c := fun c hcm => by
          have hle : s1.heap.objs.size ≤ c := omle hcm
          exact I1.fpOk hle (I1.hok.fresh hle)
        refine zip_begins2 (begins_list a its.toArray) (begins_tuple b its2.toArray) p1.isList p2 fun h' hz hTI hTO k1 k2 hsz hk => wpAny_pyIter_zip hz ?_
        have I2 : Inv X pins σ H1 { s1 with heap := h' } := I1.kept (t' := s1.toks) hk
        exact ⟨s1.heap.objs.size + 4, _, _, _, H1, rfl, I2, turn_zipM p1.lt (Heap.lt_size ho2), ⟨hz, hTI, ⟨_, _, hTO⟩, ⟨_, k1, rfl, rfl⟩, ⟨_, k2, rfl, rfl⟩⟩, fresh5, c _ H1 φ1 _ _ _ S1 ok1 e1 itOk_zipM stable_and ⟨iu, iv⟩ q1.2⟩
  · exact q1.elim
end
/-! ### a module's tuple -/
/-- the module's name x stands for a tuple of plain data, written by the top -/
def TupAt (K : PySem.W.Frag) (mg : Str → Option Value) (x : Str) (ds : List D) : Prop :=
  ∃ (a : Addr) (o : Obj) (its : Array Value) (n : Nat) (xs : List V), mg x = some (.ref a) ∧ K.lookup a = some o ∧ (o.cls = .type "tuple" ∧ o.dict = none) ∧ o.data = .seq its n ∧ its.size ≤ sizeLine ∧ Vals xs its.toList ∧ ∀ H φ, IsL K H φ ds xs
section
variable {X : Cx} {G : GX} {pos apos cpos : Pos} {e o : Expr} {es : List Expr} {te to : DTE} {ta : DTA}
theorem de_globT {x : Str} {ds : List D} (T : TupAt X.K X.mg x ds) (hg : Gl X x := by rfl) (hd : (x == ("__debug__" : Str)) = false := by decide) : DE X G (.Name x pos) (dC (.tup ds)) := by
  obtain ⟨a, o, its, n, xs, h1, h2, h3, h4, h5, h6, h7⟩ := T
  exact de_glob (v := .ref a) hg h1 rfl (fun H φ => ⟨a, xs, rfl, .inr ⟨o, its, n, h2, h3.1, h4, h5, h6⟩, h7 H φ⟩) hd
/-- KINDS.index(word) -/
def txL : List D → Option (List Tx)
  | [] => some []
  | .str l :: ds => (txL ds).map (l :: ·)
  | _ :: _ => none
def mIndexG (ds : List D) (ta : DTA) : DTE := fun ρ S Q => ta ρ S fun es S1 => match txL ds, es with
  | some ls, [.str l] => match ls.idxOf? l with
    | some j => Q (.int (j : Nat)) S1
    | none => False
  | _, _ => False
theorem txL_is {K : PySem.W.Frag} {H : Hp} {φ : Phi} : ∀ {ds : List D} {ls : List Tx} {xs : List V}, txL ds = some ls → IsL K H φ ds xs → xs = (ls.map sx).map V.str
  | [], ls, xs, h, i => by cases h; cases i; rfl
  | .str l :: ds, ls, xs, h, i => by
    obtain ⟨x, r, rfl, h1, h2⟩ := i
    obtain ⟨rfl, _⟩ := h1
    simp only [txL, Option.map_eq_some_iff] at h
    obtain ⟨ms, h, rfl⟩ := h
    rw [txL_is h h2]
    rfl
  | .non :: _, _, _, h, _ => by simp [txL] at h
  | .bl _ :: _, _, _, h, _ => by simp [txL] at h
  | .int _ :: _, _, _, h, _ => by simp [txL] at h
  | .ty _ :: _, _, _, h, _ => by simp [txL] at h
  | .glob _ :: _, _, _, h, _ => by simp [txL] at h
  | .ref _ :: _, _, _, h, _ => by simp [txL] at h
  | .tup _ :: _, _, _, h, _ => by simp [txL] at h
  | .lst _ :: _, _, _, h, _ => by simp [txL] at h
  | .dK _ _ :: _, _, _, h, _ => by simp [txL] at h
  | .dT _ _ :: _, _, _, h, _ => by simp [txL] at h
theorem de_index {x : Str} {ds : List D} (T : TupAt X.K X.mg x ds) {p : Pos} (ha : DA X G [e] ta) (hg : Gl X x := by rfl) (hd : (x == ("__debug__" : Str)) = false := by decide)
    (hbase : attributeBase (.Name x p) "index" X.env (eval (.Name x p) X.env) = eval (.Name x p) X.env := by rfl)
    (hfew : ((backTo cpos (starEach [e] X.env)).all (fun x => !x.1) && (backToKw cpos (keywordEach [] X.env)).all (fun x => x.1.isSome)
      && decide ([e].length + ([] : List Keyword).length + (if ([] : List Keyword).isEmpty then 0 else 1) < 30)) = true := by rfl)
    (hline : (apos.endLine == cpos.line) = true := by rfl) (hs : starEach [e] X.env = (false, eval e X.env) :: starEach [] X.env := by rfl) (hplain : (backTo cpos (starEach [] X.env)).any (·.1) = false := by rfl) :
    DE X G (.Call (.Attribute (.Name x p) "index" apos) [e] [] cpos) (mIndexG ds ta) := by
  obtain ⟨a, o, its, n, xs, h1, h2, h3, h4, h5, h6, h7⟩ := T
  refine (pe_bm PySem.F.plainAttrs_tuple PySem.F.slot_tuple_index (by with_unfolding_all rfl) mt_tup_index (pe_glob (v := .ref a) hg h1 rfl hd) ha hbase hfew hline hs hplain).weak fun σ H Q ⟨φ, ρ, S, QD, R, h, c⟩ => ?_
  refine ⟨.inr (.inl ⟨rfl, o, h2, h3⟩), φ, ρ, S, _, R, h, fun vs H1 φ1 ds1 S1 ok1 e1 i1 q1 => ?_⟩
  split at q1
  · rename_i ls l hls
    obtain ⟨v, rfl, rfl, hc⟩ := i1.one
    split at q1
    · rename_i j hj
      have ex := txL_is hls (h7 H1 φ1)
      rw [List.idxOf?_eq_some_iff] at hj
      obtain ⟨z1, z2, z3⟩ := hj
      refine ⟨a, ls.map sx, sx l, j, rfl, rfl, .inr ⟨o, its, n, h2, h3.1, h4, h5, by rw [← ex]; exact h6⟩, by simp [z1, z2], fun m hm em => ?_, c _ H1 φ1 (.int _) S1 ok1 e1 rfl q1⟩
      have hlt : m < ls.length := by omega
      rw [List.getElem?_map, List.getElem?_eq_getElem hlt] at em
      have := sx_inj (Option.some.inj em)
      exact z3 m hm this
    · exact q1.elim
  · exact q1.elim
end
section
variable {X : Cx}
/-- d <= e, tuples of plain data -/
def oLeT : D2 := fun d e S Q => okd 8 d = true ∧ okd 8 e = true ∧ alike (toP d) (toP e) = true ∧ toP d ≠ .none ∧ Q (.bl (!ltD e d)) S
theorem op_leD (hu : X.A.units + 65 < cLine) : OpR X (compareOp .LtE) (fun x y H Q => ∃ d e, Dp X.K H x d ∧ Dp X.K H y e ∧ alike d e = true ∧ d ≠ .none ∧ d.depth ≤ 8 ∧ Q (.bl (!dataLt e d)) H) := by
  intro pins s σ H x y v u Q I rx ry h
  obtain ⟨d, e, hd, he, ha, hn, hz, q⟩ := h
  obtain ⟨as, r1⟩ := Dp.reads I d x v hd rx
  obtain ⟨bs, r2⟩ := Dp.reads I e y u he ry
  exact le_data r1 r2 ha hn (by have := Nat.min_le_left d.depth e.depth; omega) ⟨.bl _, H, I, rfl, q⟩
theorem o_leT (hu : X.A.units + 65 < cLine) : Op2 X (compareOp .LtE) oLeT := ⟨_, op_leD hu, fun H φ S d e x y QD Q ok i1 i2 h c => by
  obtain ⟨h1, h2, h3, h4, q⟩ := h
  have z1 := okd_dp 8 d x h1 i1
  have z2 := okd_dp 8 e y h2 i2
  exact ⟨_, _, z1.1, z2.1, h3, h4, z1.2.2, c _ H φ (.bl _) S ok .refl rfl q⟩⟩
end
end DL

/-! DLy: repr of tuples of texts, where nothing is being shown (the law's own frame); a law's promise at its own caller alone. -/
namespace DL
open PySem PySem.Spec L2 PySem.W
open PyProof.Rows hiding St
section
variable {X : Cx} {G : GX} {pos : Pos}
/-- repr(v), v a tuple that reads as d -/
def rRepr (X : Cx) : List V → Hp → VK → Prop := fun xs H Q => ∃ a d, xs = [.ref a] ∧ Dp X.K H (.ref a) d ∧ d.canLay0 = true ∧ d.depth ≤ 8 ∧ d.showable = true ∧ d.shown.length ≤ sizeLine ∧ Q (.str d.shown) H
theorem call_reprD (hg : X.A.guards = some []) (hu : X.A.units + 65 < cLine) : CallR X (.builtin "repr") (rRepr X) := by
  intro pins s σ H xs us Q I rs h
  obtain ⟨a, d, rfl, hd, hl, hz, hs, hn, q⟩ := h
  cases rs with
  | cons r1 r2 =>
    cases r2
    obtain ⟨as, r⟩ := Dp.reads I d _ _ hd r1
    cases r1
    exact repr_of_reads' r hs (PyData.noDict_hsm (PyData.hasDict_of_canLay d hl)) hg (by omega) (fun _ _ e => e)
      (fun h' u tk hk => ⟨.str d.shown, H, I.kept (t' := tk) hk, ⟨u, rfl⟩, q⟩) hn
/-- repr(a) != repr(b) of one and the same data -/
def dReprNe (ta tb : DTE) : DTT := fun ρ S Q => ta ρ S fun d S1 => (∃ ds, d = .tup ds) ∧ okd 8 d = true ∧ (toP d).showable = true ∧ (toP d).shown.length ≤ sizeLine ∧ tb ρ S1 fun e S2 => e = d ∧ Q false S2
theorem dt_reprNe {a b : Expr} {ta tb : DTE} {p1 q1 p2 q2 : Pos} (hgd : X.A.guards = some []) (hu : X.A.units + 65 < cLine) (hm : X.mg "repr" = none) (ha : DE X G a ta) (hb : DE X G b tb) (hg : Gl X "repr" := by rfl)
    (h1 : starEach [a] X.env = (false, eval a X.env) :: starEach [] X.env := by rfl) (h2 : starEach [b] X.env = (false, eval b X.env) :: starEach [] X.env := by rfl)
    (hp : (backTo q1 (starEach [] X.env)).any (·.1) = false := by rfl) (hp2 : (backTo q2 (starEach [] X.env)).any (·.1) = false := by rfl)
    (hn : behindInMarks .NotEq (.Call (.Name "repr" p2) [b] [] q2) = false := by first | exact nobehind _ (by decide) (by decide) | rfl) :
    DT X G (.Compare (.Call (.Name "repr" p1) [a] [] q1) [.NotEq] [.Call (.Name "repr" p2) [b] [] q2] pos) (dReprNe ta tb) := by
  have c1 := pe_callB (p := p1) (pos := q1) (call_reprD hgd hu) hg hm boot_repr (pa_cons ha pa_nil h1) (by decide) (by decide) h1 hp
  have c2 := pe_callB (p := p2) (pos := q2) (call_reprD hgd hu) hg hm boot_repr (pa_cons hb pa_nil h2) (by decide) (by decide) h2 hp2
  refine (pt_cmpR op_ne c1 c2 hn).weak fun σ H Q h => ?_
  obtain ⟨φ, ρ, S, QD, r, h, c⟩ := h
  refine ⟨φ, ρ, S, _, r, h, fun v H1 φ1 d S1 ok1 e1 i1 q1 => ?_⟩
  obtain ⟨⟨ds, rfl⟩, hk, hs, hl, q1⟩ := q1
  obtain ⟨d1, d2, d3⟩ := okd_dp 8 _ v hk i1
  have iv := i1
  obtain ⟨av, xs, rfl, _⟩ := i1
  refine ⟨av, _, rfl, d1, d2, d3, hs, hl, ?_⟩
  refine ⟨φ1, ρ, S1, _, r.ext ok1 e1, q1, fun u H2 φ2 e S2 ok2 e2 i2 q2 => ?_⟩
  obtain ⟨rfl, q2⟩ := q2
  obtain ⟨f1, f2, f3⟩ := okd_dp 8 _ u hk i2
  obtain ⟨au, ys, rfl, _⟩ := i2
  refine ⟨au, _, rfl, f1, f2, f3, hs, hl, ?_⟩
  exact ⟨rfl, _, rfl, by simpa using c false H2 φ2 S2 ok2 (e1.trans e2) q2⟩

/-! ### how long a text repr gives -/
mutual
def shN : D → Nat
  | .str l => 10 * l.length + 2
  | .tup ds => shNs ds + 2
  | _ => 0
def shNs : List D → Nat
  | [] => 0
  | d :: ds => shN d + 2 + shNs ds
end
mutual
def plT : D → Bool
  | .str l => l.all (· < 1114112)
  | .tup ds => plTs ds
  | _ => false
def plTs : List D → Bool
  | [] => true
  | d :: ds => plT d && plTs ds
end
mutual
theorem shown_len : ∀ d : D, plT d = true → (toP d).shown.length ≤ shN d
  | .str l, h => by
    have := StrLaws.reprText_len (sx l) (fun c hc => by
      have := List.all_eq_true.mp (show l.all (· < 1114112) = true from h) c (by simpa [sx] using hc)
      have := of_decide_eq_true this
      omega)
    rw [sx_len] at this
    simpa only [toP, PyData.shown, shN] using (by omega : _)
  | .tup ds, h => by
    have h1 := fmt_text (PyData.shownAll (toPs ds))
    have h2 := shown_lens ds (by simpa only [plT] using h)
    simp only [toP, PyData.shown, shN]
    omega
  | .non, h => by simp [plT] at h
  | .bl _, h => by simp [plT] at h
  | .int _, h => by simp [plT] at h
  | .ty _, h => by simp [plT] at h
  | .glob _, h => by simp [plT] at h
  | .ref _, h => by simp [plT] at h
  | .lst _, h => by simp [plT] at h
  | .dK _ _, h => by simp [plT] at h
  | .dT _ _, h => by simp [plT] at h
theorem shown_lens : ∀ ds : List D, plTs ds = true → piled (PyData.shownAll (toPs ds)) ≤ shNs ds
  | [], _ => by simp [toPs, PyData.shownAll, piled]
  | d :: ds, h => by
    simp only [plTs, Bool.and_eq_true] at h
    have h1 := shown_len d h.1
    have h2 := shown_lens ds h.2
    simp only [toPs, PyData.shownAll, piled_cons, shNs]
    omega
end
mutual
theorem shown_able : ∀ d : D, plT d = true → (toP d).showable = true
  | .str l, h => rfl
  | .tup ds, h => by
    simp only [toP, PyData.showable]
    exact shown_ables ds (by simpa only [plT] using h)
  | .non, h => by simp [plT] at h
  | .bl _, h => by simp [plT] at h
  | .int _, h => by simp [plT] at h
  | .ty _, h => by simp [plT] at h
  | .glob _, h => by simp [plT] at h
  | .ref _, h => by simp [plT] at h
  | .lst _, h => by simp [plT] at h
  | .dK _ _, h => by simp [plT] at h
  | .dT _ _, h => by simp [plT] at h
theorem shown_ables : ∀ ds : List D, plTs ds = true → PyData.showableAll (toPs ds) = true
  | [], _ => rfl
  | d :: ds, h => by
    simp only [plTs, Bool.and_eq_true] at h
    simp only [toPs, PyData.showableAll, Bool.and_eq_true]
    exact ⟨shown_able d h.1, shown_ables ds h.2⟩
end
end
/-! ### a def run once, by its caller A alone -/
/-- what a def promises at a call out of A -/
def RunsAt (P : Program) (w : World) (K : PySem.W.Frag) (mg : Str → Option Value) (base : Heap) (A : Around) (f : Addr) (fd : FuncData) (ps : List Str) (sp : DSp) : Prop :=
  ∀ (s : Shared) (H : Hp) (gs : Args) (us : List Value) (vs : List V) (Q : VK), Env0 P w K mg base A [] s H → BindsTo s fd gs (ps.zip us) → Vals vs us → liftSp K sp vs H Q E0 →
    codeAny (model P w) A (.call (.ref f) gs) (CR CX0 [] P w H s Q E0) s
theorem dfnAt {P : Program} {w : World} {K : PySem.W.Frag} {mg : Str → Option Value} {base : Heap} {x qual : Str} {st : Stmt} {f : Addr} {fd : FuncData} {N ps : List Str} {k n : Nat} {sp : DSp} {A : Around} (F : Fun K x qual st f fd) (Sc : FnScope N ps (defScope st)) (hn : N.length = n)
    (len : ∀ ds S Q X, sp ds S Q X → ds.length = ps.length) (hr : Room (k + 1) A)
    (body : ∀ (cdv : Value) (s : Shared) (H : Hp), Room k (A.deeper (envOfC qual (defScope st) s.heap.objs.size f cdv)) → ∃ t, DSs (cxOf CX0 P w K mg base N qual (defScope st) f cdv A [] s H E0).nox GX.tt (defBody st) t ∧
      ∀ ds S QD, sp ds S QD X0 → t { nx := fun _ S' => RT S QD .non S', rt := RT S QD } (startD n ds) S) (sx : ∀ ds S QD XD, sp ds S QD XD → sp ds S QD X0) : RunsAt P w K mg base A f fd ps sp := by
  intro s H gs us vs Q e0 hb rv hsp
  obtain ⟨φ, ds, S, QD, XD, ok, il, hq, cq, _⟩ := hsp
  obtain ⟨oc, od, kV, doc, pm, an, cdv, ct, osl, rfl, lk, hcd⟩ := F.ex
  have el : vs.length = ps.length := il.length.symm.trans (len _ _ _ _ hq)
  have stands := fun (b : Addr) (o : Obj) (e : base.get? b = some o) => (e0.bs b o e).1
  have inK : K.In s.heap := e0.mod.kin.keeps stands
  have noL := e0.mod.nolimit.keeps stands
  refine codeAny_call_function hr.depth (inK f _ lk) rfl Sc.co Sc.gen rfl (codeRec_of inK hcd) (hb _ _ _ _ ?_)
  have kinds : ∀ y ∈ ps.zip us, (defScope st).names.lookup y.1 = some .local ∨ ((defScope st).names.lookup y.1 = some .cell ∧ ((cellsFrom (s.heap.objs.size + 1) (defScope st).names []).lookup y.1).isSome = true) := by
    rintro ⟨nm, v⟩ hy
    have := Sc.par nm (List.of_mem_zip hy).1
    rcases this with z | z
    · exact Or.inl z
    · exact Or.inr ⟨z, cellsFrom_some _ _ _ (Or.inl z)⟩
  refine wpAny_newFunctionEnv_cells Sc.kind kinds fun env ee s1 ic => ?_
  cases ee
  refine ⟨noL.keeps ic.toInCall.keep, codeAny_func ?_⟩
  obtain ⟨t, ht, hw⟩ := body cdv s H (hr.deeper _)
  have iv := inv_start (CX := CX0) (E := E0) Sc hr.hd e0 el rv ic
  have wish : liftS K GX.tt t { nx := fun _ H' => Q .non H', rt := Q } (start N vs) H := by
    refine ⟨φ, startD n ds, S, _, hn ▸ rel_start ok il trivial, hw ds S QD (sx _ _ _ _ hq), ⟨?_, cq.rt ok, fun _ _ _ _ _ _ _ z => z.elim, fun _ _ _ _ _ _ _ z => z.elim⟩⟩
    intro σ' H' φ' ρ' S' r' e' q'
    exact (cq.rt ok) .non H' φ' .non S' r'.sto e' rfl q'
  refine wpAny_mono ((PSs.nox ht).run [] s1 (start N vs) H _ iv wish) (fun fl s' hs => ?_) (fun _ _ z => z)
  cases fl
  case ret u =>
    obtain ⟨v, σ', H', J, ru, q⟩ := hs
    exact ⟨v, H', J.os, J.bare, J.base, J.hok, ru, q⟩
  case next =>
    obtain ⟨σ', H', J, q⟩ := hs
    exact ⟨.non, H', J.os, J.bare, J.base, J.hok, rfl, q⟩
  case brk => obtain ⟨_, _, _, q⟩ := hs; exact q.elim
  case cont => obtain ⟨_, _, _, q⟩ := hs; exact q.elim
section
variable {P : Program} {w : World} {K : PySem.W.Frag} {mg mb : Str → Option Value} {k : Nat} {fa a : Addr} {fd : FuncData} {x : Str} {sp : DSp} {st : Shared} {vs : List Value} {ns : List Int}
/-- how the law's call ends -/
abbrev Good (st : Shared) (r : Result) (s' : Shared) : Prop := r = .ok (.ret (.bool true)) ∧ OldK st.heap s'.heap ∧ s'.os = st.os ∧ AllBare s'.gens
theorem law_from {H : Hp} (KX : K.In st.heap) (gn : st.heap.Ns mainGlobals mg) (bn : st.heap.Ns builtinsNs mb) (bb : ∀ y : Str, y ≠ "__name__" → mb y = bootBuiltins y) (nl : st.heap.NoLimit) (ng : st.gens = #[])
    (ha : st.heap.get? a = some { cls := .type "list", data := .seq vs.toArray })
    (R : ∀ base : Heap, K.In base → base.Ns mainGlobals mg → RunsAt P w K mg base callerA fa fd [x] sp) (bd : ∀ (s : Shared) (u : Value), BindsTo s fd ⟨[u], []⟩ [(x, u)])
    (hsp : liftSp K sp [.ref a] H (fun v _ => v = .bl true) E0) (on : Only H) (ok : HOk P w H st.heap) (one : ∀ b, H b ≠ none → b = a) (noK : H a ≠ none → K.lookup a = none) :
    codeAny (model P w) callerA (.call (.ref fa) ⟨[.ref a], []⟩) (Good st) st := by
  have free : ∀ b, b ≠ a → H b = none := fun b hb => Classical.byContradiction fun z => hb (one b z)
  have dct : ∀ {b : Addr} {o : Obj} {es : Array DictEntry} {ep : Nat}, st.heap.get? b = some o → o.data = .dict es ep → b ≠ a := by
    intro b o es ep e d z
    subst z
    rw [ha] at e
    cases e
    exact nomatch d
  have nsH : ∀ {b : Addr} {m : Str → Option Value}, st.heap.Ns b m → (hidT st.heap H).Ns b m := by
    intro b m h
    obtain ⟨o, es, ep, e, d, r⟩ := h
    exact ⟨o, es, ep, hidT_get e (free b (dct e d)), d, r⟩
  have kH : K.In (hidT st.heap H) := by
    intro b o e
    refine hidT_get (KX b o e) (Classical.byContradiction fun z => ?_)
    obtain rfl := one b z
    rw [noK z] at e
    cases e
  obtain ⟨mc, l1, l2⟩ := nl
  have md : Mod K mg (hidT st.heap H) := ⟨kH, nsH gn, ⟨mb, nsH bn, bb⟩, ⟨mc, nsH l1, l2⟩⟩
  have ev : Env0 P w K mg (hidT st.heap H) callerA [] st H := by
    refine ⟨rfl, md, fun _ _ e => of_hidT e, Nat.le_of_eq (hidT_size _ _), trivial, fun b z => ?_, ok, .of_eq ng⟩
    exact absurd (show b ∈ ([] : List Addr) from z) (by simp)
  refine codeAny_mono (R _ kH (nsH gn) st H ⟨[.ref a], []⟩ [.ref a] [.ref a] _ ev (bd st _) (.cons rfl .nil) hsp) fun r s' h => ?_
  rcases r with e | fl
  · exact (show False from h).elim
  · cases fl
    case next => exact (show False from h).elim
    case brk => exact (show False from h).elim
    case cont => exact (show False from h).elim
    case ret u =>
      obtain ⟨v, H', os, bare, un, ok', rv, q⟩ := h
      have q1 : v = .bl true := q
      subst q1
      cases (show u = Value.bool true from rv)
      refine ⟨rfl, OldK.of_keep fun b o e => ?_, os, bare⟩
      rcases on b with z | ⟨ob, ys, z⟩
      · exact un.keep b o e z (fun y => absurd (show b ∈ ([] : List Addr) from y) (by simp)) (by simp)
      · have h1 := (ok b _ z).1
        have h2 := (ok' b _ (un.frzs b ob _ z)).1
        rw [e] at h1
        cases h1
        exact h2
theorem law_at (KX : K.In st.heap) (gn : st.heap.Ns mainGlobals mg) (bn : st.heap.Ns builtinsNs mb) (bb : ∀ y : Str, y ≠ "__name__" → mb y = bootBuiltins y) (nl : st.heap.NoLimit) (ng : st.gens = #[])
    (ha : st.heap.get? a = some { cls := .type "list", data := .seq vs.toArray }) (iv : IntsAre vs ns) (hl : ns.length ≤ sizeLine)
    (R : ∀ base : Heap, K.In base → base.Ns mainGlobals mg → RunsAt P w K mg base callerA fa fd [x] sp) (bd : ∀ (s : Shared) (u : Value), BindsTo s fd ⟨[u], []⟩ [(x, u)])
    (hsp : ∀ H : Hp, Only H → SqL K H a (ns.map V.int) → liftSp K sp [.ref a] H (fun v _ => v = .bl true) E0) :
    codeAny (model P w) callerA (.call (.ref fa) ⟨[.ref a], []⟩) (Good st) st := by
  have rv := vals_ints iv
  have ln := iv.length
  rcases hk : K.lookup a with _ | o
  · -- the script is watched, and known to its object
    let H : Hp := fun b => if b = a then some (.frz { cls := .type "list", data := .seq vs.toArray } (.lst (ns.map V.int))) else none
    have at' : H a = some (.frz { cls := .type "list", data := .seq vs.toArray } (.lst (ns.map V.int))) := if_pos rfl
    have off : ∀ b, b ≠ a → H b = none := fun b z => if_neg z
    have on : Only H := fun b => (Classical.em (b = a)).elim (fun z => .inr ⟨_, _, (congrArg H z).trans at'⟩) fun z => .inl (off b z)
    refine law_from (H := H) KX gn bn bb nl ng ha R bd (hsp H on (.inl (.inr ⟨_, at'⟩))) on (fun b u z => ?_) (fun b z => Classical.byContradiction fun y => z (off b y)) fun _ => hk
    by_cases y : b = a
    · subst y
      rw [at'] at z
      cases z
      exact ⟨ha, by rw [List.length_map]; exact hl, vs, _, rv, ha⟩
    · rw [off b y] at z
      cases z
  · -- it is the module's own
    have e := KX a o hk
    rw [ha] at e
    cases e
    have on : Only (fun _ => none) := fun _ => .inl rfl
    have sq : SqL K (fun _ => none) a (ns.map V.int) := .inr ⟨_, vs.toArray, _, hk, rfl, rfl, rfl, by rw [List.size_toArray, ln]; exact hl, by simpa using rv⟩
    exact law_from (H := fun _ => none) KX gn bn bb nl ng ha R bd (hsp _ on sq) on (fun b u z => nomatch (show (none : Option HO) = some u from z)) (fun b z => absurd rfl z) fun z => absurd rfl z
end
/-- the walk's end out of a law that is run at its own caller -/
theorem walk_at {l : PySem.W.OpenLaw} {n : Nat} {q : Program} {loose : List Str} {XP : (Str → Option Value) → Heap → Prop} {YP : World → Heap → Prop} {d : DefRec} {K : Params → PySem.W.Frag} {sp : DSp} {x : Str}
    (hm : l.most = some n) (hs : n ≤ sizeLine) (nd : d.params.defaults = []) (kin : ∀ (w : World) (h : Heap), YP w h → (K w.params).In h)
    (F : ∀ (w : World) (mg : Str → Option Value) (fa : Addr) (h : Heap), (K w.params).In h → h.Ns mainGlobals mg → mg d.name = some (.ref fa) →
      ∃ fd : FuncData, (∀ (s : Shared) (u : Value), BindsTo s fd ⟨[u], []⟩ [(x, u)]) ∧ ∀ base : Heap, (K w.params).In base → base.Ns mainGlobals mg → RunsAt l.prog w (K w.params) mg base callerA fa fd [x] sp)
    (hsp : ∀ (w : World) (H : Hp) (a : Addr) (ns : List Int), ns.length ≤ n → Only H → SqL (K w.params) H a (ns.map V.int) → liftSp (K w.params) sp [.ref a] H (fun v _ => v = .bl true) E0) :
    WalkO q loose XP YP l.row.toRowW d [] (fun f vs => PySem.call f vs) :=
  Att.attach_call hm nd fun w s0 st mg mb fa o pm cd doc a vs ns G Y ho hd hcd hmg hobj hints hlen hg => by
    obtain ⟨fd, bd, R⟩ := F w mg fa _ (kin w _ Y) G.T.g hmg
    exact law_at (kin w _ Y) G.T.g G.T.b G.T.builtins G.T.nolimit hg hobj hints (Nat.le_trans hlen hs) R bd fun H on sq => hsp w H a ns hlen on sq
end DL

/-! DLz: in a tuple of texts; the lines of texts of lists (entry_in). -/
namespace DL
open PySem PySem.Spec L2 TL PySem.W
open PyProof.Rows hiding St
section
variable {X : Cx}
def oInT (neg : Bool) : D2 := fun d e S Q => match d, e with
  | .str l, .tup ds => match txL ds with
    | some ls => Q (.bl (if neg then !decide (l ∈ ls) else decide (l ∈ ls))) S
    | none => False
  | _, _ => False
theorem inV_tx (l : Tx) : ∀ ls : List Tx, inV (.str (sx l)) ((ls.map sx).map V.str) = decide (l ∈ ls)
  | [] => rfl
  | k :: ls => by
    have ih := inV_tx l ls
    unfold inV at ih ⊢
    rw [List.map_cons, List.map_cons, List.any_cons, ih]
    show (sx k == sx l || decide (l ∈ ls)) = decide (l ∈ k :: ls)
    by_cases e : k = l
    · subst e
      rw [beq_self_eq_true, decide_eq_true (p := k ∈ k :: ls) List.mem_cons_self]; rfl
    · rw [beq_eq_false_iff_ne.mpr fun z => e (sx_inj z), Bool.false_or, Bool.eq_iff_iff, decide_eq_true_iff, decide_eq_true_iff, List.mem_cons]
      exact ⟨Or.inr, fun z => z.elim (fun q => absurd q.symm e) fun q => q⟩
theorem flat_tx (ls : List Tx) : ((ls.map sx).map V.str).all flatV = true := flat_strs _
theorem o_inT : Op2 X (compareOp .In) (oInT false) := ⟨_, op_in_seq, fun H φ S d e x y QD Q ok i1 i2 h c => by
  unfold oInT at h
  split at h
  · split at h
    · rename_i l ds ls hls
      obtain ⟨rfl, _⟩ := i1
      obtain ⟨a, xs, rfl, hs, hl⟩ := i2
      have ex := txL_is hls hl
      subst ex
      exact ⟨a, _, rfl, .inr hs, rfl, flat_tx ls, by rw [inV_tx]; exact c _ H φ (.bl _) S ok .refl rfl h⟩
    · exact h.elim
  · exact h.elim⟩
theorem o_notInT : Op2 X (compareOp .NotIn) (oInT true) := ⟨_, op_notIn_seq, fun H φ S d e x y QD Q ok i1 i2 h c => by
  unfold oInT at h
  split at h
  · split at h
    · rename_i l ds ls hls
      obtain ⟨rfl, _⟩ := i1
      obtain ⟨a, xs, rfl, hs, hl⟩ := i2
      have ex := txL_is hls hl
      subst ex
      exact ⟨a, _, rfl, .inr hs, rfl, flat_tx ls, by rw [inV_tx]; exact c _ H φ (.bl _) S ok .refl rfl h⟩
    · exact h.elim
  · exact h.elim⟩
end

/-! ### pieces -/
def spc (c : Nat) : Tx → Tx → List Tx
  | acc, [] => [acc]
  | acc, x :: l => if x = c then acc :: spc c [] l else spc c (acc ++ [x]) l
theorem spl_spc (c : Nat) : ∀ (l acc : Tx), spl [c] 0 acc l = spc c acc l
  | [], acc => by rw [spl_nil]; rfl
  | x :: l, acc => by
    have e : TL.pre [c] (x :: l) = decide (x = c) := by
      show (([x] : Tx) == [c]) = _
      rw [Bool.eq_iff_iff, beq_iff_eq, decide_eq_true_iff]
      exact ⟨fun z => (List.cons.inj z).1, fun z => by rw [z]⟩
    simp only [spl, spc, e, decide_eq_true_eq]
    split
    · rw [show ([c] : Tx).length - 1 = 0 from rfl, spl_spc c l []]
    · exact spl_spc c l _
theorem spc_len (c : Nat) : ∀ (l acc : Tx), (spc c acc l).length ≤ l.length + 1
  | [], acc => by simp [spc]
  | x :: l, acc => by
    simp only [spc]
    split
    · have := spc_len c l []; simp only [List.length_cons]; omega
    · have := spc_len c l (acc ++ [x]); simp only [List.length_cons]; omega
theorem spc_item (c : Nat) : ∀ (l acc : Tx), ∀ p ∈ spc c acc l, p.length ≤ acc.length + l.length
  | [], acc, p, h => by simp only [spc, List.mem_singleton] at h; subst h; simp
  | x :: l, acc, p, h => by
    simp only [spc] at h
    split at h
    · rcases List.mem_cons.mp h with rfl | h
      · simp
      · have := spc_item c l [] p h; simp only [List.length_cons, List.length_nil] at this ⊢; omega
    · have := spc_item c l _ p h
      simp only [List.length_append, List.length_cons, List.length_nil] at this ⊢; omega
theorem spc_ne (c : Nat) : ∀ (l acc : Tx), spc c acc l ≠ []
  | [], acc => by simp [spc]
  | x :: l, acc => by
    simp only [spc]
    split
    · simp
    · exact spc_ne c l _
theorem spc_in {c : Nat} {w p : Tx} (hp : p ∈ spc c [] w) {x : Nat} (hx : x ∈ p) : x ∈ w := by
  rw [← spl_spc] at hp
  rcases spl_mem w 0 [] p hp x hx with q | q
  · cases q
  · exact q
theorem spc_join {c : Nat} {ps : List Tx} (hne : ps ≠ []) (h : ∀ p ∈ ps, c ∉ p) : spc c [] (joinL [c] ps) = ps := by
  rw [← spl_spc]
  exact TL.spl_join hne h

/-! ### lines -/
def kinds : List Tx := [[115, 116, 101, 109], [112, 114, 101, 102, 105, 120], [115, 117, 102, 102, 105, 120]]
def und (w : Tx) : Tx := if w = [45] then [] else w
def dsh (w : Tx) : Tx := if w = [] then [45] else w
def tS (es : List Tx) : D := .tup (es.map D.str)
def fitI (i : Nat) (es : List Tx) : Bool := match i with
  | 0 => isStem (tS es)
  | 1 => isPref (tS es)
  | _ => isSuf (tS es)
abbrev Ent := Nat × List Tx
def pD (p : Ent) : D := .tup [.int (p.1 : Nat), tS p.2]
def oD : Option Ent → D
  | none => .non
  | some p => pD p
def entW (ws : List Tx) : Option Ent := match ws with
  | [] => none
  | k :: r => if k ∈ kinds ∧ [] ∉ k :: r then (if fitI (kinds.idxOf k) (r.map und) = true then some (kinds.idxOf k, r.map und) else none) else none
def entF (w : Tx) : Option Ent := entW (spc 32 [] w)
def small (N : Nat) (w : Tx) : Prop := w.length ≤ N ∧ ∀ c ∈ w, c < 128
def sp_entry_in : DSp := fun ds S Q _ => ∃ w, ds = [.str w] ∧ small 900 w ∧ Q (oD (entF w)) S
theorem tS_sml {N : Nat} {es : List Tx} (hl : es.length ≤ N) (h : ∀ e ∈ es, small N e) : sml N (tS es) = true := by
  simp only [tS, sml, Bool.and_eq_true, decide_eq_true_eq]
  refine ⟨by rw [List.length_map]; exact hl, smls_of fun d hd => ?_⟩
  obtain ⟨e, he, rfl⟩ := List.mem_map.mp hd
  simp only [sml, Bool.and_eq_true, decide_eq_true_eq, List.all_eq_true]
  exact ⟨(h e he).1, (h e he).2⟩
theorem tS_ok (n : Nat) (es : List Tx) : okd (n + 1) (tS es) = true := by
  simp only [tS, okd]
  exact okds_map fun e _ => by cases n <;> rfl
theorem pieces {w : Tx} (h : small 900 w) : (spc 32 [] w).length ≤ 901 ∧ ∀ p ∈ spc 32 [] w, small 900 p := by
  refine ⟨by have := spc_len 32 w []; have := h.1; omega, fun p hp => ⟨?_, fun c hc => h.2 c (spc_in hp hc)⟩⟩
  have := spc_item 32 w [] p hp
  have := h.1
  simp at *; omega
theorem und_small {N : Nat} {w : Tx} (h : small N w) : small N (und w) := by
  unfold und
  split
  · exact ⟨Nat.zero_le _, fun c hc => nomatch hc⟩
  · exact h
def t_entry_in : DTS := (sSeq (sAsg (dMS mSplit (dVar 0) (aCons (dC (.str [32])) aNil)) (.nm 1))
  (sSeq (sIf (dOr (dTest (dOp (oInT true) (dOp oIx (dVar 1) (dC (.int 0))) (dC (.tup [(.str [115, 116, 101, 109]), (.str [112, 114, 101, 102, 105, 120]), (.str [115, 117, 102, 102, 105, 120])])))) (dTest (dOp (oInL false) (dC (.str [])) (dVar 1)))) (sRet (dC .non)) sNext)
  (sSeq (sAsg (dCB bTuple (aCons (dLc (iSeq (dSl (dVar 1) (pSome (dC (.int 1))) pNone)) (.nm 5) dYes (dIf (dTest (dOp oNe (dVar 5) (dC (.str [45])))) (dVar 5) (dC (.str []))) [5]) aNil)) (.nm 2))
  (sSeq (sAsg (mIndexG [(.str [115, 116, 101, 109]), (.str [112, 114, 101, 102, 105, 120]), (.str [115, 117, 102, 102, 105, 120])] (aCons (dOp oIx (dVar 1) (dC (.int 0))) aNil)) (.nm 3))
  (sSeq (sAsg (dLst (aCons (dCall sp_is_stem X0 (aCons (dVar 2) aNil)) (aCons (dCall sp_is_prefix X0 (aCons (dVar 2) aNil)) (aCons (dCall sp_is_suffix X0 (aCons (dVar 2) aNil)) aNil)))) (.nm 4))
  (sRet (dIf (dTest (dOp oIx (dVar 4) (dVar 3))) (dTup (aCons (dVar 3) (aCons (dVar 2) aNil))) (dC .non))))))))


theorem at_0 {S : Sto} {Q : DQ} {k : Tx} {r : List Tx} (q : Q (.str k) S) : oIx (.lst ((k :: r).map D.str)) (.int 0) S Q := by
  have e : L2.atI ((k :: r).map D.str) (0 : Int) = some (.str k) := by
    unfold L2.atI
    have : ixN ((k :: r).map D.str).length 0 = some 0 := by simp [ixN]
    rw [this]; rfl
  simp only [oIx, asL]
  rw [e]
  exact q
theorem ne_i {S : Sto} {Q : DQ} {a b : Tx} (q : Q (.bl (!decide (a = b))) S) : oNe (.str a) (.str b) S Q := by
  refine ⟨rfl, rfl, ?_⟩
  show Q (.bl (!eqD (.str a) (.str b))) S
  rw [eqD_str]; exact q
theorem inT_i {S : Sto} {Q : DQ} {k : Tx} (q : Q (.bl (!decide (k ∈ kinds))) S) : oInT true (.str k) (.tup [.str [115, 116, 101, 109], .str [112, 114, 101, 102, 105, 120], .str [115, 117, 102, 102, 105, 120]]) S Q := q
theorem inL_i {S : Sto} {Q : DQ} {k : Tx} {ws : List Tx} (q : Q (.bl (decide (k ∈ ws))) S) : oInL false (.str k) (.lst (ws.map D.str)) S Q := by
  refine ⟨rfl, ?_, ?_⟩
  · simp only [okd]; exact okds_map fun e _ => rfl
  · have e : (ws.map D.str).any (fun z => eqD z (.str k)) = decide (k ∈ ws) := by
      rw [List.any_map, Bool.eq_iff_iff, List.any_eq_true, decide_eq_true_iff]
      constructor
      · rintro ⟨z, hz, h⟩
        have : z = k := by simpa [eqD_str] using h
        rw [← this]; exact hz
      · intro h
        exact ⟨k, h, by simp [eqD_str]⟩
    simpa [e] using q
theorem index_i {S : Sto} {Q : DQ} {k : Tx} {ρ : Env} {te : DTE} (hk : k ∈ kinds) (h : ∀ k2 : DQ, k2 (.str k) S → te ρ S k2) (q : Q (.int (kinds.idxOf k : Nat)) S) :
    mIndexG [.str [115, 116, 101, 109], .str [112, 114, 101, 102, 105, 120], .str [115, 117, 102, 102, 105, 120]] (aCons te aNil) ρ S Q := by
  show te ρ S _
  refine h _ ?_
  show (match kinds.idxOf? k with
    | some j => Q (.int (j : Nat)) S
    | none => False)
  have e : kinds.idxOf? k = some (kinds.idxOf k) := by
    simp only [kinds, List.mem_cons, List.not_mem_nil, or_false] at hk
    rcases hk with rfl | rfl | rfl <;> decide
  rw [e]
  exact q
theorem rd_entry_in : ∀ ds S QD, sp_entry_in ds S QD X0 → t_entry_in { nx := fun _ S' => RT S QD .non S', rt := RT S QD } (startD 6 ds) S := by
  rintro ds S QD ⟨w, rfl, hw, q⟩
  obtain ⟨hl, hp⟩ := pieces hw
  have hlen := hw.1
  have hne := spc_ne 32 w []
  unfold entF at q
  refine seq_o fun N hN => ?_
  simp [startD, isS, mSplit, bound, bindT]
  refine ⟨by omega, ?_⟩
  rw [spl_spc]
  generalize spc 32 [] w = ws at *
  obtain ⟨k, r, rfl⟩ := List.exists_cons_of_ne_nil hne
  unfold entW at q
  subst hN
  refine seq_o fun N hN => ?_
  simp only [e_if, e_or, e_test, e_op, e_var, e_c, List.getElem?_cons_succ, List.getElem?_cons_zero]
  refine at_0 (inT_i ?_)
  simp only [e_tst]
  by_cases hk : k ∈ kinds
  · simp only [hk, decide_true, Bool.not_true, Bool.false_eq_true, if_false]
    refine inL_i ?_
    simp only [e_tst]
    by_cases h0 : [] ∈ k :: r
    · simp only [h0, decide_true, if_true, not_true, and_false, if_false] at q ⊢
      exact RT.here q
    · simp only [h0, hk, decide_false, Bool.false_eq_true, if_false, not_false_eq_true, and_self, if_true, e_next] at q ⊢
      subst hN
      refine seq_o fun N hN => ?_
      simp only [e_asg, e_cb, e_acons, e_anil, e_lc, e_sl, e_var, e_c, e_pn, List.getElem?_cons_succ, List.getElem?_cons_zero]
      simp [iSeq, pSome, rSl, asL, cutD_from]
      have hz : sizeLine = 16777216 := rfl
      refine lcD_map D.str (fun w => .str (und w)) trivial r (by simp at hl; omega) (fun x hx k1 h1 => ?_) ?_
      · simp [bound, bindT, wipeD]
        refine ne_i ?_
        simp
        unfold und at h1
        split <;> simp_all
      · have ee : r.map (fun w => D.str (und w)) = (r.map und).map D.str := by rw [List.map_map]; rfl
        rw [ee]
        have hes : ∀ e ∈ r.map und, small 900 e := fun e he => by
          obtain ⟨x, hx, rfl⟩ := List.mem_map.mp he
          exact und_small (hp x (List.mem_cons_of_mem _ hx))
        have hel : (r.map und).length ≤ 900 := by rw [List.length_map]; simp at hl; omega
        generalize r.map und = es at *
        have s1 : sml 1000 (tS es) = true := tS_sml (by omega) fun e he => ⟨by have := (hes e he).1; omega, (hes e he).2⟩
        have s2 : okd 8 (tS es) = true := tS_ok 7 es
        simp [bTuple, asL, bound, bindT]
        subst hN
        refine seq_o fun N hN => ?_
        simp only [e_asg]
        refine index_i hk (fun k2 h2 => ?_) ?_
        · simp only [e_op, e_var, e_c, List.getElem?_cons_succ, List.getElem?_cons_zero]
          exact at_0 (r := r) h2
        simp [bound, bindT]
        subst hN
        refine seq_o fun N hN => ?_
        simp only [e_asg, e_lst, e_acons, e_call, e_anil, e_var, List.getElem?_cons_succ, List.getElem?_cons_zero]
        refine stem_i s1 ?_
        refine pref_i s1 s2 ?_
        refine suf_i s1 ?_
        refine ⟨(by decide : 3 ≤ sizeLine), ?_⟩
        simp only [bound, bindT, List.set]
        subst hN
        have key : ∀ i : Nat, i < 3 → QD (oD (if fitI i es = true then some (i, es) else none)) S →
          (sRet (dIf (dTest (dOp oIx (dVar 4) (dVar 3))) (dTup (aCons (dVar 3) (aCons (dVar 2) aNil))) (dC D.non))) { nx := fun x S' => RT S QD D.non S', rt := RT S QD }
            [some (.str w), some (.lst ((k :: r).map D.str)), some (tS es), some (.int (i : Nat)), some (.lst [.bl (isStem (tS es)), .bl (isPref (tS es)), .bl (isSuf (tS es))]), none] S := by
          intro i hi q
          have hf : L2.atI [D.bl (isStem (tS es)), .bl (isPref (tS es)), .bl (isSuf (tS es))] (i : Int) = some (.bl (fitI i es)) := by
            match i, hi with
            | 0, _ => rfl
            | 1, _ => rfl
            | 2, _ => rfl
          simp only [e_ret, e_ife, e_test, e_op, e_var, e_c, e_tup, e_acons, e_anil, List.getElem?_cons_succ, List.getElem?_cons_zero, oIx, asL]
          rw [hf]
          simp only [e_tst]
          cases hb : fitI i es with
          | true =>
            rw [hb] at q
            exact ⟨(by decide : 2 ≤ sizeLine), RT.here q⟩
          | false =>
            rw [hb] at q
            exact RT.here q
        refine key _ ?_ q
        exact List.idxOf_lt_length_of_mem hk
  · simp only [hk, decide_false, Bool.not_false, if_true, false_and, if_false] at q ⊢
    exact RT.here q
end DL

/-! DLr: read_list, over plain data. -/
namespace DL
open PySem PySem.Spec L2 TL PySem.W
open PyProof.Rows hiding St
structure RS where
  fs : List (List (List Tx))
  last : Option Ent
def mosts : List Nat := [8, 3, 6]
def badF (s : RS) (p : Ent) : Prop := (s.last.any fun l => !ltD (pD l) (pD p)) = true ∨ (s.fs.getD p.1 []).length = mosts.getD p.1 0
instance (s : RS) (p : Ent) : Decidable (badF s p) := by unfold badF; infer_instance
def stepF (s : RS) (line : Tx) : Option RS := match entF line with
  | none => none
  | some p => if badF s p then none else some ⟨s.fs.set p.1 (s.fs.getD p.1 [] ++ [p.2]), some p⟩
def readE (n : Nat) (s : RS) : List Tx → Nat ⊕ RS
  | [] => .inr s
  | l :: ls => match stepF s l with
    | none => .inl (n + 1)
    | some s' => readE (n + 1) s' ls
def linesF (w : Tx) : List Tx := if w = [] then [] else spc 10 [] w
def rs0 : RS := ⟨[[], [], []], none⟩
def readF (w : Tx) : Nat ⊕ RS := readE 0 rs0 (linesF w)
def enF (f : List (List Tx)) : D := .tup (f.map tS)
def fsD (fs : List (List (List Tx))) : D := .tup (fs.map enF)
theorem ent_lt {line : Tx} {p : Ent} (h : entF line = some p) : p.1 < 3 := by
  unfold entF entW at h
  split at h
  · cases h
  · split at h
    · rename_i hk
      split at h
      · cases h
        exact List.idxOf_lt_length_of_mem hk.1
      · cases h
    · cases h
theorem alike_tx : ∀ xs ys : List Tx, alikeAll (toPs (xs.map D.str)) (toPs (ys.map D.str)) = true
  | [], [] => by simp [toPs, alikeAll]
  | [], _ :: _ => by simp [toPs, alikeAll]
  | _ :: _, [] => by simp [toPs, alikeAll]
  | x :: xs, y :: ys => by
    have := alike_tx xs ys
    simp [toPs, toP, alike, alikeAll, this]
theorem alike_pD (p q : Ent) : alike (toP (pD p)) (toP (pD q)) = true := by
  simp [pD, tS, toPs, toP, alike, alikeAll, alike_tx]
theorem pD_ok (p : Ent) : okd 8 (pD p) = true := by
  have := tS_ok 6 p.2
  simp [pD, okd, okds, this]
theorem tS_ltn (n : Nat) (es : List Tx) : (tS es).ltn n = true := by
  simp only [tS, D.ltn]; exact ltnL_map fun _ _ => rfl
theorem enF_ltn (n : Nat) (f : List (List Tx)) : (enF f).ltn n = true := by
  simp only [enF, D.ltn]; exact ltnL_map fun _ _ => tS_ltn n _
theorem fsD_ltn (n : Nat) (fs : List (List (List Tx))) : (fsD fs).ltn n = true := by
  simp only [fsD, D.ltn]; exact ltnL_map fun _ _ => enF_ltn n _
theorem lines_ok {w : Tx} (h : small 900 w) : (linesF w).length ≤ 901 ∧ ∀ p ∈ linesF w, small 900 p := by
  unfold linesF
  split
  · exact ⟨Nat.zero_le _, fun p hp => nomatch hp⟩
  · refine ⟨by have := spc_len 10 w []; have := h.1; omega, fun p hp => ⟨?_, fun c hc => h.2 c (spc_in hp hc)⟩⟩
    have := spc_item 10 w [] p hp
    have := h.1
    simp at *; omega
/-- the loop's test of a pair -/
def tl_bad : DTT := (dOr (dTest (dOp oIsN (dVar 5) (dC .non))) (dOr (dAnd (dTest (dOp oNotN (dVar 2) (dC .non))) (dTest (dOp oLeT (dVar 5) (dVar 2)))) (dTest (dOp oEq (dCB bLen (aCons (dOp oIx (dVar 1) (dOp oIx (dVar 5) (dC (.int 0)))) aNil)) (dOp oIx (dC (.tup [(.int 8), (.int 3), (.int 6)])) (dOp oIx (dVar 5) (dC (.int 0))))))))
def tl_put : DTS := (sSeq (sSubL (dOp oAdd (dOp oIx (dVar 1) (dOp oIx (dVar 5) (dC (.int 0)))) (dTup (aCons (dOp oIx (dVar 5) (dC (.int 1))) aNil))) (dVar 1) (dOp oIx (dVar 5) (dC (.int 0))))
  (sAsg (dVar 5) (.nm 2)))
def tG_read_list (tr0 tr : DTS) : DTS := (sSeq (sIf (dNot (dTest (dCB bIsi (aCons (dVar 0) (aCons (dC (.ty "str")) aNil))))) tr0 sNext)
  (sSeq (sPar 1 2 (dLstM (aCons (dTup aNil) (aCons (dTup aNil) (aCons (dTup aNil) aNil)))) (dC .non))
  (sSeq (sFor (iEn (aCons (dIf (dTest (dOp oNe (dVar 0) (dC (.str [])))) (dMS mSplit (dVar 0) (aCons (dC (.str [10])) aNil)) (dLst aNil)) aNil)) (.tp [(.nm 3), (.nm 4)])
    (sSeq (sAsg (dCall sp_entry_in X0 (aCons (dVar 4) aNil)) (.nm 5))
  (sSeq (sIf tl_bad tr sNext) tl_put)))
  (sRet (dCB bTuple (aCons (dVar 1) aNil))))))
theorem ix_found {S : Sto} {Q : DQ} {n : Nat} {fs : List (List (List Tx))} {i : Nat} (hS : S[n]? = some (.lst (fs.map enF))) (hi : i < fs.length) (q : Q (enF (fs.getD i [])) S) : oIx (.ref n) (.int (i : Nat)) S Q := by
  have e0 : asL S (.ref n) = some (fs.map enF) := by simp only [asL]; rw [hS]
  have e : L2.atI (fs.map enF) (i : Int) = some (enF (fs.getD i [])) := by
    unfold L2.atI
    have : ixN (fs.map enF).length (i : Int) = some i := by
      rw [List.length_map]
      unfold ixN
      simp [hi]
    rw [this]
    simp [hi]
  simp only [oIx]
  rw [e0]
  simp only
  rw [e]
  exact q
theorem eq_int_i {S : Sto} {Q : DQ} {a b : Int} (q : Q (.bl (decide (a = b))) S) : oEq (.int a) (.int b) S Q := by
  refine ⟨rfl, rfl, ?_⟩
  show Q (.bl (eqD (.int a) (.int b))) S
  rw [eqD_int]; exact q
theorem most_i {S : Sto} {Q : DQ} {i : Nat} (hi : i < 3) (q : Q (.int (mosts.getD i 0 : Nat)) S) : oIx (.tup [(.int 8), (.int 3), (.int 6)]) (.int (i : Nat)) S Q := by
  match i, hi with
  | 0, _ => exact q
  | 1, _ => exact q
  | 2, _ => exact q
theorem fst_i {S : Sto} {Q : DQ} {p : Ent} (q : Q (.int (p.1 : Nat)) S) : oIx (pD p) (.int 0) S Q := q
theorem snd_i {S : Sto} {Q : DQ} {p : Ent} (q : Q (tS p.2) S) : oIx (pD p) (.int 1) S Q := q
theorem isN_p {S : Sto} {Q : DQ} {p : Ent} : oIsN (oD (some p)) .non S Q = Q (.bl false) S := rfl
theorem notN_p {S : Sto} {Q : DQ} {p : Ent} : oNotN (oD (some p)) .non S Q = Q (.bl true) S := rfl
theorem notN_n {S : Sto} {Q : DQ} : oNotN (oD none) .non S Q = Q (.bl false) S := rfl
theorem len_en {S : Sto} {Q : DQ} {f : List (List Tx)} : bLen [enF f] S Q = Q (.int (f.map tS).length) S := rfl
def isBad (s : RS) : Option Ent → Bool
  | none => true
  | some p => decide (badF s p)
theorem step_bad {s : RS} {x : Tx} (h : isBad s (entF x) = true) : stepF s x = none := by
  unfold stepF
  cases he : entF x with
  | none => rfl
  | some p =>
    rw [he] at h
    exact if_pos (of_decide_eq_true h)
theorem step_ok {s : RS} {x : Tx} (h : isBad s (entF x) = false) : ∃ p, entF x = some p ∧ stepF s x = some ⟨s.fs.set p.1 (s.fs.getD p.1 [] ++ [p.2]), some p⟩ := by
  unfold stepF
  cases he : entF x with
  | none => rw [he] at h; cases h
  | some p =>
    rw [he] at h
    exact ⟨p, rfl, if_neg (of_decide_eq_false h)⟩
theorem readE_cons (n : Nat) (s : RS) (l : Tx) (ls : List Tx) : readE n s (l :: ls) = match stepF s l with
    | none => .inl (n + 1)
    | some s' => readE (n + 1) s' ls := rfl
theorem bad_i {S : Sto} {Q : Bool → Sto → Prop} {ρ : Env} {n : Nat} {s : RS} {po : Option Ent} (h1 : ρ[1]? = some (some (.ref n))) (h2 : ρ[2]? = some (some (oD s.last))) (h5 : ρ[5]? = some (some (oD po))) (hS : S[n]? = some (.lst (s.fs.map enF)))
    (h3 : s.fs.length = 3) (hp : ∀ p, po = some p → p.1 < 3) (q : Q (isBad s po) S) : tl_bad ρ S Q := by
  unfold tl_bad
  simp only [e_or, e_and, e_test, e_op, e_var, e_c, e_cb, e_acons, e_anil, h1, h2, h5]
  cases po with
  | none => exact q
  | some p =>
    have hi := hp p rfl
    rw [isN_p, e_tst]
    refine iteF ?_
    have fin : ∀ b : Bool, (s.last.any fun l => !ltD (pD l) (pD p)) = b → (if b = true then Q true S else oIx (pD p) (.int 0) S fun e S2 => oIx (.ref n) e S2 fun d S1 => bLen [d] S1 fun d S1 => oIx (pD p) (.int 0) S1 fun e S2 => oIx (.tup [(.int 8), (.int 3), (.int 6)]) e S2 fun e S2 => oEq d e S2 fun d S1 => tst d fun b => Q b S1) := by
      intro b hb
      cases b with
      | true =>
        rw [if_pos rfl]
        have : isBad s (some p) = true := decide_eq_true (.inl hb)
        simp only [this] at q
        exact q
      | false =>
        rw [if_neg (by decide)]
        refine fst_i (ix_found hS (by omega) ?_)
        rw [len_en]
        refine fst_i (most_i hi (eq_int_i ?_))
        have e : isBad s (some p) = decide ((((s.fs.getD p.1 []).map tS).length : Int) = ((mosts.getD p.1 0 : Nat) : Int)) := by
          have e2 : badF s p ↔ (((s.fs.getD p.1 []).map tS).length : Int) = ((mosts.getD p.1 0 : Nat) : Int) := by
            unfold badF
            rw [hb, List.length_map]
            constructor
            · rintro (z | z)
              · cases z
              · rw [z]
            · exact fun z => .inr (by omega)
          exact decide_eq_decide.mpr e2
        simp only [e] at q
        exact q
    cases hl : s.last with
    | none =>
      rw [notN_n, e_tst]
      refine iteF ?_
      exact fin false (by rw [hl]; rfl)
    | some l =>
      rw [notN_p, e_tst]
      refine iteT ?_
      show oLeT (pD p) (pD l) S _
      refine ⟨pD_ok p, pD_ok l, alike_pD p l, by simp [pD, toP], ?_⟩
      exact fin (!ltD (pD l) (pD p)) (by rw [hl]; rfl)
theorem add_en {S : Sto} {Q : DQ} {f : List (List Tx)} {e : List Tx} (hl : f.length ≤ 10000) (q : Q (enF (f ++ [e])) S) : oAdd (enF f) (.tup [tS e]) S Q := by
  have hz : sizeLine = 16777216 := rfl
  refine ⟨by rw [List.length_map]; simp; omega, ?_⟩
  have : f.map tS ++ [tS e] = (f ++ [e]).map tS := by simp
  rw [this]
  exact q
theorem put_i {D' : DEnds} {S : Sto} {x0 x2 x3 x4 : Option D} {fs : List (List (List Tx))} {p : Ent} (h3 : fs.length = 3) (hi : p.1 < 3) (hl : ∀ f ∈ fs, f.length ≤ 1000)
    (q : D'.nx [x0, some (.ref S.length), some (pD p), x3, x4, some (pD p)] (S ++ [.lst ((fs.set p.1 (fs.getD p.1 [] ++ [p.2])).map enF)])) :
    tl_put D' [x0, some (.ref S.length), x2, x3, x4, some (pD p)] (S ++ [.lst (fs.map enF)]) := by
  have hS : (S ++ [MO.lst (fs.map enF)])[S.length]? = some (.lst (fs.map enF)) := snoc_get
  refine seq_o fun N hN => ?_
  simp only [sSubL, e_op, e_var, e_c, e_tup, e_acons, e_anil, List.getElem?_cons_succ, List.getElem?_cons_zero]
  refine fst_i (ix_found hS (by omega) ?_)
  refine snd_i ⟨(by decide : 1 ≤ sizeLine), ?_⟩
  refine add_en ?_ ?_
  · by_cases hm : p.1 < fs.length
    · have := hl _ (List.getElem_mem hm)
      rw [List.getD_eq_getElem?_getD, List.getElem?_eq_getElem hm]
      simp only [Option.getD_some]; omega
    · omega
  refine fst_i ?_
  simp only [hS]
  have e : ixN (fs.map enF).length ((p.1 : Nat) : Int) = some p.1 := by
    rw [List.length_map]
    unfold ixN
    simp [h3, hi]
    omega
  rw [e]
  simp only
  subst hN
  simp only [e_asg, e_var, List.getElem?_cons_succ, List.getElem?_cons_zero, bound, bindT, List.set]
  rw [show (S ++ [MO.lst (fs.map enF)]).set S.length (.lst ((fs.map enF).set p.1 (enF (fs.getD p.1 [] ++ [p.2])))) = S ++ [MO.lst ((fs.set p.1 (fs.getD p.1 [] ++ [p.2])).map enF)] by simp [List.map_set]]
  exact q
theorem step_len {s s' : RS} {x : Tx} {n : Nat} (h : stepF s x = some s') (h3 : s.fs.length = 3) (hl : ∀ f ∈ s.fs, f.length ≤ n) : s'.fs.length = 3 ∧ ∀ f ∈ s'.fs, f.length ≤ n + 1 := by
  unfold stepF at h
  split at h
  · cases h
  · rename_i p hp
    split at h
    · cases h
    · cases h
      refine ⟨by rw [List.length_set]; exact h3, fun f hf => ?_⟩
      rcases List.mem_or_eq_of_mem_set hf with z | rfl
      · have := hl f z; omega
      · have hm : p.1 < s.fs.length := by have := ent_lt hp; omega
        have := hl _ (List.getElem_mem hm)
        rw [List.getD_eq_getElem?_getD, List.getElem?_eq_getElem hm]
        simp only [Option.getD_some, List.length_append, List.length_singleton]; omega
theorem rdG_read_list (tr0 tr : DTS) {w : Tx} (hw : small 900 w) {S : Sto} {QD : DQ} {D' : DEnds} (hD : D'.rt = RT S QD) (ok : ∀ s, readF w = .inr s → QD (fsD s.fs) S)
    (er : ∀ n, readF w = .inl (n + 1) → ∀ D1 x1 x2 x4 x5 T, D1.rt = D'.rt → tr D1 [some (.str w), x1, x2, some (.int (n : Nat)), x4, x5] (S ++ T)) :
    tG_read_list tr0 tr D' [some (.str w), none, none, none, none, none] S := by
  refine seq_o fun N hN => ?_
  have hst : isiB "str" "str" = true := by decide +kernel
  simp [bIsi, tyD, hst]
  subst hN
  refine seq_o fun N hN => ?_
  simp
  subst hN
  refine seq_o fun N hN => ?_
  obtain ⟨hl, hp⟩ := lines_ok hw
  have hz : sizeLine = 16777216 := rfl
  have hlen := hw.1
  simp only [e_for]
  have src : ∀ k : List D → (Sto → Prop) → Sto → Prop, k (enD ((linesF w).map D.str)) (fun _ => True) (S ++ [.lst [.tup [], .tup [], .tup []]]) →
      (iEn (aCons (dIf (dTest (dOp oNe (dVar 0) (dC (.str [])))) (dMS mSplit (dVar 0) (aCons (dC (.str [10])) aNil)) (dLst aNil)) aNil)) [some (.str w), some (.ref S.length), some .non, none, none, none] (S ++ [.lst [.tup [], .tup [], .tup []]]) k := by
    intro k q
    simp only [iEn, e_acons, e_ife, e_test, e_op, e_var, e_c, e_mS, e_lst, e_anil, List.getElem?_cons_zero]
    refine ne_i ?_
    rw [e_tst]
    unfold linesF at q
    by_cases h0 : w = []
    · simp only [h0, decide_true, Bool.not_true, Bool.false_eq_true, if_false, if_true] at q ⊢
      exact ⟨Nat.zero_le _, q⟩
    · simp only [h0, decide_false, Bool.not_false, if_true, if_false] at q ⊢
      refine ⟨trivial, (by decide : 10 < 256), by omega, ?_⟩
      rw [spl_spc]
      exact q
  have fs0 : S ++ [MO.lst [.tup [], .tup [], .tup []]] = S ++ [.lst (rs0.fs.map enF)] := rfl
  rw [fs0] at src
  show (iEn _) _ (S ++ [.lst (rs0.fs.map enF)]) _
  refine src _ ?_
  unfold readF at ok er
  generalize linesF w = ls at *
  refine forD_enum D.str (fun pre post ρ S' => ∃ (s : RS) (x3 x4 x5 : Option D), S' = S ++ [.lst (s.fs.map enF)] ∧ pre ++ post = ls ∧ s.fs.length = 3 ∧ (∀ f ∈ s.fs, f.length ≤ pre.length) ∧ readE 0 rs0 ls = readE pre.length s post ∧
    ρ = [some (.str w), some (.ref S.length), some (oD s.last), x3, x4, x5]) ?_ ?_ ls ⟨rs0, none, none, none, rfl, rfl, rfl, by simp [rs0], rfl, rfl⟩
  · rintro pre ρ S' ⟨s, x3, x4, x5, rfl, hq, h3, hf, hr, rfl⟩
    refine ⟨trivial, ?_⟩
    dsimp only
    subst hN
    simp only [e_ret, e_cb, e_acons, e_anil, e_var, List.getElem?_cons_succ, List.getElem?_cons_zero]
    have e1 : asL (S ++ [MO.lst (s.fs.map enF)]) (.ref S.length) = some (s.fs.map enF) := asL_last _
    simp only [bTuple, e1]
    rw [hD]
    exact RT.cut (fsD_ltn _ _) (ok s hr)
  · rintro pre x post ρ S' N2 hN2 ⟨s, x3, x4, x5, rfl, hq, h3, hf, hr, rfl⟩
    refine ⟨trivial, ?_⟩
    simp only [bound, bindT, bindTs, List.set]
    have hx : small 900 x := hp x (by rw [← hq]; simp)
    have hpl : pre.length ≤ 901 := by have := congrArg List.length hq; simp at this; omega
    refine seq_o fun N3 hN3 => ?_
    simp only [e_asg, e_call, e_acons, e_anil, e_var, List.getElem?_cons_succ, List.getElem?_cons_zero]
    refine ⟨x, rfl, hx, ?_⟩
    simp only [bound, bindT, List.set]
    subst hN3
    refine seq_o fun N3 hN3 => ?_
    simp only [e_if]
    refine bad_i (n := S.length) (s := s) (po := entF x) rfl rfl rfl snoc_get h3 (fun p hp => ent_lt hp) ?_
    rw [readE_cons] at hr
    cases hb : isBad s (entF x) with
    | true =>
      rw [step_bad hb] at hr
      refine iteT ?_
      exact er _ hr _ _ _ _ _ _ rfl
    | false =>
      obtain ⟨p, he, hs⟩ := step_ok hb
      have h2 := step_len hs h3 hf
      rw [hs] at hr
      rw [he]
      refine iteF ?_
      simp only [e_next]
      subst hN3
      refine put_i h3 (ent_lt he) (fun f hf' => by have := hf f hf'; omega) ?_
      refine hN2 _ _ ⟨_, _, _, _, rfl, by rw [← hq]; simp, h2.1, ?_, ?_, rfl⟩
      · rw [List.length_append, List.length_singleton]; exact h2.2
      · rw [hr, List.length_append, List.length_singleton]
end DL

/-! DLq: the text of lists, and that it reads back (plain). -/
namespace DL
open PySem PySem.Spec L2 TL PySem.W
open PyProof.Rows hiding St
theorem tS_eq (a b : List Tx) : eqD (tS a) (tS b) = decide (a = b) := by
  unfold tS
  rw [eqD_tup, eqDs_enc eqD_str]
theorem ltD_pD (p q : Ent) : ltD (pD p) (pD q) = if p.1 = q.1 then (if p.2 = q.2 then false else ltD (tS p.2) (tS q.2)) else decide (p.1 < q.1) := by
  show dataLt (.tuple [.int (p.1 : Nat), toP (tS p.2)]) (.tuple [.int (q.1 : Nat), toP (tS q.2)]) = _
  rw [dataLt_pair rfl (by simp [tS, toP, alike, alike_tx])]
  have e1 : PyData.eqv (.int ((p.1 : Nat) : Int)) (.int ((q.1 : Nat) : Int)) = decide (p.1 = q.1) := by
    have := eqD_int ((p.1 : Nat) : Int) ((q.1 : Nat) : Int)
    refine (show _ = _ from this).trans ?_
    exact decide_eq_decide.mpr (by omega)
  have e2 : PyData.eqv (toP (tS p.2)) (toP (tS q.2)) = decide (p.2 = q.2) := tS_eq p.2 q.2
  rw [e1, e2, dataLt_int]
  simp only [decide_eq_true_eq]
  split
  · rfl
  · exact decide_eq_decide.mpr (by omega)
theorem pD_lt0 {p q : Ent} (h : p.1 < q.1) : ltD (pD p) (pD q) = true := by
  rw [ltD_pD, if_neg (by omega), decide_eq_true h]
theorem pD_lt1 {p q : Ent} (h : p.1 = q.1) (h2 : ltD (tS p.2) (tS q.2) = true) : ltD (pD p) (pD q) = true := by
  rw [ltD_pD, if_pos h, if_neg, h2]
  intro e
  rw [e, ltD_irr] at h2
  cases h2
/-- lists, as texts -/
structure GF (fs : List (List (List Tx))) : Prop where
  len : fs.length = 3
  fit : ∀ i, i < 3 → ∀ e ∈ fs.getD i [], fitI i e = true ∧ 1 ≤ e.length ∧ e.length ≤ 4 ∧ ∀ w ∈ e, w.length ≤ 8 ∧ ∀ c ∈ w, 65 ≤ c ∧ c < 128
  most : ∀ i, i < 3 → (fs.getD i []).length ≤ mosts.getD i 0
  ris : ∀ i, i < 3 → (fs.getD i []).Pairwise fun a b => ltD (tS a) (tS b) = true
def kn (i : Nat) : Tx := kinds.getD i []
def lineF (i : Nat) (e : List Tx) : Tx := joinL [32] (kn i :: e.map dsh)
def linesI (fs : List (List (List Tx))) (i : Nat) : List Tx := (fs.getD i []).map (lineF i)
def linesN (fs : List (List (List Tx))) (n : Nat) : List Tx := (List.range n).flatMap (linesI fs)
def textF (fs : List (List (List Tx))) : Tx := joinL [10] (linesN fs 3)
theorem linesN_succ (fs : List (List (List Tx))) (n : Nat) : linesN fs (n + 1) = linesN fs n ++ linesI fs n := by
  unfold linesN
  rw [List.range_succ, List.flatMap_append]; simp
theorem und_dsh {w : Tx} (h : w ≠ [45]) : und (dsh w) = w := by
  unfold dsh und
  by_cases e : w = []
  · simp [e]
  · rw [if_neg e, if_neg h]
theorem kn_mem {i : Nat} (hi : i < 3) : kn i ∈ kinds ∧ kinds.idxOf (kn i) = i ∧ 32 ∉ kn i ∧ 10 ∉ kn i ∧ kn i ≠ [] ∧ (kn i).length ≤ 6 ∧ ∀ c ∈ kn i, c < 128 := by
  match i, hi with
  | 0, _ => decide
  | 1, _ => decide
  | 2, _ => decide
theorem dsh_no {w : Tx} (h : ∀ c ∈ w, 65 ≤ c ∧ c < 128) : 32 ∉ dsh w ∧ 10 ∉ dsh w ∧ dsh w ≠ [] ∧ w ≠ [45] ∧ ∀ c ∈ dsh w, c < 128 := by
  unfold dsh
  by_cases e : w = []
  · subst e; decide
  · rw [if_neg e]
    refine ⟨fun z => by have := h _ z; omega, fun z => by have := h _ z; omega, e, fun z => ?_, fun c hc => (h c hc).2⟩
    subst z
    have := h 45 (by simp)
    omega
theorem ent_line {i : Nat} {e : List Tx} (hi : i < 3) (hf : fitI i e = true) (hw : ∀ w ∈ e, ∀ c ∈ w, 65 ≤ c ∧ c < 128) : entF (lineF i e) = some (i, e) := by
  obtain ⟨k1, k2, k3, k4, k5, _⟩ := kn_mem hi
  unfold entF lineF
  rw [spc_join (by simp) (fun p hp => ?_)]
  · unfold entW
    simp only
    have h0 : [] ∉ kn i :: e.map dsh := by
      intro z
      rcases List.mem_cons.mp z with z | z
      · exact k5 z.symm
      · obtain ⟨w, hw', z⟩ := List.mem_map.mp z
        exact (dsh_no (hw w hw')).2.2.1 z
    rw [if_pos ⟨k1, h0⟩]
    have e1 : (e.map dsh).map und = e := by
      rw [List.map_map]
      conv => rhs; rw [← List.map_id e]
      exact List.map_congr_left fun w hw' => und_dsh (dsh_no (hw w hw')).2.2.2.1
    rw [e1, k2, if_pos hf]
  · rcases List.mem_cons.mp hp with rfl | hp
    · exact k3
    · obtain ⟨w, hw', rfl⟩ := List.mem_map.mp hp
      exact (dsh_no (hw w hw')).1
/-! ### reading the lines -/
def put (fs : List (List (List Tx))) (p : Ent) : List (List (List Tx)) := fs.set p.1 (fs.getD p.1 [] ++ [p.2])
theorem read_all : ∀ (ps : List Ent) (n : Nat) (s : RS), (∀ p ∈ ps, p.1 < 3 ∧ entF (lineF p.1 p.2) = some p) → s.fs.length = 3 → (∀ l, s.last = some l → ∀ p ∈ ps, ltD (pD l) (pD p) = true) → ps.Pairwise (fun a b => ltD (pD a) (pD b) = true) →
    (∀ i, i < 3 → (s.fs.getD i []).length + (ps.filter (fun p => p.1 == i)).length ≤ mosts.getD i 0) → ∃ l, readE n s (ps.map fun p => lineF p.1 p.2) = .inr ⟨ps.foldl put s.fs, l⟩
  | [], n, s, _, _, _, _, _ => ⟨s.last, rfl⟩
  | p :: ps, n, s, he, h3, hl, hp, hc => by
    obtain ⟨hi, e⟩ := he p (by simp)
    have hc1 := hc p.1 hi
    rw [List.filter_cons, if_pos (by simp), List.length_cons] at hc1
    have nb : ¬ badF s p := by
      unfold badF
      rintro (z | z)
      · rw [Option.any_eq_true] at z
        obtain ⟨l, hl1, z⟩ := z
        rw [hl l hl1 p (by simp)] at z
        cases z
      · omega
    have st : stepF s (lineF p.1 p.2) = some ⟨put s.fs p, some p⟩ := by
      unfold stepF
      rw [e]
      exact if_neg nb
    rw [List.map_cons, readE_cons, st]
    refine read_all ps (n + 1) ⟨put s.fs p, some p⟩ (fun q hq => he q (by simp [hq])) (by unfold put; rw [List.length_set]; exact h3) (fun l h q hq => ?_) (List.pairwise_cons.mp hp).2 fun i hi' => ?_
    · cases h
      exact (List.pairwise_cons.mp hp).1 q hq
    · have hc2 := hc i hi'
      show ((s.fs.set p.1 (s.fs.getD p.1 [] ++ [p.2])).getD i []).length + _ ≤ _
      by_cases hpi : p.1 = i
      · subst hpi
        rw [List.getD_eq_getElem?_getD, List.getElem?_set_self (by omega), Option.getD_some, List.length_append, List.length_singleton]
        omega
      · rw [List.getD_eq_getElem?_getD, List.getElem?_set_ne hpi, ← List.getD_eq_getElem?_getD]
        rw [List.filter_cons, if_neg (by simpa using hpi)] at hc2
        exact hc2
def pairsI (fs : List (List (List Tx))) (i : Nat) : List Ent := (fs.getD i []).map fun e => (i, e)
theorem put_fold : ∀ (es : List (List Tx)) (i : Nat) (gs : List (List (List Tx))), i < gs.length → (es.map fun e => ((i, e) : Ent)).foldl put gs = gs.set i (gs.getD i [] ++ es)
  | [], i, gs, h => by
    simp only [List.map_nil, List.foldl_nil, List.append_nil]
    rw [List.getD_eq_getElem?_getD, List.getElem?_eq_getElem h]
    simp
  | e :: es, i, gs, h => by
    rw [List.map_cons, List.foldl_cons, put_fold es i _ (by unfold put; rw [List.length_set]; exact h)]
    unfold put
    simp only
    rw [List.set_set, List.getD_eq_getElem?_getD, List.getElem?_set_self h]
    simp
theorem filt (fs : List (List (List Tx))) (i j : Nat) : ((pairsI fs j).filter (fun p => p.1 == i)).length = if j = i then (fs.getD j []).length else 0 := by
  unfold pairsI
  rw [List.filter_map, List.length_map]
  by_cases h : j = i
  · rw [if_pos h, List.filter_eq_self.mpr]
    intro a _
    simp [h]
  · rw [if_neg h, List.filter_eq_nil_iff.mpr]
    · rfl
    · intro a _
      simp [h]
theorem len3' {α : Type} {l : List α} (h : l.length = 3) : ∃ a b c, l = [a, b, c] := by
  match l, h with
  | [a, b, c], _ => exact ⟨a, b, c, rfl⟩
theorem reads_back {fs : List (List (List Tx))} (h : GF fs) : ∃ l, readE 0 rs0 (linesN fs 3) = .inr ⟨fs, l⟩ := by
  obtain ⟨A, B, C, rfl⟩ := len3' h.len
  have e1 : linesN [A, B, C] 3 = (pairsI [A, B, C] 0 ++ pairsI [A, B, C] 1 ++ pairsI [A, B, C] 2).map fun p => lineF p.1 p.2 := by
    simp [linesN, linesI, pairsI, List.range_succ, Function.comp_def]
  rw [e1]
  have mem : ∀ p ∈ pairsI [A, B, C] 0 ++ pairsI [A, B, C] 1 ++ pairsI [A, B, C] 2, p.1 < 3 ∧ p.2 ∈ ([A, B, C] : List _).getD p.1 [] := by
    intro p hp
    rcases List.mem_append.mp hp with hp | hp
    · rcases List.mem_append.mp hp with hp | hp
      · obtain ⟨e, he, rfl⟩ := List.mem_map.mp hp; exact ⟨by omega, he⟩
      · obtain ⟨e, he, rfl⟩ := List.mem_map.mp hp; exact ⟨by omega, he⟩
    · obtain ⟨e, he, rfl⟩ := List.mem_map.mp hp; exact ⟨by omega, he⟩
  have one : ∀ i, i < 3 → (pairsI [A, B, C] i).Pairwise (fun a b => ltD (pD a) (pD b) = true) := fun i hi => by
    unfold pairsI
    rw [List.pairwise_map]
    exact List.Pairwise.imp (fun {a b} (z : ltD (tS a) (tS b) = true) => pD_lt1 (p := (i, a)) (q := (i, b)) rfl z) (h.ris i hi)
  obtain ⟨l, hl⟩ := read_all (pairsI [A, B, C] 0 ++ pairsI [A, B, C] 1 ++ pairsI [A, B, C] 2) 0 rs0 (fun p hp => by
      obtain ⟨m1, m2⟩ := mem p hp
      obtain ⟨f1, f2, f3, f4⟩ := h.fit p.1 m1 p.2 m2
      exact ⟨m1, ent_line m1 f1 fun w hw => (f4 w hw).2⟩) rfl (fun l z => by cases z) (by
      rw [List.pairwise_append, List.pairwise_append]
      refine ⟨⟨one 0 (by omega), one 1 (by omega), fun a ha b hb => ?_⟩, one 2 (by omega), fun a ha b hb => ?_⟩
      · obtain ⟨x, _, rfl⟩ := List.mem_map.mp ha
        obtain ⟨y, _, rfl⟩ := List.mem_map.mp hb
        exact pD_lt0 (by show 0 < 1; omega)
      · obtain ⟨y, _, rfl⟩ := List.mem_map.mp hb
        rcases List.mem_append.mp ha with ha | ha
        · obtain ⟨x, _, rfl⟩ := List.mem_map.mp ha; exact pD_lt0 (by show 0 < 2; omega)
        · obtain ⟨x, _, rfl⟩ := List.mem_map.mp ha; exact pD_lt0 (by show 1 < 2; omega)) (fun i hi => by
      have hm := h.most i hi
      have cnt : ((pairsI [A, B, C] 0 ++ pairsI [A, B, C] 1 ++ pairsI [A, B, C] 2).filter (fun p => p.1 == i)).length = (([A, B, C] : List _).getD i []).length := by
        rw [List.filter_append, List.filter_append, List.length_append, List.length_append, filt, filt, filt]
        match i, hi with
        | 0, _ => simp
        | 1, _ => simp
        | 2, _ => simp
      rw [cnt]
      have : (rs0.fs.getD i []).length = 0 := by
        match i, hi with
        | 0, _ => rfl
        | 1, _ => rfl
        | 2, _ => rfl
      omega)
  refine ⟨l, hl.trans ?_⟩
  have f0 : (pairsI [A, B, C] 0).foldl put rs0.fs = [A, [], []] := by
    unfold pairsI; rw [put_fold _ _ _ (by simp [rs0])]; simp [rs0]
  have f1 : (pairsI [A, B, C] 1).foldl put [A, [], []] = [A, B, []] := by
    unfold pairsI; rw [put_fold _ _ _ (by simp)]; simp
  have f2 : (pairsI [A, B, C] 2).foldl put [A, B, []] = [A, B, C] := by
    unfold pairsI; rw [put_fold _ _ _ (by simp)]; simp
  rw [List.foldl_append, List.foldl_append, f0, f1, f2]
end DL

/-! DLn: how long texts of lists are; the laws' lists as texts; _law_lines. -/
namespace DL
open PySem PySem.Spec L2 TL PySem.W
open PyProof.Rows hiding St
theorem join_len (s : Tx) (m : Nat) : ∀ ps : List Tx, (∀ p ∈ ps, p.length ≤ m) → (joinL s ps).length ≤ ps.length * (m + s.length)
  | [], _ => by simp [joinL]
  | [p], h => by
    have := h p (by simp)
    simp only [joinL, List.length_singleton]; omega
  | p :: q :: r, h => by
    have h1 := h p (by simp)
    have h2 := join_len s m (q :: r) fun x hx => h x (List.mem_cons_of_mem _ hx)
    simp only [joinL, List.length_append]
    rw [List.length_cons, Nat.succ_mul]
    omega
theorem join_sum (m : Nat) : ∀ ps : List Tx, (∀ p ∈ ps, p.length ≤ m) → (ps.map (·.length)).sum ≤ ps.length * m
  | [], _ => by simp
  | p :: ps, h => by
    have h1 := h p (by simp)
    have h2 := join_sum m ps fun x hx => h x (List.mem_cons_of_mem _ hx)
    rw [List.map_cons, List.sum_cons, List.length_cons, Nat.succ_mul]
    omega
theorem join_i {S : Sto} {Q : DQ} {a : Tx} {ps : List Tx} {m : Nat} (ha : a.length ≤ 10) (hm : m ≤ 10000) (hn : ps.length ≤ 1000) (h : ∀ p ∈ ps, p.length ≤ m) (q : Q (.str (joinL a ps)) S) : mJoin (.str a) [.lst (ps.map D.str)] S Q := by
  unfold mJoin
  simp only [seqD, asL, txD_ws]
  refine ⟨?_, q⟩
  have h1 := join_sum m ps h
  have h2 : ps.length * m ≤ 1000 * 10000 := Nat.mul_le_mul hn hm
  have h3 : ps.length * a.length ≤ 1000 * 10 := Nat.mul_le_mul hn ha
  omega
/-- words of an entry -/
def okE (e : List Tx) : Prop := e.length ≤ 4 ∧ ∀ w ∈ e, w.length ≤ 8 ∧ ∀ c ∈ w, 65 ≤ c ∧ c < 128
theorem dsh_len {w : Tx} (h : w.length ≤ 8) : (dsh w).length ≤ 8 := by
  unfold dsh; split
  · simp
  · exact h
theorem pcs_len {i : Nat} {e : List Tx} (hi : i < 3) (h : okE e) : ∀ p ∈ kn i :: e.map dsh, p.length ≤ 8 := by
  intro p hp
  rcases List.mem_cons.mp hp with rfl | hp
  · have := (kn_mem hi).2.2.2.2.2.1; omega
  · obtain ⟨w, hw, rfl⟩ := List.mem_map.mp hp
    exact dsh_len (h.2 w hw).1
theorem line_ok {i : Nat} {e : List Tx} (hi : i < 3) (h : okE e) : (lineF i e).length ≤ 45 ∧ 10 ∉ lineF i e ∧ lineF i e ≠ [] ∧ ∀ c ∈ lineF i e, c < 128 := by
  refine ⟨?_, fun z => ?_, fun z => ?_, fun c hc => ?_⟩
  · have h1 := join_len [32] 8 (kn i :: e.map dsh) (pcs_len hi h)
    have h2 : (kn i :: e.map dsh).length ≤ 5 := by
      rw [List.length_cons, List.length_map]; have := h.1; omega
    have : (kn i :: e.map dsh).length * (8 + ([32] : Tx).length) ≤ 5 * 9 := Nat.mul_le_mul h2 (Nat.le_refl _)
    unfold lineF
    omega
  · unfold lineF at z
    rcases mem_joinL z with z | ⟨p, hp, z⟩
    · simp at z
    · rcases List.mem_cons.mp hp with rfl | hp
      · exact (kn_mem hi).2.2.2.1 z
      · obtain ⟨w, hw, rfl⟩ := List.mem_map.mp hp
        exact (dsh_no (h.2 w hw).2).2.1 z
  · have hk := (kn_mem hi).2.2.2.2.1
    unfold lineF at z
    cases hm : e.map dsh with
    | nil => rw [hm] at z; exact hk z
    | cons a r =>
      rw [hm] at z
      simp only [joinL, List.append_eq_nil_iff] at z
      exact hk z.1
  · unfold lineF at hc
    rcases mem_joinL hc with z | ⟨p, hp, z⟩
    · rw [List.mem_singleton.mp z]; omega
    · rcases List.mem_cons.mp hp with rfl | hp
      · exact (kn_mem hi).2.2.2.2.2.2 c z
      · obtain ⟨w, hw, rfl⟩ := List.mem_map.mp hp
        exact (dsh_no (h.2 w hw).2).2.2.2.2 c z
theorem GF.okE {fs : List (List (List Tx))} (h : GF fs) {i : Nat} (hi : i < 3) {e : List Tx} (he : e ∈ fs.getD i []) : okE e := by
  obtain ⟨_, _, h3, h4⟩ := h.fit i hi e he
  exact ⟨h3, h4⟩
theorem linesN_mem {fs : List (List (List Tx))} {n : Nat} {l : Tx} (h : l ∈ linesN fs n) : ∃ i, i < n ∧ ∃ e ∈ fs.getD i [], l = lineF i e := by
  unfold linesN at h
  obtain ⟨i, hi, h⟩ := List.mem_flatMap.mp h
  obtain ⟨e, he, rfl⟩ := List.mem_map.mp h
  exact ⟨i, List.mem_range.mp hi, e, he, rfl⟩
theorem linesN_len {fs : List (List (List Tx))} (h : GF fs) : ∀ n, n ≤ 3 → (linesN fs n).length ≤ 17
  | 0, _ => by simp [linesN]
  | 1, _ => by
    have h0 := h.most 0 (by omega)
    have e0 : mosts.getD 0 0 = 8 := rfl
    rw [linesN_succ, List.length_append]
    simp only [linesI, List.length_map, linesN, List.range_zero, List.flatMap_nil, List.length_nil]
    omega
  | 2, _ => by
    have h0 := h.most 0 (by omega)
    have h1 := h.most 1 (by omega)
    have e0 : mosts.getD 0 0 = 8 := rfl
    have e1 : mosts.getD 1 0 = 3 := rfl
    rw [linesN_succ, linesN_succ, List.length_append, List.length_append]
    simp only [linesI, List.length_map, linesN, List.range_zero, List.flatMap_nil, List.length_nil]
    omega
  | 3, _ => by
    have h0 := h.most 0 (by omega)
    have h1 := h.most 1 (by omega)
    have h2 := h.most 2 (by omega)
    have e0 : mosts.getD 0 0 = 8 := rfl
    have e1 : mosts.getD 1 0 = 3 := rfl
    have e2 : mosts.getD 2 0 = 6 := rfl
    rw [linesN_succ, linesN_succ, linesN_succ, List.length_append, List.length_append, List.length_append]
    simp only [linesI, List.length_map, linesN, List.range_zero, List.flatMap_nil, List.length_nil]
    omega
theorem textF_small {fs : List (List (List Tx))} (h : GF fs) : small 900 (textF fs) := by
  constructor
  · have h1 := join_len [10] 45 (linesN fs 3) fun p hp => by
      obtain ⟨i, hi, e, he, rfl⟩ := linesN_mem hp
      exact (line_ok hi (h.okE hi he)).1
    have h2 := linesN_len h 3 (by omega)
    have : (linesN fs 3).length * (45 + ([10] : Tx).length) ≤ 17 * 46 := Nat.mul_le_mul h2 (Nat.le_refl _)
    unfold textF
    omega
  · intro c hc
    rcases mem_joinL hc with z | ⟨p, hp, z⟩
    · rw [List.mem_singleton.mp z]; omega
    · obtain ⟨i, hi, e, he, rfl⟩ := linesN_mem hp
      exact (line_ok hi (h.okE hi he)).2.2.2 c z
theorem readF_text {fs : List (List (List Tx))} (h : GF fs) : ∃ l, readF (textF fs) = .inr ⟨fs, l⟩ := by
  obtain ⟨l, hl⟩ := reads_back h
  refine ⟨l, ?_⟩
  rw [← hl]
  unfold readF
  congr 1
  unfold linesF
  have hne : ∀ p ∈ linesN fs 3, 10 ∉ p ∧ p ≠ [] := fun p hp => by
    obtain ⟨i, hi, e, he, rfl⟩ := linesN_mem hp
    have := line_ok hi (h.okE hi he)
    exact ⟨this.2.1, this.2.2.1⟩
  unfold textF
  generalize linesN fs 3 = ls at *
  cases ls with
  | nil => simp [joinL]
  | cons a r =>
    have : joinL [10] (a :: r) ≠ [] := by
      intro z
      cases r with
      | nil => exact (hne a (by simp)).2 z
      | cons b r =>
        simp only [joinL, List.append_eq_nil_iff] at z
        exact (hne a (by simp)).2 z.1
    rw [if_neg this, spc_join (by simp) fun p hp => (hne p hp).1]
/-! ### the laws' lists -/
def entsL (L : Lists) : List (List (List Tx)) := [L.stems.map fun p => [p.1, p.2], L.prefs.map fun p => [p.1, p.2.1, p.2.2], L.sufs.map fun p => [p.1, p.2.1, p.2.2.1, p.2.2.2]]
theorem entsL_D (L : Lists) : fsD (entsL L) = dL L := by
  simp only [fsD, entsL, enF, dL, List.map_cons, List.map_nil, List.map_map]
  rfl
theorem abc_65 {w : Tx} (h : abc w) : ∀ c ∈ w, 65 ≤ c ∧ c < 128 := fun c hc => by rcases h c hc with rfl | rfl | rfl <;> omega
theorem abxz_65 {w : Tx} (h : abxz w) : ∀ c ∈ w, 65 ≤ c ∧ c < 128 := fun c hc => by rcases h c hc with rfl | rfl | rfl | rfl <;> omega
theorem one_65 {w : Tx} (h : w = [65] ∨ w = [66] ∨ w = [88] ∨ w = [90]) : w.length ≤ 8 ∧ ∀ c ∈ w, 65 ≤ c ∧ c < 128 := by
  rcases h with rfl | rfl | rfl | rfl <;> decide
theorem GF.of {g : Bool} {L : Lists} (h : LawL g L) : GF (entsL L) where
  len := rfl
  fit := fun i hi e he => by
    match i, hi with
    | 0, _ =>
      obtain ⟨p, hp, rfl⟩ := List.mem_map.mp he
      obtain ⟨h1, h2, h3, h4⟩ := h.stem p hp
      refine ⟨okStem_is (h.stem p hp), by simp, by simp, fun w hw => ?_⟩
      simp only [List.mem_cons, List.not_mem_nil, or_false] at hw
      rcases hw with rfl | rfl
      · exact ⟨by omega, abc_65 h3⟩
      · exact ⟨by have := h4.1; omega, abxz_65 h4.2.2⟩
    | 1, _ =>
      obtain ⟨p, hp, rfl⟩ := List.mem_map.mp he
      obtain ⟨h1, h2, h3, h4, h5, h6⟩ := h.pref p hp
      refine ⟨okPref_is (h.pref p hp), by simp, by simp, fun w hw => ?_⟩
      simp only [List.mem_cons, List.not_mem_nil, or_false] at hw
      rcases hw with rfl | rfl | rfl
      · exact one_65 (by rcases h1 with e | e | e <;> simp [e])
      · exact ⟨by omega, abc_65 h4⟩
      · exact ⟨by omega, abc_65 h5⟩
    | 2, _ =>
      obtain ⟨p, hp, rfl⟩ := List.mem_map.mp he
      obtain ⟨h1, h2, h3, h4, h5, h6, h7⟩ := h.suf p hp
      refine ⟨okSuf_is (h.suf p hp), by simp, by simp, fun w hw => ?_⟩
      simp only [List.mem_cons, List.not_mem_nil, or_false] at hw
      rcases hw with rfl | rfl | rfl | rfl
      · exact one_65 (by rcases h1 with e | e | e <;> simp [e])
      · exact ⟨by omega, abc_65 h5⟩
      · exact ⟨by omega, abc_65 h6⟩
      · exact ⟨by have := h7.1; omega, abxz_65 h7.2.2⟩
  most := fun i hi => by
    have n1 := h.ns
    have n2 := h.np
    have n3 := h.nf
    match i, hi with
    | 0, _ => show (List.map _ _).length ≤ 8; rw [List.length_map]; omega
    | 1, _ => show (List.map _ _).length ≤ 3; rw [List.length_map]; omega
    | 2, _ => show (List.map _ _).length ≤ 6; rw [List.length_map]; omega
  ris := fun i hi => by
    match i, hi with
    | 0, _ =>
      show (List.map _ _).Pairwise _
      have := risD_pw ((ris_sset eP_srt).mpr h.ss)
      rw [List.pairwise_map] at this ⊢
      exact this
    | 1, _ =>
      show (List.map _ _).Pairwise _
      have := risD_pw ((ris_sset e3_srt).mpr h.sp)
      rw [List.pairwise_map] at this ⊢
      exact this
    | 2, _ =>
      show (List.map _ _).Pairwise _
      have := risD_pw ((ris_sset e4_srt).mpr h.sf)
      rw [List.pairwise_map] at this ⊢
      exact this
end DL

/-! DLo: _law_lines. -/
namespace DL
open PySem PySem.Spec L2 TL PySem.W
open PyProof.Rows hiding St
def sp__law_lines : DSp := fun ds S Q _ => ∃ fs, ds = [fsD fs] ∧ GF fs ∧ Q (.lst ((linesN fs 3).map D.str)) S
def tl_ll : DTS := (sDrop (dML mAppend (dVar 1) (aCons (dOp oAdd (dOp oAdd (dVar 2) (dC (.str [32]))) (dMS mJoin (dC (.str [32])) (aCons (dLc (iSeq (dVar 4)) (.nm 5) dYes (dIf (dTest (dOp oNe (dVar 5) (dC (.str [])))) (dVar 5) (dC (.str [45]))) [5]) aNil))) aNil)))
def t__law_lines : DTS := (sSeq (sAsg (dLstM aNil) (.nm 1))
  (sSeq (sFor (iZipM (aCons (dLst (aCons (dC (.str [115, 116, 101, 109])) (aCons (dC (.str [112, 114, 101, 102, 105, 120])) (aCons (dC (.str [115, 117, 102, 102, 105, 120])) aNil)))) (aCons (dVar 0) aNil))) (.tp [(.nm 2), (.nm 3)])
    (sFor (iSeq (dVar 3)) (.nm 4)
    tl_ll))
  (sRet (dVar 1))))
/-- [word if word != '' else '-' for word in entry] -/
theorem dshs_i {te : DTE} {ρ : Env} {S : Sto} {Q : DQ} {n : Nat} {e : List Tx} (hn : n < ρ.length) (he : e.length ≤ 100) (h : ∀ R : List D → (Sto → Prop) → Sto → Prop, R (e.map D.str) (fun _ => True) S → iSeq te ρ S R) (q : Q (.lst ((e.map dsh).map D.str)) S) :
    dLc (iSeq te) (.nm n) dYes (dIf (dTest (dOp oNe (dVar n) (dC (.str [])))) (dVar n) (dC (.str [45]))) [n] ρ S Q := by
  have hz : sizeLine = 16777216 := rfl
  simp only [e_lc]
  refine h _ ?_
  refine lcD_map D.str (fun w => .str (dsh w)) trivial e (by omega) (fun x hx k1 h1 => ?_) ?_
  · have hl : ((wipeD ρ [n]).set n (some (.str x)))[n]? = some (some (.str x)) := by
      rw [List.getElem?_set_self]
      simp [wipeD]; exact hn
    simp only [bound, bindT, e_ife, e_test, e_op, e_var, e_c, hl]
    refine ne_i ?_
    rw [e_tst]
    unfold dsh at h1
    by_cases e0 : x = []
    · simp only [e0, decide_true, Bool.not_true, Bool.false_eq_true, if_false, if_true] at h1 ⊢
      exact h1
    · simp only [e0, decide_false, Bool.not_false, if_false, if_true] at h1 ⊢
      exact h1
  · rw [List.map_map] at q
    exact q
theorem line_eq {i : Nat} {e : List Tx} (h : 1 ≤ e.length) : kn i ++ [32] ++ joinL [32] (e.map dsh) = lineF i e := by
  unfold lineF
  cases e with
  | nil => simp at h
  | cons a r => simp [joinL]
theorem seqT_i {te : DTE} {ρ : Env} {S : Sto} {R : List D → (Sto → Prop) → Sto → Prop} {e : List Tx} (h : ∀ k : DQ, k (tS e) S → te ρ S k) (q : R (e.map D.str) (fun _ => True) S) : iSeq te ρ S R := h _ q
theorem rd__law_lines : ∀ ds S QD, sp__law_lines ds S QD X0 → t__law_lines { nx := fun _ S' => RT S QD .non S', rt := RT S QD } (startD 6 ds) S := by
  rintro ds S QD ⟨fs, rfl, h, q⟩
  have hz : sizeLine = 16777216 := rfl
  refine seq_o fun N hN => ?_
  simp [startD, bound, bindT]
  subst hN
  refine seq_o fun N hN => ?_
  simp only [e_for]
  show (iZipM _) _ _ _
  have step : ∀ R : List D → (Sto → Prop) → Sto → Prop, R ([0, 1, 2].map fun i : Nat => D.tup [.str (kn i), enF (fs.getD i [])]) (fun _ => 3 = fs.length) (S ++ [.lst []]) →
      (iZipM (aCons (dLst (aCons (dC (.str [115, 116, 101, 109])) (aCons (dC (.str [112, 114, 101, 102, 105, 120])) (aCons (dC (.str [115, 117, 102, 102, 105, 120])) aNil)))) (aCons (dVar 0) aNil))) [some (fsD fs), some (.ref S.length), none, none, none, none] (S ++ [.lst []]) R := by
    intro R q
    simp only [iZipM, e_acons, e_lst, e_c, e_anil, e_var, List.getElem?_cons_zero]
    refine ⟨(by decide : 3 ≤ sizeLine), ?_⟩
    show 3 = (fs.map enF).length ∧ _
    obtain ⟨A, B, C, rfl⟩ := len3' h.len
    exact ⟨rfl, q⟩
  refine step _ ?_
  refine forD_ind (fun i : Nat => D.tup [.str (kn i), enF (fs.getD i [])]) (fun pre post ρ S' => ∃ x2 x3 x4 x5 : Option D, pre ++ post = [0, 1, 2] ∧ S' = S ++ [.lst ((pre.flatMap (linesI fs)).map D.str)] ∧ ρ = [some (fsD fs), some (.ref S.length), x2, x3, x4, x5]) ?_ ?_ [0, 1, 2] [] _ _ ⟨_, _, _, _, rfl, rfl, rfl⟩
  · rintro pre ρ S' ⟨x2, x3, x4, x5, hp, rfl, rfl⟩
    refine ⟨h.len.symm, ?_⟩
    dsimp only
    subst hN
    simp
    rw [List.append_nil] at hp
    subst hp
    exact RT.frz (ltnL_map fun p _ => rfl) q
  · rintro pre i post ρ S' N2 hN2 ⟨x2, x3, x4, x5, hp, rfl, rfl⟩
    refine ⟨h.len.symm, ?_⟩
    simp only [bound, bindT, bindTs, List.set]
    have hi : i < 3 := by
      have : i ∈ [0, 1, 2] := by rw [← hp]; simp
      simp at this; omega
    have hpl : (pre.flatMap (linesI fs)).length ≤ 24 := by
      have h1 := len_fm (l := pre) (f := linesI fs) (n := 8) fun x hx => by
        have hx3 : x < 3 := by
          have : x ∈ [0, 1, 2] := by rw [← hp]; simp [hx]
          simp at this; omega
        have := h.most x hx3
        unfold linesI
        rw [List.length_map]
        match x, hx3 with
        | 0, _ => exact this
        | 1, _ => exact Nat.le_trans this (by decide)
        | 2, _ => exact Nat.le_trans this (by decide)
      have h2 : pre.length ≤ 3 := by have := congrArg List.length hp; simp at this; omega
      omega
    simp only [e_for]
    show forD _ _ _ _ ((fs.getD i []).map tS) _ _
    have hm : (fs.getD i []).length ≤ 8 := by
      have := h.most i hi
      match i, hi with
      | 0, _ => exact this
      | 1, _ => exact Nat.le_trans this (by decide)
      | 2, _ => exact Nat.le_trans this (by decide)
    refine forD_ind tS (fun pre2 post2 ρ S' => ∃ x4 x5 : Option D, pre2 ++ post2 = fs.getD i [] ∧ S' = S ++ [.lst ((pre.flatMap (linesI fs) ++ pre2.map (lineF i)).map D.str)] ∧ ρ = [some (fsD fs), some (.ref S.length), some (.str (kn i)), some (enF (fs.getD i [])), x4, x5]) ?_ ?_ (fs.getD i []) [] _ _ ⟨x4, x5, rfl, by simp, rfl⟩
    · rintro pre2 ρ S' ⟨x4, x5, hp2, rfl, rfl⟩
      refine ⟨trivial, hN2 _ _ ⟨_, _, _, _, by simpa using hp, ?_, rfl⟩⟩
      rw [List.append_nil] at hp2
      subst hp2
      rw [List.flatMap_append]
      simp [linesI]
    · rintro pre2 e post2 ρ S' N3 hN3 ⟨x4, x5, hp2, rfl, rfl⟩
      refine ⟨trivial, ?_⟩
      simp only [bound, bindT, List.set]
      have hem : e ∈ fs.getD i [] := by rw [← hp2]; simp
      have hok := h.okE hi hem
      have h1e := (h.fit i hi e hem).2.1
      have hl2 : pre2.length ≤ 8 := by have := congrArg List.length hp2; rw [List.length_append] at this; omega
      have e1 : asL (S ++ [MO.lst ((pre.flatMap (linesI fs) ++ pre2.map (lineF i)).map D.str)]) (.ref S.length) = some ((pre.flatMap (linesI fs) ++ pre2.map (lineF i)).map D.str) := asL_last _
      unfold tl_ll
      simp only [e_drop, e_mL, e_var, e_acons, e_anil, e_op, e_c, e_mS, List.getElem?_cons_succ, List.getElem?_cons_zero, e1]
      refine ⟨rfl, ?_⟩
      have hk := (kn_mem hi).2.2.2.2.2.1
      refine ⟨(by simp; omega : (kn i).length + ([32] : Tx).length ≤ sizeLine), trivial, ?_⟩
      refine dshs_i (e := e) (by simp) (by have := hok.1; omega) (fun R r => ?_) ?_
      · exact seqT_i (fun k hk => hk) r
      have hd : ∀ p ∈ e.map dsh, p.length ≤ 8 := fun p hp => by
        obtain ⟨w, hw, rfl⟩ := List.mem_map.mp hp
        exact dsh_len (hok.2 w hw).1
      have hel : (e.map dsh).length ≤ 4 := by rw [List.length_map]; exact hok.1
      refine join_i (m := 8) (by simp) (by omega) (by omega) hd ?_
      have hjl := join_len [32] 8 _ hd
      have hjl2 : (e.map dsh).length * (8 + ([32] : Tx).length) ≤ 4 * 9 := Nat.mul_le_mul hel (Nat.le_refl _)
      refine ⟨(by rw [List.length_append]; simp; omega : (kn i ++ [32]).length + (joinL [32] (e.map dsh)).length ≤ sizeLine), ?_⟩
      show mAppend (.ref S.length) [.str (kn i ++ [32] ++ joinL [32] (e.map dsh))] _ _
      rw [line_eq h1e]
      unfold mAppend
      simp only [snoc_get]
      refine ⟨by rw [List.length_map, List.length_append, List.length_map]; omega, ?_⟩
      refine hN3 _ _ ⟨_, _, by rw [← hp2]; simp, ?_, rfl⟩
      simp
end DL

/-! DXi: an own exception class over ValueError, whose __init__ says super().__init__(text) and self.line = line. -/
namespace DL
open PySem PySem.Spec L2 PySem.W
open PyProof.Rows hiding St InstAt
/-- what __init__ does of (self, line) -/
def spIni (C : Addr) : Sp := fun vs H Q _ => ∃ (a : Addr) (i : Int), vs = [.ref a, .int i] ∧ H a = some (exo a C none) ∧ ∀ dx, H dx = none → dx ≠ a → Q .non (upd (upd H dx (exd dx [("line", .int i)])) a (exo a C (some dx)))
/-- what the written part says of the class and its __init__ -/
structure IniC (P : Program) (K : PySem.W.Frag) (C fI cda cc : Addr) (nm qual : Str) (st : Stmt) (fd : FuncData) : Prop where
  lk : ∃ (kV doc pm ct oc : Value) (an od : Option Addr) (osl : Array (Option Value)), fd = ksFn nm qual (defArgs st) (defBody st) (defScope st) .none kV doc pm an (.ref cda) ct cc ∧ K.lookup fI = some ⟨oc, od, .func fd, osl⟩
  code : codeIn K (.ref cda) qual = true
  file : ∃ (ccl : Value) (cdd : Option Addr) (vs : Array Value) (ccs : Array (Option Value)) (file : Str) (tf : Tok), K.lookup cda = some ⟨ccl, cdd, .fields vs, ccs⟩ ∧ vs[2]? = some (.str file tf) ∧ ((P.main.file : Str) == file) = true
  cell : ∃ (cl : Value) (cld : Option Addr) (csl : Array (Option Value)), K.lookup cc = some ⟨cl, cld, .cell (some (.ref C)), csl⟩
  cls : ∃ cd, clsIn K C = some cd
  sub : mroIn K C (.ref C) = some true
  opq : nsIn K cStatics "thirdparty.any" = some none
  sup : ks_superIn K C C "__init__" = some (some (.builtin "ValueError.__init__"))
  ve : subIn K (.ref C) (.type "ValueError") = some true
  oex : OexC K C
  fld : findIn K (.ref C) "line" = some none
  ini : excInitIn K C [.type "ValueError", .type "Exception", .type "BaseException", .type "object"] "ValueError.__new__" = true
section
variable {P : Program} {w : World} {K : PySem.W.Frag} {mg : Str → Option Value} {base : Heap} {k : Nat} {C fI cda cc : Addr} {nm qual : Str} {st : Stmt} {fd : FuncData} {p0 p1 p2 p3 p4 p5 p6 p7 p8 p9 : Pos} {msg : Str} {j : Nat} {ar : Arg}
theorem ini_ok (I : IniC P K C fI cda cc nm qual st fd) (hb : defBody st = [.Expr (.Call (.Attribute (.Call (.Name "super" p0) [] [] p1) "__init__" p2) [.Constant (.str msg) j p3] [] p4) p5, .Assign [.Attribute (.Name "self" p6) "line" p7] (.Name "line" p8) p9])
    (har : ((defArgs st).posonlyargs ++ (defArgs st).args).head? = some ar) (hself : ar.arg = "self") {names : List (Str × NameKind)} (hsc : defScope st = { kind := .function, names := names, isGenerator := false, isCoroutine := false })
    (ns : names.lookup ("super" : Str) = some .globalImplicit) (nc : names.lookup ("__class__" : Str) = some .free) (n1 : names.lookup ("self" : Str) = some .local) (n2 : names.lookup ("line" : Str) = some .local)
    (hcell : ∀ x ∈ names, x.2 ≠ .cell) (hsup : mg "super" = none) (htop : (P.main.scope.names.lookup ("super" : Str)).isSome = false)
    (hev : ∀ env : PySem.Env, env.scope = defScope st → ∃ pl : Sem Bool, eval (.Call (.Attribute (.Call (.Name "super" p0) [] [] p1) "__init__" p2) [.Constant (.str msg) j p3] [] p4) env = (do
      let ov ← attributeBase (.Call (.Name "super" p0) [] [] p1) "__init__" env (eval (.Call (.Name "super" p0) [] [] p1) env)
      standAt p2.atName
      let (f, first) ← holding [ov] (getMethod ov "__init__" pl)
      callWith p4 f first (backTo p4 (starEach [.Constant (.str msg) j p3] env)) [])) : FnOk P w K mg base CX0 (k + 1) fI fd ["self", "line"] (spIni C) := by
  obtain ⟨⟨kV, doc, pm, ct, oc, an, od, osl, rfl, lk⟩, hcd, ⟨ccl, cdd, vs, ccs, file, tf, hcode, hvs, hfile⟩, ⟨cl, cld, csl, hcc⟩, ⟨cdC, hD⟩, hsub, hopq, hsu, hve, T, hfld, hini⟩ := I
  generalize defScope st = sc at *
  subst hsc
  have hk : ({ kind := .function, names := names, isGenerator := false, isCoroutine := false } : Scope).kind = .function := rfl
  refine ⟨fun vs H Q E ⟨a, i, e, _⟩ => by rw [e]; rfl, fun A outer s H args us vs Q E hr e0 hbd rv hsp => ?_⟩
  obtain ⟨a, i, rfl, ea, hq⟩ := hsp
  obtain ⟨u1, u2, rfl, r1, r2⟩ : ∃ u1 u2, us = [u1, u2] ∧ RelV (.ref a) u1 ∧ RelV (.int i) u2 := by
    cases rv with
    | cons x1 y => cases y with
      | cons x2 z => cases z; exact ⟨_, _, rfl, x1, x2⟩
  cases r1
  obtain ⟨t2, rfl⟩ := r2
  have stands := fun (b : Addr) (o : Obj) (e : base.get? b = some o) => (e0.bs b o e).1
  have inK : K.In s.heap := e0.mod.kin.keeps stands
  -- the ground: all but the exception
  have hG : K.In (hideAll s.heap [a]) := fun b o e => by
    have := e0.bs b o (e0.mod.kin b o e)
    refine hideAll_get _ this.1 fun z => ?_
    rw [List.mem_singleton.mp z, ea] at this
    cases this.2
  obtain ⟨t1, hex⟩ := exo_at e0.hok ea
  obtain ⟨mb, hmb, hbb⟩ := e0.mod.blt
  have noL := e0.mod.nolimit.keeps stands
  refine ks_codeAny_call_defAt (body := defBody st) hr.depth (inK fI _ lk) rfl noL (codeRec_of inK hcd) rfl hbd hcell (fun y hy => ?_) (fun h1 hns hk1 => ?_) rfl rfl rfl
  · have : y.1 = "self" ∨ y.1 = "line" := by
      have := (List.of_mem_zip (show (y.1, y.2) ∈ _ from hy)).1
      simpa using this
    rcases this with e | e
    · rw [e]; exact n1
    · rw [e]; exact n2
  rw [hb]
  show _root_.PySem.wpAt (model P w) (A.deeper (ksEnv qual { kind := .function, names := names, isGenerator := false, isCoroutine := false } s.heap.objs.size fI (.ref cda) cc)) (.func _ (ksEnv qual { kind := .function, names := names, isGenerator := false, isCoroutine := false } s.heap.objs.size fI (.ref cda) cc)) (execs _ (ksEnv qual { kind := .function, names := names, isGenerator := false, isCoroutine := false } s.heap.objs.size fI (.ref cda) cc)) _ _ _
  -- where things stand
  have F1 : Fr (hideAll s.heap [a]) s.heap.objs.size h1 (fun x => ([("self", .ref a), ("line", .int i t2)] : List (Str × Value)).reverse.lookup x) := ⟨hns, fun b o e => hk1 b o (of_hideAll _ e), Nat.le_of_eq (hideAll_size _ _)⟩
  have N1 : News (hideAll s.heap [a]) s.heap.objs.size h1 [(a, excObj C t1 none .none)] := fun p hp => by
    rw [List.mem_singleton.mp hp]
    exact ⟨hk1 _ _ hex, Nat.ne_of_lt (Heap.lt_size hex), hideAll_none _ (List.mem_singleton.mpr rfl)⟩
  have in1 : ∀ {h : Heap}, (∀ b o, (hideAll s.heap [a]).get? b = some o → h.get? b = some o) → K.In h := fun kk b o e => kk b o (hG b o e)
  obtain ⟨oD, hD1, hD2⟩ : ∃ oD, K.lookup C = some oD ∧ oD.data = .cls cdC := by
    unfold clsIn at hD
    split at hD
    · rename_i c d cd' sl ho
      cases hD
      exact ⟨_, ho, rfl⟩
    · cases hD
  obtain ⟨pl, he⟩ := hev (ksEnv qual { kind := .function, names := names, isGenerator := false, isCoroutine := false } s.heap.objs.size fI (.ref cda) cc) rfl
  refine ks_wpAt_execs_cons (ks_wpAt_Expr_any (ks_wpAt_MethodCall (ks_wpAt_super_base (f := fI) ns nc (by decide) rfl (in1 F1.keep _ _ lk) rfl har rfl (in1 F1.keep _ _ hcode) rfl hvs hfile htop ?_) he))
  have k1 : ∀ b o, base.get? b = some o → h1.get? b = some o := fun b o e => hk1 b o (stands b o e)
  refine ks_loadName_global hk ns (PySem.Calls.loadGlobal_builtin (env := ksEnv qual { kind := .function, names := names, isGenerator := false, isCoroutine := false } s.heap.objs.size fI (.ref cda) cc) (e0.mod.glob.keeps k1) hsup (hmb.keeps k1) ((hbb _ (by decide)).trans (by decide +kernel)) ⟨rfl, ?_⟩)
  refine wpAny_loadName_free hk nc rfl ⟨_, in1 F1.keep _ _ hcc, rfl⟩ ?_
  rw [hself]
  refine wpAny_loadName_local hk n1 F1.ns rfl ?_
  refine ks_wpAny_isType_cls (in1 F1.keep _ _ hD1) hD2 ⟨rfl, ?_⟩
  refine ks_wpAny_call_super (ox := excObj C t1 none .none) (in1 F1.keep _ _ hD1) hD2 (N1 _ (List.mem_singleton.mpr rfl)).1 rfl (fun c e => nomatch e) (looks_mroIn (in1 F1.keep) hsub) fun h2 e2 k2 => ?_
  obtain ⟨F2, N2, l2⟩ := ks_newsPush (s := { heap := h1, gens := s.gens, drawn := s.drawn, toks := s.toks + 2, os := s.os }) F1 N1 rfl e2 k2
  refine kxs_method kxs_ValueError F2 hG N2 (List.mem_cons_self ..) (InstAt.of_exc0 N2 (List.mem_cons_of_mem _ (List.mem_singleton.mpr rfl))) hopq hsu hve (by decide) fun q h3 F3 N3 l3 => ?_
  refine kxs_callWith1 N3 (List.mem_cons_self ..) ?_
  have qa : q ≠ a := Nat.ne_of_gt (l3 (a, excObj C t1 none .none) (List.mem_cons_of_mem _ (List.mem_cons_self ..)))
  have sa : h1.objs.size ≠ a := Nat.ne_of_gt (l2 (a, excObj C t1 none .none) (List.mem_cons_self ..))
  show wpAny _ _ (spliced ((false, eval (.Constant (.str msg) j p3) (ksEnv qual { kind := .function, names := names, isGenerator := false, isCoroutine := false } s.heap.objs.size fI (.ref cda) cc)) :: [])) _ _ _
  refine PySem.Calls.spliced_cons (PySem.Calls.Constant_str (pos := p3) (k := j) (PySem.Calls.spliced_nil ⟨(N3 _ (List.mem_cons_self ..)).1, ?_⟩))
  refine kxs_call F3 hG N3 PySem.F.excBase_ValueError hini (List.mem_cons_self ..) (.tail qa (.tail sa (.head fun p hp => nomatch hp))) (show 1 ≤ sizeLine by decide) fun t3 h4 F4 N4 l4 => ?_
  -- self.line = line
  obtain ⟨nmC, qC, NC, bs, bm, sn, sb, ab, col, dd, c0, c1, c2, c3, c5, hC, hbm⟩ := T.cls
  have hcl : clsIn K C = some { name := nmC, bases := bs, mro := .ref C :: bm, ns := NC, qualname := qC, hasDict := true, slotNames := sn, subclasses := sb, abstract := ab, collection := col, hasDel := false } := by unfold clsIn; rw [hC] <;> rfl
  have hx4 : h4.get? a = some (excObj C t3 none .none) := (N4 (a, excObj C t3 none .none) (List.mem_cons_of_mem _ (List.mem_cons_of_mem _ (List.mem_cons_of_mem _ (List.mem_cons_self ..))))).1
  refine ks_wpAt_execs_cons (wpAt_of_wpAny (plainObj_wpAny_Assign_Attribute (wpAny_Name (wpAny_loadName_local rfl n2 F4.ns rfl ?_)) (by rfl)))
  · refine wpAny_Name (wpAny_loadName_local rfl n1 F4.ns rfl ?_)
    refine set_plain (ox := excObj C t3 none .none) (od := none) (in1 F4.keep) ⟨hx4, rfl, rfl, trivial⟩ T.sa ?_
    refine PySem.HandSPX.exc_osa (in1 F4.keep) hx4 hcl (show PySem.HandSPX.refsVE (.ref C :: bm) = true from hbm) rfl hfld (fun h5 tk5 dx k5 dn dne hx hn => ?_)
    have lL : s.heap.objs.size < h4.objs.size := by
      obtain ⟨o, _, _, e, _⟩ := F4.ns
      exact Heap.lt_size e
    have ldx : s.heap.objs.size ≤ dx := Nat.le_trans (Nat.le_of_lt lL) dn
    have hnd : H dx = none := e0.hok.fresh ldx
    have old : ∀ {b : Addr} {o : Obj}, s.heap.get? b = some o → b ≠ a → h5.get? b = some o := fun {b o} e hb => k5 b o hb (F4.keep b o (hideAll_get _ e fun z => hb (List.mem_singleton.mp z)))
    have ndx : ∀ {b : Addr} {o : Obj}, s.heap.get? b = some o → b ≠ dx := fun {b o} e => Nat.ne_of_lt (Nat.lt_of_lt_of_le (Heap.lt_size e) ldx)
    have nea : ∀ {b : Addr}, H b = none → b ≠ a := fun {b} z y => by
      rw [y, ea] at z
      cases z
    refine wpAt_of_wpAny (wpAny_execs_nil ?_)
    refine ⟨.non, upd (upd H dx (exd dx [("line", .int i)])) a (exo a C (some dx)), rfl, e0.bare, ?_, ?_, rfl, hq dx hnd dne⟩
    · exact {
        keep := fun b o e n _ _ => old e (nea n)
        slot := fun b o e n _ _ => ⟨o.slots, old e (nea n)⟩
        free := fun b o e n _ => by rw [upd_ne (nea n), upd_ne (ndx e)]; exact n
        there := fun b o e _ => (Classical.em (b = a)).elim (fun z => ⟨_, (congrArg h5.get? z).trans hx⟩) fun z => ⟨o, old e z⟩
        tups := fun b xs e => by rw [upd_ne (at_ne ea e exo_tup), upd_ne (ne_of_none e hnd)]; exact e
        frzs := fun b o v e => by rw [upd_ne (at_ne ea e exo_frz), upd_ne (ne_of_none e hnd)]; exact e
        tbls := fun b ps e => ⟨#[], (upd_ne (at_ne ea e exo_tbl)).trans ((upd_ne (ne_of_none e hnd)).trans (e.trans (by simp)))⟩ }
    · intro b o e
      by_cases ba : b = a
      · subst ba
        rw [upd_same] at e
        cases e
        exact exo_ok hx
      · rw [upd_ne ba] at e
        by_cases bd : b = dx
        · subst bd
          rw [upd_same] at e
          cases e
          exact exd_ok hn (relO_put (fs := []) (show RelV (.int i) (.int i t2) from ⟨t2, rfl⟩) fun g => True.intro)
        · rw [upd_ne bd] at e
          refine (e0.hok b o e).stay (fun c v hc z => old z ?_) (fun c hc => ?_) (fun c xs hc => ?_)
          · rcases hc with hc | hc
            · rw [hc]; exact ba
            · exact at_ne ea hc exo_own
          · rw [upd_ne (at_ne ea hc exo_own), upd_ne (ne_of_none hc hnd)]; exact hc
          · rw [upd_ne (at_ne ea hc exo_tup), upd_ne (ne_of_none hc hnd)]; exact hc
end
end DL

/-! DXr: raise C(line) out of a def; a def that catches it and hands out e.line. -/
namespace DL
open PySem PySem.Spec L2 PySem.W
open PyProof.Rows hiding St InstAt
/-- what is wanted of an exception with a line -/
def CXL (K : PySem.W.Frag) (φ : Phi) (H : Hp) (XD : DXK) (E : XK) : Prop := ∀ cls dx i H' φ' S', StoOk K H' φ' S' → Ext φ H φ' H' → H' dx = some (.xd [("line", .int i)]) → XD cls [.int i] S' → E cls (some dx) H'
theorem CXL.ext {K : PySem.W.Frag} {H H' : Hp} {φ φ' : Phi} {XD : DXK} {E : XK} (c : CXL K φ H XD E) (e : Ext φ H φ' H') : CXL K φ' H' XD E := fun cls d i H2 φ2 S2 ok x p q => c cls d i H2 φ2 S2 ok (e.trans x) p q
def GL (K : PySem.W.Frag) (XD : DXK) (E : XK) : GX := ⟨fun φ H => CXL K φ H XD E, fun _ _ _ _ e h => h.ext e⟩
def liftSpL (K : PySem.W.Frag) (sp : DSp) : Sp := fun vs H Q E => ∃ φ ds S QD XD, StoOk K H φ S ∧ IsL K H φ ds vs ∧ sp ds S QD XD ∧ CQ K φ H QD Q ∧ CXL K φ H XD E
/-- an exception leaves a def: as it is, or with what the def made let go -/
def RX (S : Sto) (XD : DXK) : DXK := fun cls pl S' => XD cls pl S' ∨ (Kept S S' ∧ XD cls pl (S'.take S.length))
theorem CXL.rx {K : PySem.W.Frag} {H : Hp} {φ : Phi} {S : Sto} {XD : DXK} {E : XK} (ok0 : StoOk K H φ S) (c : CXL K φ H XD E) : CXL K φ H (RX S XD) E := by
  intro cls dx i H' φ' S' ok e hx q
  rcases q with q | ⟨kp, q⟩
  · exact c cls dx i H' φ' S' ok e hx q
  · exact c cls dx i H' ⟨φ'.L.take S.length, φ'.R⟩ (S'.take S.length) (ok0.cutS ok kp) (Ext.cut ok0 e) hx q
theorem RX.cut {S T : Sto} {XD : DXK} {cls : Value} {pl : List D} (q : XD cls pl S) : RX S XD cls pl (S ++ T) := .inr ⟨Kept.app _ _, by simpa using q⟩
section
variable {P : Program} {w : World} {K : PySem.W.Frag} {mg : Str → Option Value} {base : Heap}
theorem dfnL {x qual : Str} {st : Stmt} {f : Addr} {fd : FuncData} {N ps : List Str} {k n : Nat} {sp : DSp} (F : Fun K x qual st f fd) (Sc : FnScope N ps (defScope st)) (hn : N.length = n) (len : ∀ ds S Q X, sp ds S Q X → ds.length = ps.length)
    (hbody : ∀ (cdv : Value) (A : Around) (outer : List PySem.Env) (s : Shared) (H : Hp) (E : XK), Room k (A.deeper (envOfC qual (defScope st) s.heap.objs.size f cdv)) →
      ∀ XD, ∃ t, DSs (cxOf (L2.CX P w) P w K mg base N qual (defScope st) f cdv A outer s H E) (GL K XD E) (defBody st) t ∧
        ∀ ds S QD XD0, XD = RX S XD0 → sp ds S QD XD0 → t { nx := fun _ S' => RT S QD .non S', rt := RT S QD } (startD n ds) S) : FnOk P w K mg base (L2.CX P w) (k + 1) f fd ps (liftSpL K sp) := by
  refine F.okX Sc (fun vs H Q E h => ?_) fun cdv A outer s H vs Q E hr h => ?_
  · obtain ⟨φ, ds, S, QD, XD, ok, hl, h, _⟩ := h
    rw [← hl.length]
    exact len _ _ _ _ h
  · obtain ⟨φ, ds, S, QD, XD, ok, hl, h, c, cx⟩ := h
    obtain ⟨t, ht, hq⟩ := hbody cdv A outer s H E hr (RX S XD)
    refine ⟨_, ht, φ, startD n ds, S, _, hn ▸ rel_start ok hl (cx.rx ok), hq ds S QD XD rfl h, ⟨?_, c.rt ok, fun _ _ _ _ _ _ _ z => z.elim, fun _ _ _ _ _ _ _ z => z.elim⟩⟩
    intro σ' H' φ' ρ' S' r' e' q'
    exact (c.rt ok) .non H' φ' .non S' r'.sto e' rfl q'
end
section
variable {X : Cx} {XD : DXK} {E : XK} {x : Str} {C fI : Addr} {k : Nat} {fd : FuncData} {e : Expr} {te : DTE} {p q pos : Pos}
/-- raise C(e), e an int -/
def sRaiseI (C : Addr) (XD : DXK) (te : DTE) : DTS := fun _ ρ S => te ρ S fun d S1 => match d with
  | .int i => XD (.ref C) [.int i] S1
  | _ => False
theorem ds_raise (hc : X.calm = true) (tk : Takes X fun cls d _ H => E cls d H) (T : OexC X.K C) (iC : findIn X.K (.ref C) "__init__" = some (some (.ref fI))) (tI : typeIn X.K (.ref fI) = some (.type "function"))
    (F1 : FnOk X.prog X.w X.K X.mg X.base CX0 k fI fd ["self", "line"] (spIni C)) (hr : Room (k + 1) X.A) (hb : Binds X.K fd ["self", "line"] []) (hm : X.mg x = some (.ref C)) (he : DE X (GL X.K XD E) e te) (hg : Gl X x := by rfl) (hdb : (x == ("__debug__" : Str)) = false := by decide)
    (h1 : starEach [e] X.env = (false, eval e X.env) :: starEach [] X.env := by rfl) (hpl : (backTo q (starEach [] X.env)).any (·.1) = false := by rfl) :
    DS X (GL X.K XD E) (.Raise (some (.Call (.Name x p) [e] [] q)) none pos) (sRaiseI C XD te) := by
  refine (ps_raise hc tk (pmk_oex T iC tI F1 hr hb .nil pass0 hg hm (da_cons he da_nil h1) hdb h1 hpl)).weak fun D σ H h => ?_
  obtain ⟨φ, ρ, S, DD, r, h, c⟩ := h
  refine ⟨φ, ρ, S, fun ds S1 => ∃ i, ds = [.int i] ∧ XD (.ref C) [.int i] S1, r, ?_, fun vs H1 φ1 ds S1 ok1 e1 i1 q1 => ?_⟩
  · show te ρ S _
    have e0 : sRaiseI C XD te DD ρ S = te ρ S fun d S1 => match d with
      | .int i => XD (.ref C) [.int i] S1
      | _ => False := rfl
    rw [e0] at h
    refine cast ?_ h
    congr 1
    funext d S1
    cases d <;> simp [aNil]
  · obtain ⟨i, rfl, q1⟩ := q1
    obtain ⟨v, rr, rfl, iv, er⟩ := i1
    cases iv
    cases er
    refine ⟨by show 1 ≤ 1000; omega, fun a ha => ⟨a, i, rfl, upd_same, fun dx hd hne => ⟨rfl, dx, [("line", .int i)], upd_same, ?_, ?_, ?_⟩⟩⟩
    · rw [upd_ne hne]; exact upd_same
    · rw [upd_ne hne] at hd; exact hd
    · rw [upd_ne hne] at hd
      have eh : upd (del (upd (upd (upd H1 a (exo a C none)) dx (exd dx [("line", .int i)])) a (exo a C (some dx))) a) dx (.xd [("line", .int i)]) = upd H1 dx (.xd [("line", .int i)]) := by
        funext b
        by_cases b1 : b = dx
        · subst b1; rw [upd_same, upd_same]
        · rw [upd_ne b1, upd_ne b1]
          by_cases b2 : b = a
          · subst b2; rw [del_same, ha]
          · rw [del_ne b2, upd_ne b2, upd_ne b1, upd_ne b2]
      rw [eh]
      exact r.g (.ref C) dx i _ φ1 S1 (ok1.fresh hd) (e1.trans (Ext.fresh hd)) upd_same q1
end
/-! ### try: return f(x) except C as e: return e.line if isinstance(e, B) and isinstance(e, ValueError) else None -/
/-- what the written part says of the class -/
structure TelC (K : PySem.W.Frag) (C B : Addr) : Prop where
  hcl : (clsIn K C).isSome = true
  hga : findIn K (.ref C) "__getattribute__" = some (some (.builtin "BaseException.__getattribute__"))
  hgt : findIn K (.ref C) "__getattr__" = some none
  hsub : subIn K (.ref C) (.type "BaseException") = some true
  ha : findIn K (.ref C) "__class__" = some (some (.builtin "object.__class__"))
  hn : specialIn K (.builtin "object.__class__") "__get__" = some (some (.builtin "getset_descriptor.__get__"))
  htk : takesIn K (.builtin "object.__class__") = some true
  hm : mroIn K C (.type "object") = some true
  hd : hasDictIn K C = true
  ty : typeIn K (.ref C) = some (.type "type")
  self : subIn K (.ref C) (.ref C) = some true
  isB : kitOne K (.ref C) (.ref B) = some true
  isV : kitOne K (.ref C) (.type "ValueError") = some true
  fld : findIn K (.ref C) "line" = some none
theorem call_isL {X : Cx} {a dx C B : Addr} {oe : Obj} {pn : List (Addr × Obj)} (T : TelC X.K C B) (hz : Zc (.ref C) (some dx) oe) (hf : ∃ vs, oe.data = .fields vs) : CallR (X.suite a ((a, oe) :: pn)) (.builtin "isinstance")
    (fun xs H Q => ∃ (c : V) (cv : Value) (fs : List (Str × V)), xs = [.ref a, c] ∧ (∀ u, RelV c u → u = cv) ∧ kitOne X.K (.ref C) cv = some true ∧ H dx = some (.xd fs) ∧ Q (.bl true) H) := by
  intro pins s σ H xs us Q I r h
  obtain ⟨c, cv, fs, rfl, hcv, e, ed, q⟩ := h
  cases r with
  | cons rx rr =>
    cases rr with
    | cons rt rr =>
      cases rr
      cases rx
      have ec := hcv _ rt
      subst ec
      obtain ⟨hget, _⟩ := I.pin (a, oe) (List.mem_append.mpr (.inl List.mem_cons_self))
      obtain ⟨vs, hv⟩ := hf
      have hx : ObjOk X.prog X.w H s.heap dx (.xd fs) := I.hok dx _ ed
      obtain ⟨mA, hns, _⟩ := hx
      obtain ⟨od, ho, _⟩ := lookIn_ns hns
      have J : InstAt s.heap a oe C (some od) := ⟨hget, hz.1, by unfold notCls; rw [hv] <;> rfl, by rw [hz.2]; exact ho⟩
      exact kia_one (kitx_exc T.hcl T.hga T.hgt T.hsub T.ha T.hn T.htk T.hm) I.kIn J e (fun z => nomatch z) fun tk => ⟨.bl true, H, I.kept (t' := tk) fun _ _ z => z, rfl, q⟩
section
variable {X : Cx} {G : GX} {sp : DSp} {f C B : Addr} {fd : FuncData} {k : Nat} {ps : List Str} {p1 p2 p3 p4 np p5 p6 p7 p8 p9 q1 q2 q3 q4 q5 q6 q7 q8 q9 pos pos' : Pos} {jn : Nat}
/-- what it hands out -/
def sTold (C : Addr) (sp : DSp) : DTS := fun D ρ S => match ρ[0]? with
  | some (some d) => 2 ≤ ρ.length ∧ sp [d] S D.rt fun cls pl S' => cls = .ref C ∧ ∃ i, pl = [.int i] ∧ D.rt (.int i) S'
  | _ => False
theorem ds_told (T : TelC X.K C B) (hs : X.stack = X.env :: X.outer) (hf : X.env.frame = some X.env.locals) (hN : X.N.Nodup) (h0 : X.N[0]? = some ("value" : Str)) (h1 : X.N[1]? = some ("e" : Str)) (hn : X.env.kindOf "e" = some .local) (hv : Vis X.env.scope "value")
    (F : FnOk X.prog X.w X.K X.mg X.base (L2.CX X.prog X.w) k f fd ps (liftSpL X.K sp)) (hr : Room k X.A) (hmf : X.mg "read_list" = some (.ref f)) (hkf : keepIn X.K (.ref f) = true) (hb : Binds X.K fd ps []) (hgf : Gl X "read_list")
    (hC : X.mg "InvalidText" = some (.ref C)) (hgC : Gl X "InvalidText") (hB : X.mg "ListError" = some (.ref B)) (hgB : Gl X "ListError") (hi : X.mg "isinstance" = none) (hgi : Gl X "isinstance") (hV : X.mg "ValueError" = none) (hgV : Gl X "ValueError")
    (s1 : ∀ Y : Cx, Y.env = X.env → starEach [.Name "value" p2] Y.env = (false, eval (.Name "value" p2) Y.env) :: starEach [] Y.env) (s2 : (backTo p3 (starEach [] X.env)).any (·.1) = false)
    (s3 : starEach [.Name "e" q2, .Name "ListError" q3] X.env = (false, eval (.Name "e" q2) X.env) :: starEach [.Name "ListError" q3] X.env) (s4 : starEach [.Name "ListError" q3] X.env = (false, eval (.Name "ListError" q3) X.env) :: starEach [] X.env) (s5 : (backTo q4 (starEach [.Name "ListError" q3] X.env)).any (·.1) = false)
    (s6 : starEach [.Name "e" q6, .Name "ValueError" q7] X.env = (false, eval (.Name "e" q6) X.env) :: starEach [.Name "ValueError" q7] X.env) (s7 : starEach [.Name "ValueError" q7] X.env = (false, eval (.Name "ValueError" q7) X.env) :: starEach [] X.env) (s8 : (backTo q8 (starEach [.Name "ValueError" q7] X.env)).any (·.1) = false)
    (s9 : attributeBase (.Name "e" p5) "line" X.env (eval (.Name "e" p5) X.env) = eval (.Name "e" p5) X.env) (hpass : PassesOwn (model X.prog X.w) X.A X.env X.xe) :
    DS X G (.Try [.Return (some (.Call (.Name "read_list" p1) [.Name "value" p2] [] p3)) p4] [.ExceptHandler (some (.Name "InvalidText" np)) (some "e")
      [.Return (some (.IfExp (.BoolOp .And [.Call (.Name "isinstance" q1) [.Name "e" q2, .Name "ListError" q3] [] q4, .Call (.Name "isinstance" q5) [.Name "e" q6, .Name "ValueError" q7] [] q8] q9) (.Attribute (.Name "e" p5) "line" p6) (.Constant .none jn p7) p8)) p9] pos'] [] [] pos) (sTold C sp) := by
  have TB : ∀ (W : WX) (pn : List (Addr × Obj)) (xe : Value → Shared → Prop), Takes (X.tr pn xe) W → PSs (X.tr pn xe) [.Return (some (.Call (.Name "read_list" p1) [.Name "value" p2] [] p3)) p4] (tRet (tCallS (liftSpL X.K sp) (WE W) (liftA X.K GX.tt (aCons (dVar 0) aNil)))) := fun W pn xe tk' =>
    pss_one (ps_ret (pe_callS (X := X.tr pn xe) F hr hgf hmf hkf hb (fun σ => passAt tk' σ) (da_cons (X := X.tr pn xe) (G := GX.tt) (de_var 0 h0 hv) da_nil (s1 _ rfl)) (by decide) (s1 _ rfl) s2))
  let ts : Addr → Value → Option Addr → TS := fun a cls d D σ H => ∃ dx fs w, cls = .ref C ∧ d = some dx ∧ H dx = some (.xd fs) ∧ fs.lookup ("line" : Str) = some w ∧ σ[1]? = some (some (.ref a)) ∧ D.rt w H
  have SU : ∀ (a : Addr) (oe : Obj) (cls : Value) (d : Option Addr) (pn : List (Addr × Obj)), Zc cls d oe → (∃ vs, oe.data = .fields vs) → PSs (X.suite a ((a, oe) :: pn))
      [.Return (some (.IfExp (.BoolOp .And [.Call (.Name "isinstance" q1) [.Name "e" q2, .Name "ListError" q3] [] q4, .Call (.Name "isinstance" q5) [.Name "e" q6, .Name "ValueError" q7] [] q8] q9) (.Attribute (.Name "e" p5) "line" p6) (.Constant .none jn p7) p8)) p9] (ts a cls d) := by
    intro a oe cls d pn hz hfl
    refine ⟨fun pins s σ H D I h => ?_⟩
    obtain ⟨dx, fs, w, rfl, rfl, hd, hl, hσ, hq⟩ := h
    have ve : Vis (X.suite a ((a, oe) :: pn)).env.scope "e" := .inl hn
    have v1 := pe_var (X := X.suite a ((a, oe) :: pn)) (pos := q2) h1 ve
    have v2 := pe_var (X := X.suite a ((a, oe) :: pn)) (pos := q6) h1 ve
    have v3 := pe_var (X := X.suite a ((a, oe) :: pn)) (pos := p5) h1 ve
    have g1 := pe_glob (X := X.suite a ((a, oe) :: pn)) (pos := q3) (v := .ref B) hgB hB rfl
    have g2 := pe_bltn (X := X.suite a ((a, oe) :: pn)) (pos := q7) (v := .ty "ValueError") hgV hV PyProof.Rows.Boot.«ValueError» rfl
    have i1 := pe_callB (p := q1) (pos := q4) (call_isL T hz hfl) hgi hi PyProof.Rows.boot_isinstance (pa_cons v1 (pa_cons g1 pa_nil s4) s3) (by decide) (by decide) s3 s5
    have i2 := pe_callB (p := q5) (pos := q8) (call_isL T hz hfl) hgi hi PyProof.Rows.boot_isinstance (pa_cons v2 (pa_cons g2 pa_nil s7) s6) (by decide) (by decide) s6 s8
    have xf := pe_xf (pos := p6) ⟨T.hga, T.hgt, T.hsub, T.hd⟩ T.fld hz hfl v3 s9
    have all := pss_one (ps_ret (pos := p9) (pe_ifExp (pos := p8) (PW.pt (pw_and (pos := q9) (pt_val i1) (pw_and1 (pt_val i2)))) xf (pe_non (pos := p7) (j := jn))))
    refine all.run pins s σ H D I ?_
    refine ⟨.ref a, hσ, _, _, fs, rfl, fun u ru => ?_, T.isB, hd, true, rfl, ?_⟩
    · exact ru
    refine iteT ?_
    refine ⟨.ref a, hσ, .ty "ValueError", _, fs, rfl, fun u ru => ru, T.isV, hd, true, rfl, iteT ?_⟩
    exact ⟨.ref a, hσ, rfl, rfl, dx, fs, w, rfl, hd, hl, hq⟩
  refine (ps_try_as (Wout := fun _ _ _ _ => False) (tb := fun W => tRet (tCallS (liftSpL X.K sp) (WE W) (liftA X.K GX.tt (aCons (dVar 0) aNil)))) (ts := ts) hs hf hN h1 hn ⟨hgC, by decide, .inl hC⟩ takes0 (fun W pn xe tk' _ => TB W pn xe tk') SU).weak fun D σ H h => ?_
  obtain ⟨φ, ρ, S, DD, r, h, c⟩ := h
  unfold sTold at h
  split at h
  · rename_i d ed
    refine ⟨φ, ρ, S, fun ds S1 => ds = [d] ∧ S1 = S, ⟨r.sto, r.len, r.env, trivial⟩, ?_, fun vs H1 φ1 ds S1 ok1 e1 i1 q1 => ?_⟩
    · show dVar 0 ρ S _
      unfold dVar
      rw [ed]
      exact ⟨rfl, rfl⟩
    · obtain ⟨rfl, rfl⟩ := q1
      refine ⟨φ1, _, _, DD.rt, _, ok1, i1, h.2, c.rt.ext e1, ?_⟩
      intro cls dx i H2 φ2 S2 ok2 e2 hx hq
      obtain ⟨rfl, j, ej, hq⟩ := hq
      cases ej
      refine ⟨true, exm_ref T.hsub T.hd T.ty T.self, fun _ a na => ?_, fun z => nomatch z⟩
      have hl : 1 < σ.length := Nat.lt_of_lt_of_le h.1 r.len
      exact ⟨dx, _, .int i, rfl, rfl, hx, by simp [List.lookup], List.getElem?_set_self hl, c.rt _ _ φ2 (.int i) S2 ok2 (e1.trans e2) rfl hq⟩
  · exact h.elim
end
end DL

/-! DXq: [..].index(text); xs[::-1] of a list. -/
namespace DL
open PySem PySem.Spec L2 TL PySem.W
open PyProof.Rows hiding St InstAt
section
variable {X : Cx}
theorem type_lindex : typeOf (.builtin "list.index") = pure (.type "method_descriptor") := by show builtinType _ = _; rw [builtinType_eq_fast]; kernel_rfl
def mIndexL : DM := fun d es S Q => match d, es with
  | .lst ds, [.str l] => match txL ds with
    | some ls => match ls.idxOf? l with
      | some j => Q (.int (j : Nat)) S
      | none => False
    | none => False
  | _, _ => False
theorem txL_eq : ∀ {ds : List D} {ls : List Tx}, txL ds = some ls → ds = ls.map D.str
  | [], ls, h => by cases h; rfl
  | .str l :: ds, ls, h => by
    simp only [txL, Option.map_eq_some_iff] at h
    obtain ⟨ms, h, rfl⟩ := h
    rw [txL_eq h]; rfl
  | .non :: _, _, h => by simp [txL] at h
  | .bl _ :: _, _, h => by simp [txL] at h
  | .int _ :: _, _, h => by simp [txL] at h
  | .ty _ :: _, _, h => by simp [txL] at h
  | .glob _ :: _, _, h => by simp [txL] at h
  | .ref _ :: _, _, h => by simp [txL] at h
  | .tup _ :: _, _, h => by simp [txL] at h
  | .lst _ :: _, _, h => by simp [txL] at h
  | .dK _ _ :: _, _, h => by simp [txL] at h
  | .dT _ _ :: _, _, h => by simp [txL] at h
theorem m_indexL (hu : X.A.units + 65 < cLine) : OpM X "list.index" mIndexL := ⟨_, mt_indexD hu, fun H φ S d ds x xs QD Q ok i1 i2 h c => by
  unfold mIndexL at h
  split at h
  · rename_i es l
    split at h
    · rename_i ls hls
      split at h
      · rename_i j hj
        obtain rfl := txL_eq hls
        obtain ⟨y, rfl, iy⟩ := i2.one
        have ol : okd 8 (.lst (ls.map D.str)) = true := by simp only [okd]; exact okds_map fun e _ => rfl
        have a1 := vw_dp (n := 8) (by decide) ok (d := .lst (ls.map D.str)) ol i1
        have a2 := vw_dp (n := 8) (by decide) ok (d := .str l) rfl iy
        obtain ⟨a, ys, rfl, _⟩ := i1
        rw [List.idxOf?_eq_some_iff] at hj
        obtain ⟨z1, z2, z3⟩ := hj
        have et : toPs (ls.map D.str) = ls.map fun e => PyData.str (sx e) := by rw [toPs_map, List.map_map]; rfl
        have ev : ∀ p q : Tx, PyData.eqv (.str (sx p)) (.str (sx q)) = decide (p = q) := fun p q => eqD_str p q
        refine ⟨a, y, .str (sx l), toPs (ls.map D.str), j, .str (sx l), rfl, rfl, a1.1, a2.1, a1.2, a2.2, ?_, ?_, fun m z hm hz => ?_, c _ H φ (.int _) S ok .refl rfl h⟩
        · rw [et]; simp [z1, z2]
        · rw [ev]; simp
        · rw [et] at hz
          have hlt : m < ls.length := by omega
          rw [List.getElem?_map, List.getElem?_eq_getElem hlt] at hz
          obtain rfl := Option.some.inj hz
          rw [ev]
          exact decide_eq_false fun e => z3 m hm e
      · exact h.elim
    · exact h.elim
  · exact h.elim⟩
end
section
variable {X : Cx} {G : GX} {pos p1 p2 p3 : Pos} {e : Expr} {te : DTE}
def tRevLs (K : PySem.W.Frag) (te : TE) : TE := fun σ H Q => te σ H fun x H1 => ∃ a xs, x = .ref a ∧ SqL K H1 a xs ∧ ∀ p, H1 p = none → Q (.ref p) (upd H1 p (.lst xs.reverse))
theorem vals_revl {xs : List V} {us : List Value} (r : Vals xs us) : Vals xs.reverse us.reverse := by
  induction r with
  | nil => exact .nil
  | cons a b ih =>
    rw [List.reverse_cons, List.reverse_cons]
    exact ih.append (.cons a .nil)
theorem pe_revLs {te : TE} {k : Nat} (he : PE X e te) : PE X (.Subscript e (.Slice none none (some (.UnaryOp .USub (.Constant (.int 1) k p1) p2)) p3) pos) (tRevLs X.K te) := by
  refine ⟨fun pins s σ H Q I h => ?_⟩
  refine Subscript_ (thn (he.run pins s σ H _ I h) fun v s1 ⟨x, H1, I1, r1, a, xs, ex, hs, q⟩ => ?_)
  subst ex
  cases r1
  have step : PO X (some (.UnaryOp .USub (.Constant (.int 1) k p1) p2)) (tPart (tUn (rU fun i => .int (-i)) (tC (.int 1)))) := po_some (pe_un un_neg pe_int)
  refine wpAny_Slice (thn (po_none.run pins s1 σ H1 (fun o H2 => o = none ∧ H2 = H1) I1 ⟨rfl, rfl⟩) fun vl s2 ⟨lo, H2, I2, pl, el, e2⟩ => ?_)
  subst el e2
  refine thn (po_none.run pins s2 σ H2 (fun o H3 => o = none ∧ H3 = H2) I2 ⟨rfl, rfl⟩) fun vu s3 ⟨hi, H3, I3, pu, eu, e3⟩ => ?_
  subst eu e3
  refine thn (step.run pins s3 σ H3 (fun o H4 => o = some (-1) ∧ H4 = H3) I3 ⟨1, rfl, -1, rfl, rfl, rfl⟩) fun vs s4 ⟨o, H4, I4, ps, eo, e4⟩ => ?_
  subst eo e4
  have I5 : Inv X pins σ H4 { s4 with heap := s4.heap.push { cls := .type "slice", data := .fields #[vl, vu, vs] } } := I4.kept (t' := s4.toks) fun b ob q => Heap.get?_push_of_some _ q
  obtain ⟨its, r, ht, hz⟩ := I5.list hs
  have hlen := r.length
  refine tail_any (ops := [.ref a, .ref s4.heap.objs.size]) ht.isList.typeIs slot_list_getitem.lookup ?_ (by with_unfolding_all rfl)
  refine wpAny_getItem_list_slice ht.isList ⟨_, Heap.get?_push_size _ rfl, rfl, rfl⟩ pl pu ps (by simp) ?_ (by rw [List.size_toArray]; omega)
  rw [krv_pick]
  refine ⟨.ref (s4.heap.push { cls := .type "slice", data := .fields #[vl, vu, vs] }).objs.size, _, I5.laid (t' := s4.toks) (o := .lst xs.reverse) (fun b ob q => Heap.get?_push_of_some _ q) (Nat.le_refl _) ?_, rfl, q _ (I5.hok.fresh (Nat.le_refl _))⟩
  exact ⟨by rw [List.length_reverse]; exact hz, its.reverse, 0, vals_revl r, Heap.get?_push_size _ rfl⟩
def dRevL (te : DTE) : DTE := fun ρ S Q => te ρ S fun d S1 => match d with
  | .lst ds => Q (.lst ds.reverse) S1
  | _ => False
theorem de_revL {k : Nat} (he : DE X G e te) : DE X G (.Subscript e (.Slice none none (some (.UnaryOp .USub (.Constant (.int 1) k p1) p2)) p3) pos) (dRevL te) := by
  refine (pe_revLs he).weak fun σ H Q ⟨φ, ρ, S, QD, R, h, c⟩ => ?_
  refine ⟨φ, ρ, S, _, R, h, fun v H1 φ1 d S1 ok1 e1 i1 q1 => ?_⟩
  cases d with
  | lst ds =>
    obtain ⟨a, xs, rfl, hs, hl⟩ := i1
    exact ⟨a, xs, rfl, hs.sq, fun p hp => c _ _ φ1 (.lst ds.reverse) S1 (ok1.fresh hp) (e1.trans (Ext.fresh hp)) (.newLst ok1 hp hl.reverse) q1⟩
  | _ => exact q1.elim
end
end DL

/-! DXs: the law's own reading of a line: _law_signs, _law_flags_in, _law_entry. -/
namespace DL
open PySem PySem.Spec L2 TL PySem.W
open PyProof.Rows hiding St InstAt
abbrev AZ : Tx := [65, 66, 67, 68, 69, 70, 71, 72, 73, 74, 75, 76, 77, 78, 79, 80, 81, 82, 83, 84, 85, 86, 87, 88, 89, 90]
abbrev az : Tx := [97, 98, 99, 100, 101, 102, 103, 104, 105, 106, 107, 108, 109, 110, 111, 112, 113, 114, 115, 116, 117, 118, 119, 120, 121, 122]
def sgB (w : Tx) (lo hi : Int) (sg : Tx) : Bool := decide (lo ≤ w.length) && decide ((w.length : Int) ≤ hi) && w.all fun c => decide (c ∈ sg)
def sp__law_signs : DSp := fun ds S Q _ => ∃ w lo hi sg, ds = [.str w, .int lo, .int hi, .str sg] ∧ w.length ≤ 1000 ∧ Q (.bl (sgB w lo hi sg)) S
def t__law_signs : DTS := (sRet (dAndV (dChain oLe oLe (dVar 1) (dCB bLen (aCons (dVar 0) aNil)) (dVar 2)) (dOp oEq (dLc (iSeq (dVar 0)) (.nm 4) (dTest (dOp (oInC true) (dVar 4) (dVar 3))) (dVar 4) [4]) (dLst aNil))))
theorem and_t2 {a b : Prop} (h : a) : andOf (.bl true) a b := h
theorem all_filter (sg : Tx) : ∀ w : Tx, decide ((w.filter fun c => !decide (c ∈ sg)) = []) = w.all fun c => decide (c ∈ sg)
  | [] => rfl
  | c :: w => by
    rw [List.filter_cons, List.all_cons, ← all_filter sg w]
    by_cases h : c ∈ sg <;> simp [h]
theorem rd__law_signs : ∀ ds S QD, sp__law_signs ds S QD X0 → t__law_signs { nx := fun _ S' => RT S QD .non S', rt := RT S QD } (startD 5 ds) S := by
  rintro ds S QD ⟨w, lo, hi, sg, rfl, hw, q⟩
  have hz : sizeLine = 16777216 := rfl
  unfold t__law_signs
  simp [startD, bLen, oCmp]
  refine ⟨by omega, ?_⟩
  unfold sgB at q
  by_cases h1 : lo ≤ (w.length : Int)
  · by_cases h2 : (w.length : Int) ≤ hi
    · rw [decide_eq_true h1, decide_eq_true h2, Bool.true_and, Bool.true_and] at q
      rw [if_pos h1, if_pos h2]
      show lcD _ _ _ _ _ (w.map fun c => D.str [c]) _ _ _
      refine lcD_filter (fun c : Nat => D.str [c]) (fun c => !decide (c ∈ sg)) trivial w (by omega) (fun c hc k1 k0 h1 h0 => ?_) ?_
      · simp [bound, bindT, wipeD, oInC]
        by_cases hc : c ∈ sg
        · simp only [hc, decide_true, Bool.not_true] at h0
          simp only [hc, not_true, if_false]
          exact h0 trivial
        · simp only [hc, decide_false, Bool.not_false] at h1
          simp only [hc, not_false_eq_true, if_true]
          exact h1 trivial
      · generalize hf : (w.filter fun c => !decide (c ∈ sg)) = fl
        have e := all_filter sg w
        rw [hf] at e
        refine ⟨by simp only [vw, okd]; exact okds_map fun c _ => rfl, rfl, ?_⟩
        have e2 : eqD (vw S (.lst (fl.map fun c => D.str [c]))) (vw S (.lst [])) = decide (fl = []) := by
          show eqD (.lst (fl.map fun c => D.str [c])) (.lst []) = _
          rw [eqD_lst]
          have := eqDs_enc eS1_sort.1 fl []
          exact this
        rw [e2, e]
        exact RT.here q
    · rw [decide_eq_false h2, Bool.and_false, Bool.false_and] at q
      rw [if_pos h1, if_neg h2]
      exact RT.here q
  · rw [decide_eq_false h1, Bool.false_and, Bool.false_and] at q
    rw [if_neg h1]
    exact RT.here q
theorem signs_i {S : Sto} {Q : DQ} {E : DXK} {w sg : Tx} {lo hi : Int} (hw : w.length ≤ 1000) (q : Q (.bl (sgB w lo hi sg)) S) : sp__law_signs [.str w, .int lo, .int hi, .str sg] S Q E := ⟨w, lo, hi, sg, rfl, hw, q⟩
theorem sg_az (w : Tx) (lo hi : Int) : sgB w lo hi az = isLet w lo hi := by
  unfold sgB isLet
  congr 1
  exact List.all_congr rfl fun c => mem_abcz c
theorem sg_AZ (w : Tx) (lo hi : Int) : sgB w lo hi AZ = (decide (lo ≤ w.length) && decide ((w.length : Int) ≤ hi) && w.all fltr) := by
  unfold sgB
  congr 1
  exact List.all_congr rfl fun c => mem_AZ c
theorem sg_flag (w : Tx) : sgB w 1 1 AZ = isFlag (.str w) := by
  rw [sg_AZ]
  match w with
  | [] => rfl
  | [c] => simp [isFlag]
  | a :: b :: r =>
    have : ¬ (((a :: b :: r).length : Int) ≤ 1) := by simp only [List.length_cons]; omega
    rw [decide_eq_false this]
    simp [isFlag]
theorem listS_i {S : Sto} {Q : DQ} {w : Tx} (hw : w.length ≤ 1000) (q : Q (.lst (w.map fun c => .str [c])) S) : bListG [.str w] S Q := by
  have hz : sizeLine = 16777216 := rfl
  unfold bListG lstOf
  simp only
  rw [if_pos (by omega)]
  exact q
/-! ### _law_flags_in -/
def sp__law_flags_in : DSp := fun ds S Q _ => ∃ w, ds = [.str w] ∧ w.length ≤ 1000 ∧ Q (.bl (flagsT w)) S
def t__law_flags_in : DTS := (sRet (dAndV (dCall sp__law_signs X0 (aCons (dVar 0) (aCons (dC (.int 0)) (aCons (dC (.int 4)) (aCons (dC (.str [65, 66, 67, 68, 69, 70, 71, 72, 73, 74, 75, 76, 77, 78, 79, 80, 81, 82, 83, 84, 85, 86, 87, 88, 89, 90])) aNil))))) (dOp oEq (dCB bListG (aCons (dVar 0) aNil)) (dSortSetG (dVar 0)))))
theorem rd__law_flags_in : ∀ ds S QD, sp__law_flags_in ds S QD X0 → t__law_flags_in { nx := fun _ S' => RT S QD .non S', rt := RT S QD } (startD 1 ds) S := by
  rintro ds S QD ⟨w, rfl, hw, q⟩
  unfold t__law_flags_in
  simp [startD]
  refine signs_i hw ?_
  have es : sgB w 0 4 AZ = (decide (w.length ≤ 4) && w.all fltr) := by
    rw [sg_AZ, decide_eq_true (p := (0 : Int) ≤ w.length) (by omega), Bool.true_and]
    congr 1
    exact decide_eq_decide.mpr (by omega)
  rw [es]
  unfold flagsT at q
  cases hb : (decide (w.length ≤ 4) && w.all fltr) with
  | false =>
    rw [hb] at q
    exact RT.here q
  | true =>
    rw [hb] at q
    have h4 : w.length ≤ 4 := by
      rw [Bool.and_eq_true] at hb
      exact of_decide_eq_true hb.1
    refine and_t2 ?_
    refine listS_i hw ?_
    refine ssg_i (enc := fun c : Nat => D.str [c]) (xs := w) eS1_sort rfl (str_set (fun c => [c]) (by omega)) (str_so (fun c => [c]) w) ?_
    refine ⟨by simp only [vw, okd]; exact okds_map fun c _ => rfl, by simp only [vw, okd]; exact okds_map fun c _ => rfl, ?_⟩
    have e2 : eqD (vw S (.lst (w.map fun c => D.str [c]))) (vw S (.lst ((sset (fun c : Nat => D.str [c]) w).map fun c => D.str [c]))) = rise w := by
      show eqD (.lst (w.map fun c => D.str [c])) (.lst ((sgs w).map fun c => D.str [c])) = rise w
      rw [eqD_lst, eqDs_enc eS1_sort.1]
      by_cases h3 : rise w = true
      · rw [h3, decide_eq_true (sgs_self.mpr h3).symm]
      · rw [decide_eq_false fun z => h3 (sgs_self.mp z.symm)]
        simpa using h3
    rw [e2]
    exact RT.here q
theorem flags_in_i {S : Sto} {Q : DQ} {E : DXK} {w : Tx} (hw : w.length ≤ 1000) (q : Q (.bl (flagsT w)) S) : sp__law_flags_in [.str w] S Q E := ⟨w, rfl, hw, q⟩
/-! ### _law_entry -/
theorem inLt_i {S : Sto} {Q : DQ} {k : Tx} {ws : List Tx} (q : Q (.bl (!decide (k ∈ ws))) S) : oInL true (.str k) (.lst (ws.map D.str)) S Q := by
  refine ⟨rfl, ?_, ?_⟩
  · simp only [okd]; exact okds_map fun e _ => rfl
  · have e : (ws.map D.str).any (fun z => eqD z (.str k)) = decide (k ∈ ws) := by
      rw [List.any_map, Bool.eq_iff_iff, List.any_eq_true, decide_eq_true_iff]
      constructor
      · rintro ⟨z, hz, h⟩
        have : z = k := by simpa [eqD_str] using h
        rw [← this]; exact hz
      · intro h
        exact ⟨k, h, by simp [eqD_str]⟩
    simpa [e] using q
theorem eq_i {S : Sto} {Q : DQ} {a b : Tx} (q : Q (.bl (decide (a = b))) S) : oEq (.str a) (.str b) S Q := by
  refine ⟨rfl, rfl, ?_⟩
  show Q (.bl (eqD (.str a) (.str b))) S
  rw [eqD_str]; exact q
theorem ne_int_i {S : Sto} {Q : DQ} {a b : Int} (q : Q (.bl (!decide (a = b))) S) : oNe (.int a) (.int b) S Q := by
  refine ⟨rfl, rfl, ?_⟩
  show Q (.bl (!eqD (.int a) (.int b))) S
  rw [eqD_int]; exact q
theorem ixL_i {S : Sto} {Q : DQ} {es : List Tx} {j : Nat} {a : Tx} (h : es[j]? = some a) (q : Q (.str a) S) : oIx (.lst (es.map D.str)) (.int (j : Nat)) S Q := by
  have hj := (List.getElem?_eq_some_iff.mp h).1
  have e : L2.atI (es.map D.str) (j : Int) = some (.str a) := by
    unfold L2.atI
    have : ixN (es.map D.str).length (j : Int) = some j := by
      rw [List.length_map]
      unfold ixN
      simp [hj]
    rw [this]
    simp [h]
  simp only [oIx, asL]
  rw [e]
  exact q
theorem kindL_i {S : Sto} {Q : DQ} {k : Tx} (hk : k ∈ kinds) (q : Q (.int (kinds.idxOf k : Nat)) S) : mIndexL (.lst [.str [115, 116, 101, 109], .str [112, 114, 101, 102, 105, 120], .str [115, 117, 102, 102, 105, 120]]) [.str k] S Q := by
  show (match kinds.idxOf? k with
    | some j => Q (.int (j : Nat)) S
    | none => False)
  have e : kinds.idxOf? k = some (kinds.idxOf k) := by
    simp only [kinds, List.mem_cons, List.not_mem_nil, or_false] at hk
    rcases hk with rfl | rfl | rfl <;> decide
  rw [e]
  exact q
theorem andV_i {ta tb : DTE} {ρ : Env} {S : Sto} {Q : DQ} {x y : Bool} (ha : ∀ k : DQ, k (.bl x) S → ta ρ S k) (hb : ∀ k : DQ, k (.bl y) S → tb ρ S k) (q : Q (.bl (x && y)) S) : dAndV ta tb ρ S Q := by
  rw [e_andV]
  refine ha _ ?_
  cases x with
  | true => exact and_t2 (hb _ q)
  | false => exact q
theorem sg_at {S : Sto} {es : List Tx} {ρ : Env} {j : Nat} {a sg : Tx} {lo hi : Int} {te : DTE} (h4 : ρ[4]? = some (some (.lst (es.map D.str)))) (ha : es[j]? = some a) (hl : a.length ≤ 1000) (ht : ∀ k : DQ, k (.str sg) S → te ρ S k) (k : DQ) (q : k (.bl (sgB a lo hi sg)) S) :
    dCall sp__law_signs X0 (aCons (dOp oIx (dVar 4) (dC (.int (j : Nat)))) (aCons (dC (.int lo)) (aCons (dC (.int hi)) (aCons te aNil)))) ρ S k := by
  simp only [e_call, e_acons, e_op, e_var, e_c, e_anil, h4]
  refine ixL_i ha (ht _ ?_)
  exact signs_i hl q
theorem fl_at {S : Sto} {es : List Tx} {ρ : Env} {j : Nat} {a : Tx} (h4 : ρ[4]? = some (some (.lst (es.map D.str)))) (ha : es[j]? = some a) (hl : a.length ≤ 1000) (k : DQ) (q : k (.bl (flagsT a)) S) :
    dCall sp__law_flags_in X0 (aCons (dOp oIx (dVar 4) (dC (.int (j : Nat)))) aNil) ρ S k := by
  simp only [e_call, e_acons, e_op, e_var, e_c, e_anil, h4]
  exact ixL_i ha (flags_in_i hl q)
def sp__law_entry : DSp := fun ds S Q _ => ∃ w, ds = [.str w] ∧ small 900 w ∧ Q (oD (entF w)) S
def t__law_entry : DTS := (sSeq (sPar 1 2 (dMS mSplit (dVar 0) (aCons (dC (.str [32])) aNil)) (dC (.str [97, 98, 99, 100, 101, 102, 103, 104, 105, 106, 107, 108, 109, 110, 111, 112, 113, 114, 115, 116, 117, 118, 119, 120, 121, 122])))
  (sSeq (sIf (dOr (dTest (dOp (oInL true) (dOp oIx (dVar 1) (dC (.int 0))) (dLst (aCons (dC (.str [115, 116, 101, 109])) (aCons (dC (.str [112, 114, 101, 102, 105, 120])) (aCons (dC (.str [115, 117, 102, 102, 105, 120])) aNil)))))) (dTest (dOp (oInL false) (dC (.str [])) (dVar 1)))) (sRet (dC .non)) sNext)
  (sSeq (sAsg (dML mIndexL (dLst (aCons (dC (.str [115, 116, 101, 109])) (aCons (dC (.str [112, 114, 101, 102, 105, 120])) (aCons (dC (.str [115, 117, 102, 102, 105, 120])) aNil)))) (aCons (dOp oIx (dVar 1) (dC (.int 0))) aNil)) (.nm 3))
  (sSeq (sAsg (dLc (iSeq (dSl (dVar 1) (pSome (dC (.int 1))) pNone)) (.nm 6) dYes (dIf (dTest (dOp oEq (dVar 6) (dC (.str [45])))) (dC (.str [])) (dVar 6)) [6]) (.nm 4))
  (sSeq (sIf (dTest (dOp oNe (dCB bLen (aCons (dVar 4) aNil)) (dOp oAdd (dVar 3) (dC (.int 2))))) (sRet (dC .non)) sNext)
  (sSeq (sIf (dTest (dOp oEq (dVar 3) (dC (.int 0)))) (sAsg (dAndV (dCall sp__law_signs X0 (aCons (dOp oIx (dVar 4) (dC (.int 0))) (aCons (dC (.int 1)) (aCons (dC (.int 8)) (aCons (dVar 2) aNil))))) (dCall sp__law_flags_in X0 (aCons (dOp oIx (dVar 4) (dC (.int 1))) aNil))) (.nm 5)) (sSeq (sAsg (dCall sp__law_signs X0 (aCons (dOp oIx (dVar 4) (dC (.int 0))) (aCons (dC (.int 1)) (aCons (dC (.int 1)) (aCons (dC (.str [65, 66, 67, 68, 69, 70, 71, 72, 73, 74, 75, 76, 77, 78, 79, 80, 81, 82, 83, 84, 85, 86, 87, 88, 89, 90])) aNil))))) (.nm 5))
  (sSeq (sAsg (dAndV (dVar 5) (dAndV (dCall sp__law_signs X0 (aCons (dOp oIx (dVar 4) (dC (.int 1))) (aCons (dC (.int 0)) (aCons (dC (.int 6)) (aCons (dVar 2) aNil))))) (dCall sp__law_signs X0 (aCons (dOp oIx (dVar 4) (dC (.int 2))) (aCons (dC (.int 0)) (aCons (dC (.int 6)) (aCons (dVar 2) aNil))))))) (.nm 5))
  (sAsg (dAndV (dVar 5) (dIf (dTest (dOp oEq (dVar 3) (dC (.int 1)))) (dOp oNe (dOp oIx (dVar 4) (dC (.int 1))) (dOp oIx (dVar 4) (dC (.int 2)))) (dCall sp__law_flags_in X0 (aCons (dOp oIx (dVar 4) (dC (.int 3))) aNil)))) (.nm 5)))))
  (sRet (dIf (dTest (dVar 5)) (dTup (aCons (dVar 3) (aCons (dCB bTuple (aCons (dVar 4) aNil)) aNil))) (dC .non)))))))))


theorem rd__law_entry : ∀ ds S QD, sp__law_entry ds S QD X0 → t__law_entry { nx := fun _ S' => RT S QD .non S', rt := RT S QD } (startD 7 ds) S := by
  rintro ds S QD ⟨w, rfl, hw, q⟩
  obtain ⟨hl, hp⟩ := pieces hw
  have hlen := hw.1
  have hne := spc_ne 32 w []
  have hz : sizeLine = 16777216 := rfl
  unfold entF at q
  refine seq_o fun N hN => ?_
  simp [startD, isS, mSplit]
  refine ⟨by omega, ?_⟩
  rw [spl_spc]
  generalize spc 32 [] w = ws at *
  obtain ⟨k, r, rfl⟩ := List.exists_cons_of_ne_nil hne
  unfold entW at q
  subst hN
  refine seq_o fun N hN => ?_
  simp only [e_if, e_or, e_test, e_op, e_var, e_c, e_lst, e_acons, e_anil, List.getElem?_cons_succ, List.getElem?_cons_zero]
  refine at_0 ⟨(by decide : 3 ≤ sizeLine), inLt_i (ws := kinds) ?_⟩
  simp only [e_tst]
  by_cases hk : k ∈ kinds
  · simp only [hk, decide_true, Bool.not_true, Bool.false_eq_true, if_false]
    refine inL_i ?_
    simp only [e_tst]
    by_cases h0 : [] ∈ k :: r
    · simp only [h0, decide_true, if_true, not_true, and_false, if_false] at q ⊢
      exact RT.here q
    · simp only [h0, hk, decide_false, Bool.false_eq_true, if_false, not_false_eq_true, and_self, if_true, e_next] at q ⊢
      subst hN
      refine seq_o fun N hN => ?_
      simp only [e_asg, e_mL, e_lst, e_op, e_acons, e_anil, e_c, e_var, List.getElem?_cons_succ, List.getElem?_cons_zero]
      refine ⟨(by decide : 3 ≤ sizeLine), rfl, at_0 (kindL_i hk ?_)⟩
      simp [bound, bindT]
      subst hN
      refine seq_o fun N hN => ?_
      simp only [e_asg, e_lc, e_sl, e_var, e_c, e_pn, List.getElem?_cons_succ, List.getElem?_cons_zero]
      simp [iSeq, pSome, rSl, asL, cutD_from]
      refine lcD_map D.str (fun w => .str (und w)) trivial r (by simp at hl; omega) (fun x hx k1 h1 => ?_) ?_
      · simp [bound, bindT, wipeD]
        refine eq_i ?_
        simp
        unfold und at h1
        split <;> simp_all
      · have ee : r.map (fun w => D.str (und w)) = (r.map und).map D.str := by rw [List.map_map]; rfl
        rw [ee]
        have hes : ∀ e ∈ r.map und, e.length ≤ 1000 := fun e he => by
          obtain ⟨x, hx, rfl⟩ := List.mem_map.mp he
          have := (und_small (hp x (List.mem_cons_of_mem _ hx))).1
          omega
        have hel : (r.map und).length ≤ 900 := by rw [List.length_map]; simp at hl; omega
        generalize r.map und = es at *
        have hi3 : kinds.idxOf k < 3 := List.idxOf_lt_length_of_mem hk
        generalize kinds.idxOf k = i at *
        simp only [bound, bindT, List.set]
        subst hN
        refine seq_o fun N hN => ?_
        simp only [e_if, e_test, e_op, e_var, e_c, e_cb, e_acons, e_anil, List.getElem?_cons_succ, List.getElem?_cons_zero]
        rw [show bLen [.lst (es.map D.str)] S = fun Q => Q (.int ((es.map D.str).length : Nat)) S from rfl]
        simp only
        rw [show oAdd (.int (i : Nat)) (.int 2) S = fun Q => Q (.int ((i : Nat) + 2)) S from rfl]
        simp only
        refine ne_int_i ?_
        rw [e_tst, List.length_map]
        by_cases hlen2 : es.length = i + 2
        · rw [decide_eq_true (p := ((es.length : Nat) : Int) = (i : Nat) + 2) (by omega)]
          refine iteF ?_
          simp only [e_next]
          subst hN
          refine seq_o fun N hN => ?_
          simp only [e_if, e_test, e_op, e_var, e_c, List.getElem?_cons_succ, List.getElem?_cons_zero]
          refine eq_int_i ?_
          rw [e_tst]
          have fin : ∀ (b : Bool) (x6 : Option D), b = fitI i es → N [some (.str w), some (.lst (D.str k :: List.map D.str r)), some (.str az), some (.int (i : Nat)), some (.lst (es.map D.str)), some (.bl b), x6] S := by
            intro b x6 hb
            subst hN hb
            simp only [e_ret, e_ife, e_test, e_var, e_tup, e_acons, e_anil, e_cb, e_c, List.getElem?_cons_succ, List.getElem?_cons_zero, e_tst]
            rw [show bTuple [.lst (es.map D.str)] S = fun Q => Q (tS es) S from rfl]
            simp only
            cases hb : fitI i es with
            | true =>
              rw [hb] at q
              exact iteT ⟨(by decide : 2 ≤ sizeLine), RT.here q⟩
            | false =>
              rw [hb] at q
              exact iteF (RT.here q)
          match i, hi3 with
          | 0, _ =>
            obtain ⟨a, b, rfl⟩ : ∃ a b, es = [a, b] := by
              match es, hlen2 with
              | [a, b], _ => exact ⟨a, b, rfl⟩
            refine iteT ?_
            simp only [e_asg]
            refine andV_i (x := isLet a 1 8) (y := flagsT b) (fun k2 h2 => sg_at (es := [a, b]) (j := 0) rfl rfl (hes a (by simp)) (sg := az) (fun k3 h3 => h3) k2 (by rw [sg_az]; exact h2)) (fun k2 h2 => fl_at (es := [a, b]) (j := 1) rfl rfl (hes b (by simp)) k2 h2) ?_
            exact fin _ _ rfl
          | 1, _ =>
            obtain ⟨a, b, c, rfl⟩ : ∃ a b c, es = [a, b, c] := by
              match es, hlen2 with
              | [a, b, c], _ => exact ⟨a, b, c, rfl⟩
            refine iteF ?_
            refine seq_o fun N2 hN2 => ?_
            simp only [e_asg]
            refine sg_at (es := [a, b, c]) (j := 0) rfl rfl (hes a (by simp)) (sg := AZ) (fun k3 h3 => h3) _ ?_
            rw [sg_flag]
            simp only [bound, bindT, List.set]
            subst hN2
            refine seq_o fun N2 hN2 => ?_
            simp only [e_asg]
            refine andV_i (x := isFlag (.str a)) (y := isLet b 0 6 && isLet c 0 6) (fun k2 h2 => h2) (fun k2 h2 => andV_i (x := isLet b 0 6) (y := isLet c 0 6) (fun k2 h2 => sg_at (es := [a, b, c]) (j := 1) rfl rfl (hes b (by simp)) (sg := az) (fun k3 h3 => h3) k2 (by rw [sg_az]; exact h2)) (fun k2 h2 => sg_at (es := [a, b, c]) (j := 2) rfl rfl (hes c (by simp)) (sg := az) (fun k3 h3 => h3) k2 (by rw [sg_az]; exact h2)) h2) ?_
            simp only [bound, bindT, List.set]
            subst hN2
            simp only [e_asg]
            refine andV_i (x := isFlag (.str a) && (isLet b 0 6 && isLet c 0 6)) (y := !decide (b = c)) (fun k2 h2 => h2) (fun k2 h2 => ?_) ?_
            · simp only [e_ife, e_test, e_op, e_var, e_c, List.getElem?_cons_succ, List.getElem?_cons_zero]
              refine eq_int_i ?_
              rw [e_tst]
              refine iteT ?_
              exact ixL_i (es := [a, b, c]) (j := 1) rfl (ixL_i (es := [a, b, c]) (j := 2) rfl (ne_i h2))
            · refine fin _ _ ?_
              show _ = (isFlag (.str a) && isLet b 0 6 && isLet c 0 6 && !eqD (.str b) (.str c))
              rw [eqD_str]
              simp only [Bool.and_assoc]
          | 2, _ =>
            obtain ⟨a, b, c, d, rfl⟩ : ∃ a b c d, es = [a, b, c, d] := by
              match es, hlen2 with
              | [a, b, c, d], _ => exact ⟨a, b, c, d, rfl⟩
            refine iteF ?_
            refine seq_o fun N2 hN2 => ?_
            simp only [e_asg]
            refine sg_at (es := [a, b, c, d]) (j := 0) rfl rfl (hes a (by simp)) (sg := AZ) (fun k3 h3 => h3) _ ?_
            rw [sg_flag]
            simp only [bound, bindT, List.set]
            subst hN2
            refine seq_o fun N2 hN2 => ?_
            simp only [e_asg]
            refine andV_i (x := isFlag (.str a)) (y := isLet b 0 6 && isLet c 0 6) (fun k2 h2 => h2) (fun k2 h2 => andV_i (x := isLet b 0 6) (y := isLet c 0 6) (fun k2 h2 => sg_at (es := [a, b, c, d]) (j := 1) rfl rfl (hes b (by simp)) (sg := az) (fun k3 h3 => h3) k2 (by rw [sg_az]; exact h2)) (fun k2 h2 => sg_at (es := [a, b, c, d]) (j := 2) rfl rfl (hes c (by simp)) (sg := az) (fun k3 h3 => h3) k2 (by rw [sg_az]; exact h2)) h2) ?_
            simp only [bound, bindT, List.set]
            subst hN2
            simp only [e_asg]
            refine andV_i (x := isFlag (.str a) && (isLet b 0 6 && isLet c 0 6)) (y := flagsT d) (fun k2 h2 => h2) (fun k2 h2 => ?_) ?_
            · simp only [e_ife, e_test, e_op, e_var, e_c, List.getElem?_cons_succ, List.getElem?_cons_zero]
              refine eq_int_i ?_
              rw [e_tst]
              refine iteF ?_
              exact fl_at (es := [a, b, c, d]) (j := 3) rfl rfl (hes d (by simp)) k2 h2
            · refine fin _ _ ?_
              show _ = (isFlag (.str a) && isLet b 0 6 && isLet c 0 6 && flagsT d)
              simp only [Bool.and_assoc]
        · rw [decide_eq_false (p := ((es.length : Nat) : Int) = (i : Nat) + 2) (by omega)]
          refine iteT ?_
          have hf : fitI i es = false := by
            have hne : ¬ (es.map D.str).length = i + 2 := by rw [List.length_map]; exact hlen2
            match i, hi3 with
            | 0, _ => exact isStem_ne hne
            | 1, _ => exact isPref_ne hne
            | 2, _ => exact isSuf_ne hne
          rw [hf] at q
          exact RT.here q
  · simp only [hk, decide_false, Bool.not_false, if_true, false_and, if_false] at q ⊢
    exact RT.here q
end DL

/-! DXu: _law_reading, read_list, what is told. -/
namespace DL
open PySem PySem.Spec L2 TL PySem.W
open PyProof.Rows hiding St InstAt
def ofK (F : List Ent) (i : Nat) : List (List Tx) := (F.filter fun p => p.1 == i).map (·.2)
def fsOf (F : List Ent) : List (List (List Tx)) := [ofK F 0, ofK F 1, ofK F 2]
def stF (F : List Ent) : RS := ⟨fsOf F, F.getLast?⟩
def toldD (w : Tx) : D := match readF w with
  | .inr s => fsD s.fs
  | .inl n => .int (n : Nat)
theorem fsOf_get {F : List Ent} {i : Nat} (hi : i < 3) : (fsOf F).getD i [] = ofK F i := by
  match i, hi with
  | 0, _ => rfl
  | 1, _ => rfl
  | 2, _ => rfl
theorem ofK_app (F : List Ent) (p : Ent) (i : Nat) : ofK (F ++ [p]) i = if p.1 = i then ofK F i ++ [p.2] else ofK F i := by
  unfold ofK
  rw [List.filter_append, List.map_append]
  by_cases h : p.1 = i
  · rw [if_pos h]; simp [h]
  · rw [if_neg h]; simp [h]
theorem fsOf_put {F : List Ent} {p : Ent} (hi : p.1 < 3) : (fsOf F).set p.1 ((fsOf F).getD p.1 [] ++ [p.2]) = fsOf (F ++ [p]) := by
  rw [fsOf_get hi]
  unfold fsOf
  rw [ofK_app, ofK_app, ofK_app]
  obtain ⟨i, e⟩ := p
  match i, hi with
  | 0, _ => rfl
  | 1, _ => rfl
  | 2, _ => rfl
theorem badF_st {F : List Ent} {p : Ent} (hi : p.1 < 3) : badF (stF F) p ↔ (F.getLast?.any fun l => !ltD (pD l) (pD p)) = true ∨ (F.filter fun q => q.1 == p.1).length = mosts.getD p.1 0 := by
  unfold badF stF
  simp only
  rw [fsOf_get hi]
  unfold ofK
  rw [List.length_map]
theorem stepF_st {F : List Ent} {x : Tx} {p : Ent} (he : entF x = some p) : stepF (stF F) x = if badF (stF F) p then none else some (stF (F ++ [p])) := by
  unfold stepF
  rw [he]
  simp only
  by_cases h : badF (stF F) p
  · rw [if_pos h, if_pos h]
  · rw [if_neg h, if_neg h]
    show some (RS.mk ((fsOf F).set p.1 ((fsOf F).getD p.1 [] ++ [p.2])) (some p)) = some (RS.mk (fsOf (F ++ [p])) (F ++ [p]).getLast?)
    rw [fsOf_put (ent_lt he), List.getLast?_append]
    rfl
def sp__law_reading : DSp := fun ds S Q _ => ∃ w, ds = [.str w] ∧ small 900 w ∧ Q (toldD w) S
def tl_l1 : DTT := (dOr (dTest (dOp oIsN (dVar 4) (dC .non))) (dAnd (dTest (dOp oNe (dVar 1) (dLst aNil))) (dNot (dTest (dOp oLtT (dOp oIx (dVar 1) (dUn oNeg (dC (.int 1)))) (dVar 4))))))
def tl_l2 : DTE := (dCB bLen (aCons (dLc (iSeq (dVar 1)) (.nm 5) (dTest (dOp oEq (dOp oIx (dVar 5) (dC (.int 0))) (dOp oIx (dVar 4) (dC (.int 0))))) (dVar 5) [5]) aNil))
def t__law_reading : DTS := (sSeq (sAsg (dLstM aNil) (.nm 1))
  (sSeq (sIf (dTest (dOp oEq (dVar 0) (dC (.str [])))) (sRet (dTup (aCons (dTup aNil) (aCons (dTup aNil) (aCons (dTup aNil) aNil))))) sNext)
  (sSeq (sFor (iEn (aCons (dMS mSplit (dVar 0) (aCons (dC (.str [10])) aNil)) aNil)) (.tp [(.nm 2), (.nm 3)])
    (sSeq (sAsg (dCall sp__law_entry X0 (aCons (dVar 3) aNil)) (.nm 4))
  (sSeq (sIf tl_l1 (sRet (dOp oAdd (dVar 2) (dC (.int 1)))) sNext)
  (sSeq (sIf (dTest (dOp oEq tl_l2 (dOp oIx (dLst (aCons (dC (.int 8)) (aCons (dC (.int 3)) (aCons (dC (.int 6)) aNil)))) (dOp oIx (dVar 4) (dC (.int 0)))))) (sRet (dOp oAdd (dVar 2) (dC (.int 1)))) sNext)
  (sDrop (dML mAppend (dVar 1) (aCons (dVar 4) aNil)))))))
  (sRet (dCB bTuple (aCons (dLc (iRange1 (aCons (dC (.int 3)) aNil)) (.nm 6) dYes (dCB bTuple (aCons (dLc (iSeq (dVar 1)) (.tp [(.nm 7), (.nm 8)]) (dTest (dOp oEq (dVar 7) (dVar 6))) (dVar 8) [7, 8]) aNil)) [6]) aNil))))))
theorem pDs_ok (F : List Ent) : okd 8 (.lst (F.map pD)) = true := by
  simp only [okd]
  refine okds_map fun p _ => ?_
  have := tS_ok 5 p.2
  simp [pD, okd, okds, this]
theorem pD_eq (p q : Ent) : eqD (pD p) (pD q) = decide (p = q) := by
  obtain ⟨i, a⟩ := p
  obtain ⟨j, b⟩ := q
  unfold pD
  rw [eqD_tup]
  have e : eqDs [.int (i : Nat), tS a] [.int (j : Nat), tS b] = (eqD (.int (i : Nat)) (.int (j : Nat)) && eqD (tS a) (tS b)) := by
    simp [eqDs, toPs, PyData.eqvAll, eqD]
  show eqDs [.int (i : Nat), tS a] [.int (j : Nat), tS b] = _
  rw [e, eqD_int, tS_eq, Bool.eq_iff_iff, Bool.and_eq_true, decide_eq_true_iff, decide_eq_true_iff, decide_eq_true_iff, Prod.mk.injEq]
  exact ⟨fun z => ⟨by omega, z.2⟩, fun z => ⟨by omega, z.2⟩⟩
def l1B (F : List Ent) : Option Ent → Bool
  | none => true
  | some p => F.getLast?.any fun l => !ltD (pD l) (pD p)
theorem last_i {S : Sto} {Q : DQ} {n : Nat} {F : List Ent} {l : Ent} (hS : S[n]? = some (.lst (F.map pD))) (hl : F.getLast? = some l) (q : Q (pD l) S) : oIx (.ref n) (.int (-1)) S Q := by
  have e0 : asL S (.ref n) = some (F.map pD) := by simp only [asL]; rw [hS]
  have hne : F ≠ [] := by rintro rfl; cases hl
  have hpos : 0 < F.length := List.length_pos_iff.mpr hne
  have e : L2.atI (F.map pD) (-1 : Int) = some (pD l) := by
    unfold L2.atI
    have : ixN (F.map pD).length (-1) = some (F.length - 1) := by
      rw [List.length_map]
      unfold ixN
      simp
      omega
    rw [this]
    rw [List.getLast?_eq_getElem?] at hl
    simp [hl]
  simp only [oIx]
  rw [e0]
  simp only
  rw [e]
  exact q
theorem l1_i {S : Sto} {Q : Bool → Sto → Prop} {ρ : Env} {n : Nat} {F : List Ent} {po : Option Ent} (h1 : ρ[1]? = some (some (.ref n))) (h4 : ρ[4]? = some (some (oD po))) (hS : S[n]? = some (.lst (F.map pD))) (q : Q (l1B F po) S) : tl_l1 ρ S Q := by
  unfold tl_l1
  simp only [e_or, e_and, e_not, e_test, e_op, e_un, e_var, e_c, e_lst, e_anil, h1, h4]
  cases po with
  | none => exact q
  | some p =>
    rw [isN_p, e_tst]
    refine iteF ⟨Nat.zero_le _, ?_⟩
    have ev : vw S (.ref n) = .lst (F.map pD) := by simp only [vw, hS]
    refine ⟨by rw [ev]; exact pDs_ok F, rfl, ?_⟩
    have e2 : eqD (vw S (.ref n)) (vw S (.lst [])) = decide (F = []) := by
      rw [ev]
      show eqD (.lst (F.map pD)) (.lst []) = _
      rw [eqD_lst]
      exact eqDs_enc pD_eq F []
    rw [e2]
    simp only [e_tst]
    cases hl : F.getLast? with
    | none =>
      have : F = [] := List.getLast?_eq_none_iff.mp hl
      subst this
      exact q
    | some l =>
      have hne : F ≠ [] := by rintro rfl; cases hl
      rw [decide_eq_false hne]
      refine iteT ?_
      rw [show oNeg (.int 1) S = fun Q => Q (.int (-1)) S from rfl]
      simp only
      refine last_i hS hl ⟨pD_ok l, pD_ok p, alike_pD l p, by simp [pD, toP], ?_⟩
      simp only [e_tst]
      have : l1B F (some p) = !ltD (pD l) (pD p) := by unfold l1B; rw [hl]; rfl
      rw [this] at q
      exact q
theorem l2_i {S : Sto} {Q : DQ} {ρ : Env} {n : Nat} {F : List Ent} {p : Ent} (hρ : 5 < ρ.length) (h1 : ρ[1]? = some (some (.ref n))) (h4 : ρ[4]? = some (some (pD p))) (hS : S[n]? = some (.lst (F.map pD))) (hF : F.length ≤ 10000) (q : Q (.int ((F.filter fun o => o.1 == p.1).length : Nat)) S) : tl_l2 ρ S Q := by
  have hz : sizeLine = 16777216 := rfl
  unfold tl_l2
  simp only [e_cb, e_acons, e_lc, e_anil, iSeq, e_var, h1, hS]
  have w4 : ∀ d, ((wipeD ρ [5]).set 5 (some d))[4]? = some (some (pD p)) := fun d => by
    rw [List.getElem?_set_ne (by omega)]
    simp only [wipeD, List.foldl_cons, List.foldl_nil]
    rw [List.getElem?_set_ne (by omega)]; exact h4
  have w5 : ∀ d, ((wipeD ρ [5]).set 5 (some d))[5]? = some (some d) := fun d => by
    rw [List.getElem?_set_self]
    simp [wipeD]; exact hρ
  refine lcD_filter pD (fun o => o.1 == p.1) hS F (by omega) (fun o ho k1 k0 h1 h0 => ?_) ?_
  · simp only [bound, bindT, e_test, e_op, e_var, e_c, w4, w5]
    refine fst_i (fst_i (eq_int_i ?_))
    rw [e_tst]
    by_cases e : o.1 = p.1
    · rw [decide_eq_true (p := ((o.1 : Nat) : Int) = (p.1 : Nat)) (by omega)]
      exact iteT (h1 (by simp [e]))
    · rw [decide_eq_false (p := ((o.1 : Nat) : Int) = (p.1 : Nat)) (by omega)]
      exact iteF (h0 (by simp [e]))
  · show Q (.int (((F.filter fun o => o.1 == p.1).map pD).length : Nat)) S
    rw [List.length_map]
    exact q
theorem none_bad {F : List Ent} {x : Tx} (h : l1B F (entF x) = true) : stepF (stF F) x = none := by
  cases he : entF x with
  | none => unfold stepF; rw [he]
  | some p =>
    rw [he] at h
    rw [stepF_st he, if_pos ((badF_st (ent_lt he)).mpr (.inl h))]
theorem mostL_i {S : Sto} {Q : DQ} {i : Nat} (hi : i < 3) (q : Q (.int (mosts.getD i 0 : Nat)) S) : oIx (.lst [.int 8, .int 3, .int 6]) (.int (i : Nat)) S Q := by
  match i, hi with
  | 0, _ => exact q
  | 1, _ => exact q
  | 2, _ => exact q
theorem part_D (F : List Ent) (i : Nat) : (F.filter fun p => p.1 == i).map (fun p => tS p.2) = (ofK F i).map tS := by
  unfold ofK; rw [List.map_map]; rfl
theorem fm_part : ∀ (F : List Ent) (i : Nat), F.filterMap (fun p => if p.1 == i then some (tS p.2) else none) = (ofK F i).map tS
  | [], _ => rfl
  | p :: F, i => by
    have ih := fm_part F i
    rw [← part_D] at ih ⊢
    rw [List.filterMap_cons, List.filter_cons, ih]
    by_cases h : p.1 = i <;> simp [h]
theorem rd__law_reading : ∀ ds S QD, sp__law_reading ds S QD X0 → t__law_reading { nx := fun _ S' => RT S QD .non S', rt := RT S QD } (startD 9 ds) S := by
  rintro ds S QD ⟨w, rfl, hw, q⟩
  have hz : sizeLine = 16777216 := rfl
  have hlen := hw.1
  refine seq_o fun N hN => ?_
  simp [startD, bound, bindT]
  subst hN
  refine seq_o fun N hN => ?_
  simp only [e_if, e_test, e_op, e_var, e_c, List.getElem?_cons_zero]
  refine eq_i ?_
  rw [e_tst]
  by_cases h0 : w = []
  · subst h0
    refine iteT ?_
    simp only [e_ret, e_tup, e_acons, e_anil]
    refine ⟨Nat.zero_le _, Nat.zero_le _, Nat.zero_le _, (by decide : 3 ≤ sizeLine), ?_⟩
    exact RT.cut rfl q
  rw [decide_eq_false h0]
  refine iteF ?_
  simp only [e_next]
  subst hN
  refine seq_o fun N hN => ?_
  obtain ⟨hl, hp⟩ := lines_ok hw
  have hls : linesF w = spc 10 [] w := by unfold linesF; rw [if_neg h0]
  have qq : QD (match readE 0 rs0 (linesF w) with | .inr s => fsD s.fs | .inl n => .int (n : Nat)) S := q
  simp only [e_for]
  have src : ∀ k : List D → (Sto → Prop) → Sto → Prop, k (enD ((linesF w).map D.str)) (fun _ => True) (S ++ [.lst []]) →
      (iEn (aCons (dMS mSplit (dVar 0) (aCons (dC (.str [10])) aNil)) aNil)) [some (.str w), some (.ref S.length), none, none, none, none, none, none, none] (S ++ [.lst []]) k := by
    intro k q
    simp only [iEn, e_acons, e_var, e_c, e_mS, e_anil, List.getElem?_cons_zero]
    refine ⟨trivial, (by decide : 10 < 256), by omega, ?_⟩
    rw [spl_spc, ← hls]
    exact q
  refine src _ ?_
  generalize linesF w = ls at *
  refine forD_enum D.str (fun pre post ρ S' => ∃ (F : List Ent) (x2 x3 x4 x5 x6 x7 x8 : Option D), S' = S ++ [.lst (F.map pD)] ∧ pre ++ post = ls ∧ F.length ≤ pre.length ∧ readE 0 rs0 ls = readE pre.length (stF F) post ∧
    ρ = [some (.str w), some (.ref S.length), x2, x3, x4, x5, x6, x7, x8]) ?_ ?_ ls ⟨[], none, none, none, none, none, none, none, rfl, rfl, Nat.le_refl _, rfl, rfl⟩
  · rintro pre ρ S' ⟨F, x2, x3, x4, x5, x6, x7, x8, rfl, hq, hF, hr, rfl⟩
    refine ⟨trivial, ?_⟩
    dsimp only
    subst hN
    rw [hr] at qq
    have hFl : F.length ≤ 901 := by
      have := congrArg List.length hq
      simp at this; omega
    have hS : (S ++ [MO.lst (F.map pD)])[S.length]? = some (.lst (F.map pD)) := snoc_get
    simp only [e_ret, e_cb, e_acons, e_lc, e_range1, e_c, e_anil]
    refine rg1_i (by omega) (by omega) ?_
    refine lcD_map (fun i : Nat => D.int (0 + (i : Nat))) (fun i => enF (ofK F i)) trivial (List.range 3) (by simp) (fun i hi k1 hk => ?_) ?_
    · simp only [bound, bindT, wipeD, List.foldl_cons, List.foldl_nil, List.set, e_cb, e_acons, e_lc, e_anil, iSeq, e_var, List.getElem?_cons_succ, List.getElem?_cons_zero, hS]
      refine lcD_fm pD (fun p => if p.1 == i then some (tS p.2) else none) hS F [] (by simp; omega) (fun p hp' k2 k0 h1 h0 => ?_) ?_
      · simp only [bound, bindT, bindTs, pD, List.set, e_test, e_op, e_var, List.getElem?_cons_succ, List.getElem?_cons_zero]
        refine eq_int_i ?_
        rw [e_tst]
        by_cases e : p.1 = i
        · rw [decide_eq_true (p := ((p.1 : Nat) : Int) = 0 + (i : Nat)) (by omega)]
          exact iteT (h1 _ (by simp [e]))
        · rw [decide_eq_false (p := ((p.1 : Nat) : Int) = 0 + (i : Nat)) (by omega)]
          exact iteF (h0 (by simp [e]))
      · have e := fm_part F i
        rw [List.nil_append, e]
        exact hk
    · exact (RT.cut (fsD_ltn _ (fsOf F)) qq : RT S QD (fsD (fsOf F)) (S ++ [MO.lst (F.map pD)]))
  · rintro pre x post ρ S' N2 hN2 ⟨F, x2, x3, x4, x5, x6, x7, x8, rfl, hq, hF, hr, rfl⟩
    refine ⟨trivial, ?_⟩
    simp only [bound, bindT, bindTs, List.set]
    have hx : small 900 x := hp x (by rw [← hq]; simp)
    have hpl : pre.length ≤ 901 := by have := congrArg List.length hq; simp at this; omega
    have hS : (S ++ [MO.lst (F.map pD)])[S.length]? = some (.lst (F.map pD)) := snoc_get
    have out : stepF (stF F) x = none → (sRet (dOp oAdd (dVar 2) (dC (.int 1)))) { nx := N2, rt := RT S QD, bk := N, ct := N2 } [some (.str w), some (.ref S.length), some (.int (pre.length : Nat)), some (.str x), some (oD (entF x)), x5, x6, x7, x8] (S ++ [MO.lst (F.map pD)]) := by
      intro hn
      rw [hr, readE_cons, hn] at qq
      exact RT.cut rfl qq
    refine seq_o fun N3 hN3 => ?_
    simp only [e_asg, e_call, e_acons, e_anil, e_var, List.getElem?_cons_succ, List.getElem?_cons_zero]
    refine ⟨x, rfl, hx, ?_⟩
    simp only [bound, bindT, List.set]
    subst hN3
    refine seq_o fun N3 hN3 => ?_
    simp only [e_if]
    refine l1_i (n := S.length) (F := F) (po := entF x) rfl rfl hS ?_
    cases hb : l1B F (entF x) with
    | true =>
      refine iteT ?_
      exact out (none_bad hb)
    | false =>
      obtain ⟨p, he⟩ : ∃ p, entF x = some p := by
        cases h : entF x with
        | none => rw [h] at hb; cases hb
        | some p => exact ⟨p, rfl⟩
      have hi := ent_lt he
      refine iteF ?_
      simp only [e_next]
      subst hN3
      refine seq_o fun N3 hN3 => ?_
      simp only [e_if, e_test, e_op]
      rw [he] at out hb ⊢
      refine l2_i (n := S.length) (F := F) (p := p) (by simp) rfl rfl hS (by omega) ?_
      simp only [e_lst, e_acons, e_c, e_anil, e_op, e_var, List.getElem?_cons_succ, List.getElem?_cons_zero]
      refine ⟨(by decide : 3 ≤ sizeLine), ?_⟩
      show oIx (pD p) (.int 0) _ _
      refine fst_i (mostL_i hi (eq_int_i ?_))
      rw [e_tst]
      by_cases hc : (F.filter fun o => o.1 == p.1).length = mosts.getD p.1 0
      · rw [decide_eq_true (p := (((F.filter fun o => o.1 == p.1).length : Nat) : Int) = (mosts.getD p.1 0 : Nat)) (by omega)]
        refine iteT (out ?_)
        rw [stepF_st he, if_pos ((badF_st hi).mpr (.inr hc))]
      · rw [decide_eq_false (p := (((F.filter fun o => o.1 == p.1).length : Nat) : Int) = (mosts.getD p.1 0 : Nat)) (by omega)]
        refine iteF ?_
        simp only [e_next]
        subst hN3
        have nb : ¬ badF (stF F) p := fun z => by
          rcases (badF_st hi).mp z with z | z
          · have : l1B F (some p) = true := z
            rw [this] at hb; cases hb
          · exact hc z
        have hs : stepF (stF F) x = some (stF (F ++ [p])) := by rw [stepF_st he, if_neg nb]
        rw [readE_cons, hs] at hr
        have e1 : asL (S ++ [MO.lst (F.map pD)]) (.ref S.length) = some (F.map pD) := asL_last _
        simp only [e_drop, e_mL, e_var, e_acons, e_anil, List.getElem?_cons_succ, List.getElem?_cons_zero, e1]
        refine ⟨rfl, ?_⟩
        show mAppend (.ref S.length) [pD p] _ _
        unfold mAppend
        simp only [snoc_get]
        refine ⟨by rw [List.length_map]; omega, ?_⟩
        refine hN2 _ _ ⟨F ++ [p], _, _, _, _, _, _, _, by simp, by rw [← hq]; simp, by simp; omega, ?_, rfl⟩
        rw [hr, List.length_append, List.length_singleton]
/-! ### read_list, and what is told -/
def noTx (S : Sto) (d : D) : Prop := ∃ t, tyD S d = some t ∧ isiB t "str" = false
def sp_read_list (C : Addr) : DSp := fun ds S Q X => ∃ d, ds = [d] ∧ ((∃ w, d = .str w ∧ small 900 w ∧ (∀ s, readF w = .inr s → Q (fsD s.fs) S) ∧ ∀ n, readF w = .inl n → X (.ref C) [.int (n : Nat)] S) ∨ (noTx S d ∧ X (.ref C) [.int 0] S))
def t_read_list (C : Addr) (XD : DXK) : DTS := (sSeq (sIf (dNot (dTest (dCB bIsi (aCons (dVar 0) (aCons (dC (.ty "str")) aNil))))) (sRaiseI C XD (dC (.int 0))) sNext)
  (sSeq (sPar 1 2 (dLstM (aCons (dTup aNil) (aCons (dTup aNil) (aCons (dTup aNil) aNil)))) (dC .non))
  (sSeq (sFor (iEn (aCons (dIf (dTest (dOp oNe (dVar 0) (dC (.str [])))) (dMS mSplit (dVar 0) (aCons (dC (.str [10])) aNil)) (dLst aNil)) aNil)) (.tp [(.nm 3), (.nm 4)])
    (sSeq (sAsg (dCall sp_entry_in X0 (aCons (dVar 4) aNil)) (.nm 5))
  (sSeq (sIf tl_bad (sRaiseI C XD (dOp oAdd (dVar 3) (dC (.int 1)))) sNext)
  tl_put)))
  (sRet (dCB bTuple (aCons (dVar 1) aNil))))))
theorem readE_pos : ∀ (ls : List Tx) (k : Nat) (s : RS) (n : Nat), readE k s ls = .inl n → ∃ m, n = m + 1
  | [], _, _, _, h => by cases h
  | l :: ls, k, s, n, h => by
    rw [readE_cons] at h
    split at h
    · cases h; exact ⟨k, rfl⟩
    · exact readE_pos ls _ _ n h
theorem rd_read_list (C : Addr) (XD : DXK) : ∀ ds S QD XD0, XD = RX S XD0 → sp_read_list C ds S QD XD0 → t_read_list C XD { nx := fun _ S' => RT S QD .non S', rt := RT S QD } (startD 6 ds) S := by
  rintro ds S QD XD0 rfl ⟨d, rfl, ⟨w, rfl, hw, ok, er⟩ | ⟨⟨t, ht, hb⟩, q⟩⟩
  · refine rdG_read_list (sRaiseI C (RX S XD0) (dC (.int 0))) (sRaiseI C (RX S XD0) (dOp oAdd (dVar 3) (dC (.int 1)))) hw rfl ok fun n hn D1 x1 x2 x4 x5 T _ => ?_
    exact RX.cut (er (n + 1) hn)
  · refine seq_o fun N hN => ?_
    simp only [e_if, e_not, e_test, e_cb, e_acons, e_anil, e_c, e_var, startD, List.map_cons, List.map_nil, List.cons_append, List.getElem?_cons_zero]
    have e : bIsi [d, .ty "str"] S = fun Q => Q (.bl false) S := by
      funext Q
      simp [bIsi, ht, hb]
    rw [e]
    simp only [e_tst]
    refine iteT ?_
    exact .inl q
def sp__law_told : DSp := fun ds S Q _ => ∃ d, ds = [d] ∧ ((∃ w, d = .str w ∧ small 900 w ∧ Q (toldD w) S) ∨ (noTx S d ∧ Q (.int 0) S))
def t__law_told (C : Addr) : DTS := sTold C (sp_read_list C)
theorem rd__law_told (C : Addr) : ∀ ds S QD, sp__law_told ds S QD X0 → t__law_told C { nx := fun _ S' => RT S QD .non S', rt := RT S QD } (startD 2 ds) S := by
  rintro ds S QD ⟨d, rfl, h⟩
  refine ⟨by simp [startD], d, rfl, ?_⟩
  rcases h with ⟨w, rfl, hw, q⟩ | ⟨hn, q⟩
  · refine .inl ⟨w, rfl, hw, fun s hs => ?_, fun n hn => ⟨rfl, _, rfl, ?_⟩⟩
    · unfold toldD at q
      rw [hs] at q
      exact RT.here q
    · unfold toldD at q
      rw [hn] at q
      exact RT.here q
  · exact .inr ⟨hn, rfl, _, rfl, RT.here q⟩
end DL

/-! Sk20: the law of k20 as data. -/
namespace DL
open PySem PySem.Spec L2 TL PySem.W
open PyProof.Rows hiding St InstAt
theorem enF_eq (a b : List (List Tx)) : eqD (enF a) (enF b) = decide (a = b) := by
  unfold enF
  rw [eqD_tup, eqDs_enc tS_eq]
theorem fsD_eq (a b : List (List (List Tx))) : eqD (fsD a) (fsD b) = decide (a = b) := by
  unfold fsD
  rw [eqD_tup, eqDs_enc enF_eq]
theorem fsD_ok (fs : List (List (List Tx))) : okd 8 (fsD fs) = true := by
  simp only [fsD, okd]
  refine okds_map fun f _ => ?_
  simp only [enF, okd]
  exact okds_map fun e _ => tS_ok 5 e
theorem told_ok (w : Tx) : okd 8 (toldD w) = true := by
  unfold toldD
  split
  · exact fsD_ok _
  · rfl
theorem told_vw (S : Sto) (w : Tx) : vw S (toldD w) = toldD w := by
  unfold toldD
  split <;> rfl
theorem told_eq (w : Tx) : eqD (toldD w) (toldD w) = true := by
  unfold toldD
  split
  · rw [fsD_eq]; simp
  · rw [eqD_int]; simp
theorem told_ltn (n : Nat) (w : Tx) : (toldD w).ltn n = true := by
  unfold toldD
  split
  · exact fsD_ltn _ _
  · rfl
theorem ne_told {S : Sto} {Q : DQ} {w : Tx} (q : Q (.bl false) S) : oNe (toldD w) (toldD w) S Q := by
  refine ⟨by rw [told_vw]; exact told_ok w, by rw [told_vw]; exact told_ok w, ?_⟩
  rw [told_vw, told_eq]
  exact q
theorem told_i {S : Sto} {Q : DQ} {E : DXK} {w : Tx} (hw : small 900 w) (q : Q (toldD w) S) : sp__law_told [.str w] S Q E := ⟨_, rfl, .inl ⟨w, rfl, hw, q⟩⟩
theorem reading_i {S : Sto} {Q : DQ} {E : DXK} {w : Tx} (hw : small 900 w) (q : Q (toldD w) S) : sp__law_reading [.str w] S Q E := ⟨w, rfl, hw, q⟩
/-! ### how long -/
def sz : List Tx → Nat
  | [] => 0
  | p :: ps => p.length + 1 + sz ps
theorem sz_app : ∀ a b : List Tx, sz (a ++ b) = sz a + sz b
  | [], b => by simp [sz]
  | p :: a, b => by simp only [List.cons_append, sz, sz_app a b]; omega
theorem sz_rev : ∀ a : List Tx, sz a.reverse = sz a
  | [] => rfl
  | p :: a => by rw [List.reverse_cons, sz_app, sz_rev a]; simp only [sz]; omega
theorem sz_join (s : Tx) (hs : s.length = 1) : ∀ ps : List Tx, (joinL s ps).length ≤ sz ps
  | [] => by simp [joinL, sz]
  | [p] => by simp only [joinL, sz]; omega
  | p :: q :: r => by
    have ih := sz_join s hs (q :: r)
    simp only [joinL, List.length_append]
    rw [show sz (p :: q :: r) = p.length + 1 + sz (q :: r) from rfl]
    omega
theorem sz_spc (c : Nat) : ∀ (l acc : Tx), sz (spc c acc l) = acc.length + l.length + 1
  | [], acc => by simp [spc, sz]
  | x :: l, acc => by
    simp only [spc]
    split
    · simp only [sz, sz_spc c l [], List.length_cons, List.length_nil]; omega
    · rw [sz_spc c l]; simp only [List.length_append, List.length_cons, List.length_nil]; omega
theorem sz_len : ∀ ps : List Tx, ps.length ≤ sz ps
  | [] => Nat.le_refl _
  | p :: ps => by have := sz_len ps; simp only [sz, List.length_cons]; omega
theorem sz_mem : ∀ {ps : List Tx} {p : Tx}, p ∈ ps → p.length + 1 ≤ sz ps
  | q :: ps, p, h => by
    simp only [sz]
    rcases List.mem_cons.mp h with rfl | h
    · omega
    · have := sz_mem h; omega
theorem join_sz {S : Sto} {Q : DQ} {ps : List Tx} (h : sz ps ≤ 10000) (q : Q (.str (joinL [10] ps)) S) : mJoin (.str [10]) [.lst (ps.map D.str)] S Q := by
  unfold mJoin
  simp only [seqD, asL, txD_ws]
  refine ⟨?_, q⟩
  have h1 : (ps.map (·.length)).sum ≤ sz ps := by
    clear q h
    induction ps with
    | nil => simp
    | cons p ps ih => rw [List.map_cons, List.sum_cons]; simp only [sz]; omega
  have h2 := sz_len ps
  have h3 : ps.length * ([10] : Tx).length = ps.length := by simp
  omega
/-! ### a change of a text -/
def TW (w : Tx) : Prop := small 414 w
def sgL : List Tx := [[], [97], [65], [45], [32], [88], [10], [115, 116, 101, 109, 32, 97, 32, 45, 10], [10, 112, 114, 101, 102, 105, 120, 32, 65, 32, 97, 32, 45], [115, 117, 102, 102, 105, 120], [83], [48]]
theorem sgL_ok : ∀ g ∈ sgL, g.length ≤ 15 ∧ ∀ c ∈ g, c < 128 := by decide
def TO (w : Tx) : Prop := small 900 w
theorem TW.big {w : Tx} (h : TW w) : small 900 w := ⟨by have := h.1; omega, h.2⟩
theorem other1 {w g : Tx} {a d : Nat} (hw : TW w) (hg : g ∈ sgL) : small 430 (w.take a ++ g ++ w.drop (a + d)) := by
  obtain ⟨g1, g2⟩ := sgL_ok g hg
  refine ⟨?_, fun c hc => ?_⟩
  · have := hw.1
    rw [List.length_append, List.length_append, List.length_take, List.length_drop]
    omega
  · rcases List.mem_append.mp hc with hc | hc
    · rcases List.mem_append.mp hc with hc | hc
      · exact hw.2 c (List.mem_of_mem_take hc)
      · exact g2 c hc
    · exact hw.2 c (List.mem_of_mem_drop hc)
theorem other2 {w : Tx} {s d : Nat} (hw : TW w) (hd : d ≤ 1) : sz ((spc 10 [] w).take s ++ ((spc 10 [] w).drop s).reverse ++ (spc 10 [] w).take d) ≤ 830 ∧ small 830 (joinL [10] ((spc 10 [] w).take s ++ ((spc 10 [] w).drop s).reverse ++ (spc 10 [] w).take d)) := by
  have e1 := sz_spc 10 w []
  have hw1 := hw.1
  have hb : ∀ p ∈ spc 10 [] w, ∀ c ∈ p, c < 128 := fun p hp c hc => hw.2 c (spc_in hp hc)
  generalize spc 10 [] w = ls at *
  have e2 : sz (ls.take s ++ (ls.drop s).reverse) = sz ls := by
    rw [sz_app, sz_rev, ← sz_app, List.take_append_drop]
  have e3 : sz (ls.take d) ≤ sz ls := by
    have := sz_app (ls.take d) (ls.drop d)
    rw [List.take_append_drop] at this
    omega
  have e4 : sz (ls.take s ++ (ls.drop s).reverse ++ ls.take d) ≤ 830 := by
    rw [sz_app, e2]
    simp only [List.length_nil] at e1
    omega
  refine ⟨e4, Nat.le_trans (sz_join [10] rfl _) e4, fun c hc => ?_⟩
  rcases mem_joinL hc with z | ⟨p, hp, z⟩
  · rw [List.mem_singleton.mp z]; omega
  · refine hb p ?_ c z
    rcases List.mem_append.mp hp with hp | hp
    · rcases List.mem_append.mp hp with hp | hp
      · exact List.mem_of_mem_take hp
      · exact List.mem_of_mem_drop (List.mem_reverse.mp hp)
    · exact List.mem_of_mem_take hp
/-! ### the readings -/
def tl_sg : DTE := (dLst (aCons (dC (.str [])) (aCons (dC (.str [97])) (aCons (dC (.str [65])) (aCons (dC (.str [45])) (aCons (dC (.str [32])) (aCons (dC (.str [88])) (aCons (dC (.str [10])) (aCons (dC (.str [115, 116, 101, 109, 32, 97, 32, 45, 10])) (aCons (dC (.str [10, 112, 114, 101, 102, 105, 120, 32, 65, 32, 97, 32, 45])) (aCons (dC (.str [115, 117, 102, 102, 105, 120])) (aCons (dC (.str [83])) (aCons (dC (.str [48])) aNil)))))))))))))
def tl_i : DTS := (sSeq (sAsg (dCall sp__law_draw X0 (aCons (dVar 2) (aCons (dCB bLen (aCons (dVar 7) aNil)) aNil))) (.nm 11))
  (sSeq (sAsg (dOp oAdd (dSl (dVar 7) pNone (pSome (dVar 11))) (dRevL (dSl (dVar 7) (pSome (dVar 11)) pNone))) (.nm 12))
  (sAsg (dMS mJoin (dC (.str [10])) (aCons (dOp oAdd (dVar 12) (dSl (dVar 7) pNone (pSome (dCall sp__law_draw X0 (aCons (dVar 2) (aCons (dC (.int 2)) aNil)))))) aNil)) (.nm 10))))
def tl_f : DTS := (sIf (dTest (dOp oEq (dCall sp__law_draw X0 (aCons (dVar 2) (aCons (dC (.int 4)) aNil))) (dC (.int 0)))) tl_i sNext)
theorem lt_ii {S : Sto} {Q : DQ} {i j : Int} (q : Q (.bl (decide (i < j))) S) : oLt (.int i) (.int j) S Q := q
def tl_c : DTS := (sSeq (sPar 6 7 (dCall sp__law_draw X0 (aCons (dVar 2) (aCons (dOp oAdd (dCB bLen (aCons (dVar 4) aNil)) (dC (.int 1))) aNil))) (dMS mSplit (dVar 4) (aCons (dC (.str [10])) aNil)))
  (sSeq (sAsg tl_sg (.nm 8))
  (sSeq (sAsg (dSl (dVar 4) (pSome (dOp oAdd (dVar 6) (dCall sp__law_draw X0 (aCons (dVar 2) (aCons (dC (.int 2)) aNil))))) pNone) (.nm 9))
  (sSeq (sAsg (dOp oAdd (dOp oAdd (dSl (dVar 4) pNone (pSome (dVar 6))) (dCall sp__law_choice X0 (aCons (dVar 2) (aCons (dVar 8) aNil)))) (dVar 9)) (.nm 10))
  (sSeq tl_f
  (sSeq (sIf (dTest (dOp oNe (dCall sp__law_told X0 (aCons (dVar 10) aNil)) (dCall sp__law_reading X0 (aCons (dVar 10) aNil)))) (sRet (dC (.bl false))) sNext)
  (sAsg (dIf (dAnd (dTest (dOp oEq (dCall sp__law_draw X0 (aCons (dVar 2) (aCons (dC (.int 3)) aNil))) (dC (.int 0)))) (dTest (dOp oLt (dCB bLen (aCons (dVar 10) aNil)) (dC (.int 200))))) (dVar 10) (dVar 4)) (.nm 4))))))))

def asI (d : D) (k : Int → Prop) : Prop := match d with
  | .int i => k i
  | _ => False
theorem e_ps {t : DTE} {ρ : Env} {S : Sto} {Q : Option Int → Sto → Prop} : pSome t ρ S Q = t ρ S fun d S1 => asI d fun i => Q (some i) S1 := rfl
@[simp] theorem e_asI {i : Int} {k : Int → Prop} : asI (.int i) k = k i := rfl
theorem len_tx {S : Sto} {Q : DQ} {w : Tx} (h : w.length ≤ 10000) (q : Q (.int (w.length : Nat)) S) : bLen [.str w] S Q := by
  have hz : sizeLine = 16777216 := rfl
  exact ⟨by omega, q⟩
theorem len_ll {S : Sto} {Q : DQ} {ds : List D} : bLen [.lst ds] S Q = Q (.int (ds.length : Nat)) S := rfl
theorem add_ii {S : Sto} {Q : DQ} {a b : Int} : oAdd (.int a) (.int b) S Q = Q (.int (a + b)) S := rfl
theorem add_tt {S : Sto} {Q : DQ} {a b : Tx} (h : a.length + b.length ≤ 10000) (q : Q (.str (a ++ b)) S) : oAdd (.str a) (.str b) S Q := by
  have hz : sizeLine = 16777216 := rfl
  exact ⟨by omega, q⟩
theorem add_ll {S : Sto} {Q : DQ} {a b : List Tx} (h : a.length + b.length ≤ 10000) (q : Q (.lst ((a ++ b).map D.str)) S) : oAdd (.lst (a.map D.str)) (.lst (b.map D.str)) S Q := by
  have hz : sizeLine = 16777216 := rfl
  refine ⟨by rw [List.length_map, List.length_map]; omega, ?_⟩
  rw [List.map_append] at q
  exact q
theorem from_t {S : Sto} {Q : DQ} {w : Tx} {n : Nat} (h : w.length ≤ 10000) (q : Q (.str (w.drop n)) S) : rSl (.str w) (some (n : Nat)) none S Q := by
  have hz : sizeLine = 16777216 := rfl
  have e := cutD_from w (i := (n : Nat)) (by omega)
  rw [Int.toNat_natCast] at e
  refine ⟨by omega, ?_⟩
  rw [e]; exact q
theorem to_t {S : Sto} {Q : DQ} {w : Tx} {n : Nat} (h : w.length ≤ 10000) (q : Q (.str (w.take n)) S) : rSl (.str w) none (some (n : Nat)) S Q := by
  have hz : sizeLine = 16777216 := rfl
  have e := cutD_to w (i := (n : Nat)) (by omega)
  rw [Int.toNat_natCast] at e
  refine ⟨by omega, ?_⟩
  rw [e]; exact q
theorem from_l {S : Sto} {Q : DQ} {ws : List Tx} {n : Nat} (q : Q (.lst ((ws.drop n).map D.str)) S) : rSl (.lst (ws.map D.str)) (some (n : Nat)) none S Q := by
  have e := cutD_from (ws.map D.str) (i := (n : Nat)) (by omega)
  rw [Int.toNat_natCast, ← List.map_drop] at e
  show Q (.lst (cutD (ws.map D.str) (some (n : Nat)) none)) S
  rw [e]; exact q
theorem to_l {S : Sto} {Q : DQ} {ws : List Tx} {n : Nat} (q : Q (.lst ((ws.take n).map D.str)) S) : rSl (.lst (ws.map D.str)) none (some (n : Nat)) S Q := by
  have e := cutD_to (ws.map D.str) (i := (n : Nat)) (by omega)
  rw [Int.toNat_natCast, ← List.map_take] at e
  show Q (.lst (cutD (ws.map D.str) none (some (n : Nat)))) S
  rw [e]; exact q
theorem split_i {S : Sto} {Q : DQ} {w : Tx} (h : w.length ≤ 10000) (q : Q (.lst ((spc 10 [] w).map D.str)) S) : mSplit (.str w) [.str [10]] S Q := by
  have hz : sizeLine = 16777216 := rfl
  refine ⟨by decide, by omega, ?_⟩
  rw [spl_spc]; exact q
theorem sg_i {ρ : Env} {S : Sto} {Q : DQ} (q : Q (.lst (sgL.map D.str)) S) : tl_sg ρ S Q := ⟨(by decide : 12 ≤ sizeLine), q⟩
theorem pick_i {S : Sto} {Q : DQ} {E : DXK} (hs : SrcOk S 0) (q : ∀ g ∈ sgL, ∀ S', Src' S 0 S' → Q (.str g) S') : sp_choice [.ref 0, .lst (sgL.map D.str)] S Q E := by
  refine choice_i (es := sgL.map D.str) rfl hs (by simp [sgL]) (by simp [sgL]) fun e he S' h => ?_
  obtain ⟨g, hg, rfl⟩ := List.mem_map.mp he
  exact q g hg S' h
theorem rd_i {D' : DEnds} {s : D} {x1 x3 x5 x6 x8 x9 x10 x11 x12 x13 x14 x15 : Option D} {w : Tx} {a b : Nat} (hb : b < 2147483648) (hw : TW w)
    (hN : ∀ a b o y11 y12, b < 2147483648 → small 830 o → D'.nx [some s, x1, some (.ref 0), x3, some (.str w), x5, x6, some (.lst ((spc 10 [] w).map D.str)), x8, x9, some (.str o), y11, y12, x13, x14, x15] [mkS a b]) :
    tl_i D' [some s, x1, some (.ref 0), x3, some (.str w), x5, x6, some (.lst ((spc 10 [] w).map D.str)), x8, x9, x10, x11, x12, x13, x14, x15] [mkS a b] := by
  have hw1 := hw.1
  have hne := spc_ne 10 w []
  have hpos : 0 < (spc 10 [] w).length := List.length_pos_iff.mpr hne
  have hll := spc_len 10 w []
  refine seq_o fun N hN1 => ?_
  simp only [e_asg, e_call, e_acons, e_anil, e_cb, e_var, List.getElem?_cons_zero, List.getElem?_cons_succ]
  rw [len_ll, List.length_map]
  refine draw_i (src_0 hb) (by omega) (by omega) fun sp S' hd hS => ?_
  obtain ⟨a1, b1, hb1, rfl⟩ := src_0' hS
  simp only [bound, bindT, List.set]
  subst hN1
  refine seq_o fun N hN1 => ?_
  simp only [e_asg, e_op, e_sl, e_pn, e_ps, dRevL, e_var, List.getElem?_cons_zero, List.getElem?_cons_succ]
  rw [e_asI]
  refine to_l ?_
  rw [e_asI]
  refine from_l ?_
  show oAdd _ (.lst (((spc 10 [] w).drop sp).map D.str).reverse) _ _
  rw [← List.map_reverse]
  refine add_ll (by rw [List.length_take, List.length_reverse, List.length_drop]; omega) ?_
  simp only [bound, bindT, List.set]
  subst hN1
  simp only [e_asg, e_mS, e_c, e_acons, e_anil, e_op, e_sl, e_pn, e_ps, e_call, e_var, List.getElem?_cons_zero, List.getElem?_cons_succ]
  refine ⟨trivial, ?_⟩
  refine draw_i (src_0 hb1) (by omega) (by omega) fun d S' hd2 hS => ?_
  obtain ⟨a2, b2, hb2, rfl⟩ := src_0' hS
  rw [e_asI]
  refine to_l ?_
  obtain ⟨o1, o2⟩ := other2 (s := sp) (d := d) hw (by omega)
  refine add_ll (by rw [List.length_append, List.length_take, List.length_reverse, List.length_drop, List.length_take]; omega) ?_
  refine join_sz (by omega) ?_
  simp only [bound, bindT, List.set]
  exact hN _ _ _ _ _ hb2 o2
theorem small.up {n m : Nat} {w : Tx} (h : small n w) (hm : n ≤ m) : small m w := ⟨Nat.le_trans h.1 hm, h.2⟩
theorem rd_f {D' : DEnds} {s : D} {x1 x3 x5 x6 x8 x9 x11 x12 x13 x14 x15 : Option D} {w o : Tx} {a b : Nat} (hb : b < 2147483648) (hw : TW w) (ho : small 430 o)
    (hN : ∀ a b o y11 y12, b < 2147483648 → small 830 o → D'.nx [some s, x1, some (.ref 0), x3, some (.str w), x5, x6, some (.lst ((spc 10 [] w).map D.str)), x8, x9, some (.str o), y11, y12, x13, x14, x15] [mkS a b]) :
    tl_f D' [some s, x1, some (.ref 0), x3, some (.str w), x5, x6, some (.lst ((spc 10 [] w).map D.str)), x8, x9, some (.str o), x11, x12, x13, x14, x15] [mkS a b] := by
  unfold tl_f
  simp only [e_if, e_test, e_op, e_call, e_acons, e_anil, e_c, e_var, List.getElem?_cons_zero, List.getElem?_cons_succ]
  refine draw_i (src_0 hb) (by omega) (by omega) fun d S' hd hS => ?_
  obtain ⟨a1, b1, hb1, rfl⟩ := src_0' hS
  refine eq_int_i ?_
  rw [e_tst]
  by_cases e : ((d : Nat) : Int) = 0
  · rw [decide_eq_true e]
    exact iteT (rd_i hb1 hw hN)
  · rw [decide_eq_false e]
    refine iteF ?_
    simp only [e_next]
    exact hN _ _ _ _ _ hb1 (ho.up (by omega))
theorem rd_c {D' : DEnds} {s : D} {x1 x3 x5 x6 x7 x8 x9 x10 x11 x12 x13 x14 x15 : Option D} {w : Tx} {a b : Nat} (hb : b < 2147483648) (hw : TW w)
    (hN : ∀ a b w' y6 y7 y8 y9 y10 y11 y12, b < 2147483648 → TW w' → D'.nx [some s, x1, some (.ref 0), x3, some (.str w'), x5, y6, y7, y8, y9, y10, y11, y12, x13, x14, x15] [mkS a b]) :
    tl_c D' [some s, x1, some (.ref 0), x3, some (.str w), x5, x6, x7, x8, x9, x10, x11, x12, x13, x14, x15] [mkS a b] := by
  have hw1 := hw.1
  refine seq_o fun N hN1 => ?_
  simp only [e_par, e_call, e_acons, e_anil, e_op, e_cb, e_c, e_mS, e_var, List.getElem?_cons_zero, List.getElem?_cons_succ]
  refine len_tx (by omega) ?_
  rw [add_ii]
  refine draw_i (src_0 hb) (by omega) (by omega) fun at' S' hat hS => ?_
  obtain ⟨a1, b1, hb1, rfl⟩ := src_0' hS
  refine ⟨trivial, split_i (by omega) ?_⟩
  simp only [List.set]
  subst hN1
  refine seq_o fun N hN1 => ?_
  simp only [e_asg]
  refine sg_i ?_
  simp only [bound, bindT, List.set]
  subst hN1
  refine seq_o fun N hN1 => ?_
  simp only [e_asg, e_sl, e_pn, e_ps, e_op, e_call, e_acons, e_anil, e_c, e_var, List.getElem?_cons_zero, List.getElem?_cons_succ]
  refine draw_i (src_0 hb1) (by omega) (by omega) fun d S' hd hS => ?_
  obtain ⟨a2, b2, hb2, rfl⟩ := src_0' hS
  rw [add_ii, e_asI, show ((at' : Nat) : Int) + (d : Nat) = ((at' + d : Nat) : Int) by omega]
  refine from_t (by omega) ?_
  simp only [bound, bindT, List.set]
  subst hN1
  refine seq_o fun N hN1 => ?_
  simp only [e_asg, e_sl, e_pn, e_ps, e_op, e_call, e_acons, e_anil, e_c, e_var, List.getElem?_cons_zero, List.getElem?_cons_succ]
  rw [e_asI]
  refine to_t (by omega) ?_
  refine pick_i (src_0 hb2) fun g hg S' hS => ?_
  obtain ⟨a3, b3, hb3, rfl⟩ := src_0' hS
  have hg1 := (sgL_ok g hg).1
  have ho := other1 (a := at') (d := d) hw hg
  refine add_tt (by rw [List.length_take]; omega) ?_
  refine add_tt (by rw [List.length_append, List.length_take, List.length_drop]; omega) ?_
  simp only [bound, bindT, List.set]
  subst hN1
  refine seq_o fun N hN1 => ?_
  refine rd_f hb3 hw ho fun a4 b4 o y11 y12 hb4 hso => ?_
  have hso9 : small 900 o := hso.up (by omega)
  subst hN1
  dsimp only
  refine seq_o fun N hN1 => ?_
  simp only [e_if, e_test, e_op, e_call, e_acons, e_anil, e_c, e_var, List.getElem?_cons_zero, List.getElem?_cons_succ]
  refine told_i hso9 ?_
  refine reading_i hso9 ?_
  refine ne_told ?_
  rw [e_tst]
  refine iteF ?_
  simp only [e_next]
  subst hN1
  simp only [e_asg, e_ife, e_and, e_test, e_op, e_call, e_acons, e_anil, e_c, e_cb, e_var, List.getElem?_cons_zero, List.getElem?_cons_succ]
  refine draw_i (src_0 hb4) (by omega) (by omega) fun d5 S' hd5 hS => ?_
  obtain ⟨a5, b5, hb5, rfl⟩ := src_0' hS
  refine eq_int_i ?_
  rw [e_tst]
  by_cases e : ((d5 : Nat) : Int) = 0
  · rw [decide_eq_true e]
    refine iteT ?_
    have hso1 := hso.1
    refine len_tx (by omega) ?_
    refine lt_ii ?_
    rw [e_tst]
    by_cases h2 : ((o.length : Nat) : Int) < 200
    · rw [decide_eq_true h2]
      refine iteT ?_
      simp only [bound, bindT, List.set]
      exact hN _ _ _ _ _ _ _ _ _ _ hb5 ⟨by omega, hso.2⟩
    · rw [decide_eq_false h2]
      refine iteF ?_
      simp only [bound, bindT, List.set]
      exact hN _ _ _ _ _ _ _ _ _ _ hb5 hw
  · rw [decide_eq_false e]
    refine iteF (iteF ?_)
    simp only [bound, bindT, List.set]
    exact hN _ _ _ _ _ _ _ _ _ _ hb5 hw
def tl_t : DTS := (sSeq (sAsg (dMS mJoin (dC (.str [10])) (aCons (dCall sp__law_lines X0 (aCons (dCall sp__law_list X0 (aCons (dVar 2) (aCons (dC (.bl false)) aNil))) aNil)) aNil)) (.nm 4))
  (sFor (iRange1 (aCons (dC (.int 6)) aNil)) (.nm 5)
    tl_c))

theorem text_TW {g : Bool} {L : Lists} (h : LawL g L) : TW (textF (entsL L)) := by
  have hg := GF.of h
  refine ⟨?_, (textF_small hg).2⟩
  have h1 := join_len [10] 45 (linesN (entsL L) 3) fun p hp => by
    obtain ⟨i, hi, e, he, rfl⟩ := linesN_mem hp
    exact (line_ok hi (hg.okE hi he)).1
  have h2 : (linesN (entsL L) 3).length ≤ 9 := by
    have n1 := h.ns
    have n2 := h.np
    have n3 := h.nf
    rw [linesN_succ, linesN_succ, linesN_succ, List.length_append, List.length_append, List.length_append]
    simp only [linesI, List.length_map, linesN, List.range_zero, List.flatMap_nil, List.length_nil]
    have e0 : ((entsL L).getD 0 []).length = L.stems.length := by show (List.map _ _).length = _; rw [List.length_map]
    have e1 : ((entsL L).getD 1 []).length = L.prefs.length := by show (List.map _ _).length = _; rw [List.length_map]
    have e2 : ((entsL L).getD 2 []).length = L.sufs.length := by show (List.map _ _).length = _; rw [List.length_map]
    omega
  have h3 : (linesN (entsL L) 3).length * (45 + ([10] : Tx).length) ≤ 9 * 46 := Nat.mul_le_mul h2 (Nat.le_refl _)
  unfold textF
  omega
theorem lines_i {S : Sto} {Q : DQ} {E : DXK} {fs : List (List (List Tx))} (h : GF fs) (q : Q (.lst ((linesN fs 3).map D.str)) S) : sp__law_lines [fsD fs] S Q E := ⟨fs, rfl, h, q⟩
theorem join10_i {S : Sto} {Q : DQ} {fs : List (List (List Tx))} (h : GF fs) (q : Q (.str (textF fs)) S) : mJoin (.str [10]) [.lst ((linesN fs 3).map D.str)] S Q := by
  have hl := linesN_len h 3 (by omega)
  refine join_i (m := 45) (by simp) (by omega) (by omega) (fun p hp => ?_) q
  obtain ⟨i, hi, e, he, rfl⟩ := linesN_mem hp
  exact (line_ok hi (h.okE hi he)).1
theorem rd_t {D' : DEnds} {s : D} {x1 x3 x4 x5 x6 x7 x8 x9 x10 x11 x12 x13 x14 x15 : Option D} {a b : Nat} (hb : b < 2147483648)
    (hN : ∀ a b y4 y5 y6 y7 y8 y9 y10 y11 y12, b < 2147483648 → D'.nx [some s, x1, some (.ref 0), x3, y4, y5, y6, y7, y8, y9, y10, y11, y12, x13, x14, x15] [mkS a b]) :
    tl_t D' [some s, x1, some (.ref 0), x3, x4, x5, x6, x7, x8, x9, x10, x11, x12, x13, x14, x15] [mkS a b] := by
  refine seq_o fun N hN1 => ?_
  simp only [e_asg, e_mS, e_call, e_acons, e_anil, e_c, e_var, List.getElem?_cons_zero, List.getElem?_cons_succ]
  refine ⟨trivial, law_list_i (src_0 hb) fun L S' hL hS => ?_⟩
  obtain ⟨a1, b1, hb1, rfl⟩ := src_0' hS
  have h := GF.of hL
  have hw := text_TW hL
  rw [← entsL_D]
  generalize entsL L = fs at *
  refine lines_i h (join10_i h ?_)
  simp only [bound, bindT, List.set]
  subst hN1
  simp only [e_for, e_range1, e_acons, e_c, e_anil]
  refine rg1_i (by omega) (by omega) ?_
  refine forD_rng (fun i ρ S' => ∃ a b w y5 y6 y7 y8 y9 y10 y11 y12, b < 2147483648 ∧ TW w ∧ S' = [mkS a b] ∧ ρ = [some s, x1, some (.ref 0), x3, some (.str w), y5, y6, y7, y8, y9, y10, y11, y12, x13, x14, x15]) ?_ ?_ ⟨a1, b1, _, _, _, _, _, _, _, _, _, hb1, hw, rfl, rfl⟩
  · rintro ρ S' ⟨a, b, w, y5, y6, y7, y8, y9, y10, y11, y12, hb, hw, rfl, rfl⟩
    exact ⟨trivial, hN _ _ _ _ _ _ _ _ _ _ _ hb⟩
  · rintro i ρ S' N2 hi hN2 ⟨a, b, w, y5, y6, y7, y8, y9, y10, y11, y12, hb, hw, rfl, rfl⟩
    refine ⟨trivial, ?_⟩
    simp only [bound, bindT, List.set]
    exact rd_c hb hw fun a b w' z6 z7 z8 z9 z10 z11 z12 hb' hw' => hN2 _ _ ⟨a, b, w', _, _, _, _, _, _, _, _, hb', hw', rfl, rfl⟩
def tl_vals : DTE := (dLst (aCons (dC .non) (aCons (dC (.int 5)) (aCons (dTup aNil) (aCons (dLst (aCons (dC (.str [115, 116, 101, 109, 32, 97, 32, 45])) aNil)) (aCons (dC (.bl true)) (aCons (dTup (aCons (dTup (aCons (dTup (aCons (dC (.str [97])) (aCons (dC (.str [])) aNil))) aNil)) (aCons (dTup aNil) (aCons (dTup aNil) aNil)))) aNil)))))))
def tl_v : DTS := (sIf (dOr (dTest (dOp oNe (dCall sp__law_told X0 (aCons (dVar 13) aNil)) (dC (.int 0)))) (dTest (dCB bIsi (aCons (dCall sp__law_told X0 (aCons (dVar 13) aNil)) (aCons (dC (.ty "bool")) aNil))))) (sRet (dC (.bl false))) sNext)
def tl_z : DTS := (sSeq (sFor (iSeq tl_vals) (.nm 13)
    tl_v)
  (sSeq (sAsg (dMS mJoin (dC (.str [10])) (aCons (dLc (iSeq (dC (.str [97, 98, 99, 100]))) (.nm 15) dYes (dOp oAdd (dC (.str [112, 114, 101, 102, 105, 120, 32, 65, 32, 45, 32])) (dVar 15)) [15]) aNil)) (.nm 14))
  (sSeq (sIf (dOr (dTest (dOp oNe (dCall sp__law_told X0 (aCons (dVar 14) aNil)) (dC (.int 4)))) (dOr (dTest (dOp oNe (dCall sp__law_told X0 (aCons (dC (.str [10])) aNil)) (dC (.int 1)))) (dTest (dOp oNe (dCall sp__law_told X0 (aCons (dC (.str [115, 116, 101, 109, 32, 97, 32, 45, 10, 115, 116, 101, 109, 32, 97, 32, 45])) aNil)) (dC (.int 2)))))) (sRet (dC (.bl false))) sNext)
  (sSeq (sIf (dOr (dTest (dOp oNe (dCall sp__law_told X0 (aCons (dC (.str [112, 114, 101, 102, 105, 120, 32, 65, 32, 97, 32, 98, 10, 115, 116, 101, 109, 32, 97, 32, 45])) aNil)) (dC (.int 2)))) (dTest (dOp oNe (dCall sp__law_told X0 (aCons (dC (.str [115, 116, 101, 109, 32, 97, 32, 32, 65])) aNil)) (dC (.int 1))))) (sRet (dC (.bl false))) sNext)
  (sRet (dOp oEq (dCall sp__law_told X0 (aCons (dC (.str [112, 114, 101, 102, 105, 120, 32, 65, 32, 45, 32, 45])) aNil)) (dC (.int 1))))))))

def vals : List D := [.non, .int 5, .tup [], .lst [.str [115, 116, 101, 109, 32, 97, 32, 45]], .bl true, .tup [.tup [.tup [.str [97], .str []]], .tup [], .tup []]]
theorem vals_i {ρ : Env} {S : Sto} {Q : DQ} (q : Q (.lst vals) S) : tl_vals ρ S Q := by
  have hz : ∀ n, n ≤ 10 → n ≤ sizeLine := fun n h => Nat.le_trans h (by decide)
  exact ⟨hz _ (by decide), hz _ (by decide), hz _ (by decide), hz _ (by decide), hz _ (by decide), hz _ (by decide), hz _ (by decide), hz _ (by decide), q⟩
theorem vals_no {S : Sto} : ∀ d ∈ vals, noTx S d := by
  intro d hd
  simp only [vals, List.mem_cons, List.not_mem_nil, or_false] at hd
  rcases hd with rfl | rfl | rfl | rfl | rfl | rfl
  all_goals exact ⟨_, rfl, by decide⟩
theorem told_no {S : Sto} {Q : DQ} {E : DXK} {d : D} (h : noTx S d) (q : Q (.int 0) S) : sp__law_told [d] S Q E := ⟨_, rfl, .inr ⟨h, q⟩⟩
theorem isi_0 {S : Sto} {Q : DQ} (q : Q (.bl false) S) : bIsi [.int 0, .ty "bool"] S Q := by
  have e : isiB "int" "bool" = false := by decide
  refine ⟨by decide, ?_⟩
  show Q (.bl (isiB "int" "bool")) S
  rw [e]; exact q
theorem rd_v {D' : DEnds} {ρ : Env} {S : Sto} {d : D} (hd : ρ[13]? = some (some d)) (h : noTx S d) (hN : D'.nx ρ S) : tl_v D' ρ S := by
  unfold tl_v
  simp only [e_if, e_or, e_test, e_op, e_call, e_acons, e_anil, e_c, e_cb, e_var, hd]
  refine told_no h ?_
  refine ne_int_i ?_
  rw [e_tst, show (!decide ((0 : Int) = 0)) = false from rfl]
  refine iteF ?_
  refine told_no h ?_
  refine isi_0 ?_
  rw [e_tst]
  refine iteF ?_
  exact hN
theorem forD_all {T : Tg} {tb : DTS} {DD : DEnds} (P : Env → Sto → Prop) (h0 : ∀ ρ S, P ρ S → DD.nx ρ S) : ∀ (ds : List D), (∀ d ∈ ds, ∀ ρ S N, (∀ ρ S, P ρ S → N ρ S) → P ρ S → bound T d ρ fun ρ' => tb { nx := N, rt := DD.rt, bk := DD.nx, ct := N } ρ' S) → ∀ ρ S, P ρ S → forD (fun _ => True) T tb DD ds ρ S
  | [], _, ρ, S, p => ⟨trivial, h0 _ _ p⟩
  | d :: ds, hs, ρ, S, p => ⟨trivial, hs d (by simp) ρ S _ (forD_all P h0 ds fun d hd => hs d (by simp [hd])) p⟩
def manyL : List Tx := [[112, 114, 101, 102, 105, 120, 32, 65, 32, 45, 32, 97], [112, 114, 101, 102, 105, 120, 32, 65, 32, 45, 32, 98], [112, 114, 101, 102, 105, 120, 32, 65, 32, 45, 32, 99], [112, 114, 101, 102, 105, 120, 32, 65, 32, 45, 32, 100]]
theorem add_x {ρ : Env} {S : Sto} {Q : DQ} {c : Nat} (hc : ρ[15]? = some (some (.str [c]))) (q : Q (.str ([112, 114, 101, 102, 105, 120, 32, 65, 32, 45, 32] ++ [c])) S) :
    dOp oAdd (dC (.str [112, 114, 101, 102, 105, 120, 32, 65, 32, 45, 32])) (dVar 15) ρ S Q := by
  simp only [e_op, e_c, e_var, hc]
  exact add_tt (show 11 + 1 ≤ 10000 by decide) q
theorem many_i {x0 x1 x2 x3 x4 x5 x6 x7 x8 x9 x10 x11 x12 x13 x14 x15 : Option D} {S : Sto} {Q : DQ} (q : Q (.lst (manyL.map D.str)) S) :
    dLc (iSeq (dC (.str [97, 98, 99, 100]))) (.nm 15) dYes (dOp oAdd (dC (.str [112, 114, 101, 102, 105, 120, 32, 65, 32, 45, 32])) (dVar 15)) [15] [x0, x1, x2, x3, x4, x5, x6, x7, x8, x9, x10, x11, x12, x13, x14, x15] S Q := by
  have hz : ∀ n, n ≤ 100 → n ≤ sizeLine := fun n h => Nat.le_trans h (by decide)
  have hz1 : ∀ n, n < 100 → n < sizeLine := fun n h => Nat.lt_of_lt_of_le h (by decide)
  refine ⟨trivial, ?_⟩
  simp only [bound, bindT, List.set, e_yes, if_true]
  refine add_x rfl ?_
  refine ⟨hz1 _ (by decide), trivial, ?_⟩
  simp only [bound, bindT, List.set, e_yes, if_true]
  refine add_x rfl ?_
  refine ⟨hz1 _ (by decide), trivial, ?_⟩
  simp only [bound, bindT, List.set, e_yes, if_true]
  refine add_x rfl ?_
  refine ⟨hz1 _ (by decide), trivial, ?_⟩
  simp only [bound, bindT, List.set, e_yes, if_true]
  refine add_x rfl ?_
  exact ⟨hz1 _ (by decide), trivial, q⟩
def errIs (w : Tx) (n : Nat) : Bool := (match readF w with | .inl m => m == n | .inr _ => false) && decide (w.length ≤ 900) && w.all fun c => decide (c < 128)
theorem told_err {S : Sto} {Q : DQ} {E : DXK} {w : Tx} (n : Nat) (h : errIs w n = true) (q : Q (.int (n : Nat)) S) : sp__law_told [.str w] S Q E := by
  unfold errIs at h
  simp only [Bool.and_eq_true, decide_eq_true_eq, List.all_eq_true] at h
  obtain ⟨⟨h1, h2⟩, h3⟩ := h
  refine told_i ⟨h2, h3⟩ ?_
  unfold toldD
  split at h1
  · rename_i m e
    rw [e, show m = n from by simpa using h1]
    exact q
  · cases h1
theorem rd_z {D' : DEnds} {S : Sto} {x0 x1 x2 x3 x4 x5 x6 x7 x8 x9 x10 x11 x12 x13 x14 x15 : Option D} (hN : D'.rt (.bl true) S) : tl_z D' [x0, x1, x2, x3, x4, x5, x6, x7, x8, x9, x10, x11, x12, x13, x14, x15] S := by
  refine seq_o fun N hN1 => ?_
  simp only [e_for, e_iseq]
  refine vals_i ?_
  refine forD_all (fun ρ S' => S' = S ∧ ∃ x13, ρ = [x0, x1, x2, x3, x4, x5, x6, x7, x8, x9, x10, x11, x12, x13, x14, x15]) ?_ vals ?_ _ _ ⟨rfl, _, rfl⟩
  · rintro ρ S' ⟨rfl, x13, rfl⟩
    dsimp only
    subst hN1
    refine seq_o fun N hN1 => ?_
    simp only [e_asg, e_mS, e_acons, e_anil]
    refine ⟨trivial, many_i ?_⟩
    refine join_i (m := 12) (by decide) (by decide) (by decide) (by decide) ?_
    simp only [bound, bindT, List.set]
    subst hN1
    refine seq_o fun N hN1 => ?_
    simp only [e_if, e_or, e_test, e_op, e_call, e_acons, e_anil, e_c, e_var, List.getElem?_cons_zero, List.getElem?_cons_succ]
    refine told_err 4 (by decide +kernel) (ne_int_i ?_)
    rw [e_tst, show (!decide (((4 : Nat) : Int) = 4)) = false from rfl]
    refine iteF ?_
    refine told_err 1 (by decide +kernel) (ne_int_i ?_)
    rw [e_tst, show (!decide (((1 : Nat) : Int) = 1)) = false from rfl]
    refine iteF ?_
    refine told_err 2 (by decide +kernel) (ne_int_i ?_)
    rw [e_tst, show (!decide (((2 : Nat) : Int) = 2)) = false from rfl]
    refine iteF ?_
    simp only [e_next]
    subst hN1
    refine seq_o fun N hN1 => ?_
    simp only [e_if, e_or, e_test, e_op, e_call, e_acons, e_anil, e_c, e_var, List.getElem?_cons_zero, List.getElem?_cons_succ]
    refine told_err 2 (by decide +kernel) (ne_int_i ?_)
    rw [e_tst, show (!decide (((2 : Nat) : Int) = 2)) = false from rfl]
    refine iteF ?_
    refine told_err 1 (by decide +kernel) (ne_int_i ?_)
    rw [e_tst, show (!decide (((1 : Nat) : Int) = 1)) = false from rfl]
    refine iteF ?_
    simp only [e_next]
    subst hN1
    simp only [e_ret, e_op, e_call, e_acons, e_anil, e_c]
    refine told_err 1 (by decide +kernel) (eq_int_i ?_)
    exact hN
  · rintro d hd ρ S' N2 hN2 ⟨rfl, x13, rfl⟩
    simp only [bound, bindT, List.set]
    exact rd_v rfl (vals_no d hd) (hN2 _ _ ⟨rfl, _, rfl⟩)
def t_law : DTS := (sSeq (sFor (iRange1 (aCons (dOp oAdd (dC (.int 1)) (dCB (bI2 fun i j => if j < i then j else i) (aCons (dCB bLen (aCons (dVar 0) aNil)) (aCons (dC (.int 10)) aNil)))) aNil)) (.nm 1)
    (sCut (sSeq (sAsg (dCall sp__law_source X0 (aCons (dVar 0) (aCons (dVar 1) aNil))) (.nm 2))
  (sFor (iRange1 (aCons (dC (.int 3)) aNil)) (.nm 3)
    (sCut tl_t)))))
  tl_z)
theorem rd_law : ∀ ds S QD, sp_law ds S QD X0 → t_law { nx := fun _ S' => RT S QD .non S', rt := RT S QD } (startD 16 ds) S := by
  rintro ds S QD ⟨ns, rfl, hl, rfl, q⟩
  refine seq_o fun N hN1 => ?_
  have hm : ∀ n : Nat, 0 ≤ n → (1 + (if 10 < (n : Int) then 10 else (n : Int))).toNat ≤ 11 ∧ (1 + (if 10 < (n : Int) then 10 else (n : Int))) < 12 ∧ 0 < (1 + (if 10 < (n : Int) then 10 else (n : Int))) := fun n _ => by split <;> omega
  obtain ⟨m1, m2, m3⟩ := hm ns.length (by omega)
  simp [startD, bLen, asL, bI2, oAdd, List.replicate]
  refine rg1_i (by omega) (by omega) ?_
  refine forD_rng (fun i ρ S' => S' = [] ∧ ∃ x1 x2 x3 x4 x5 x6 x7 x8 x9 x10 x11 x12 x13 x14 x15, ρ = [some (.lst (ns.map D.int)), x1, x2, x3, x4, x5, x6, x7, x8, x9, x10, x11, x12, x13, x14, x15]) ?_ ?_ ⟨rfl, _, _, _, _, _, _, _, _, _, _, _, _, _, _, _, rfl⟩
  · rintro ρ S' ⟨rfl, x1, x2, x3, x4, x5, x6, x7, x8, x9, x10, x11, x12, x13, x14, x15, rfl⟩
    refine ⟨trivial, ?_⟩
    dsimp only
    subst hN1
    exact rd_z (RT.here q)
  · rintro i ρ S' N2 hi hN2 ⟨rfl, x1, x2, x3, x4, x5, x6, x7, x8, x9, x10, x11, x12, x13, x14, x15, rfl⟩
    refine ⟨trivial, ?_⟩
    simp only [bound, bindT, List.set, e_cut]
    refine seq_o fun N3 hN3 => ?_
    simp only [e_asg, e_call, e_acons, e_anil, e_var, List.getElem?_cons_zero, List.getElem?_cons_succ]
    have := source_i (S := []) (E := X0) (ns := ns) (k := i) (Q := fun d S1 => bound (Tg.nm 2) d [some (.lst (ns.map D.int)), some (.int i), x2, x3, x4, x5, x6, x7, x8, x9, x10, x11, x12, x13, x14, x15] fun ρ' => N3 ρ' S1) hl (by omega) fun a b hb => ?_
    · simpa using this
    simp only [bound, bindT, List.set]
    subst hN3
    simp only [e_for, e_range1, e_acons, e_c, e_anil]
    refine rg1_i (by omega) (by omega) ?_
    refine forD_rng (fun i ρ S' => ∃ a b x1 x3 x4 x5 x6 x7 x8 x9 x10 x11 x12 x13 x14 x15, b < 2147483648 ∧ S' = [mkS a b] ∧ ρ = [some (.lst (ns.map D.int)), x1, some (.ref 0), x3, x4, x5, x6, x7, x8, x9, x10, x11, x12, x13, x14, x15]) ?_ ?_ ⟨a, b, _, _, _, _, _, _, _, _, _, _, _, _, _, _, hb, rfl, rfl⟩
    · rintro ρ S' ⟨a, b, y1, y3, y4, y5, y6, y7, y8, y9, y10, y11, y12, y13, y14, y15, hb, rfl, rfl⟩
      refine ⟨trivial, ?_⟩
      exact .i [some (.lst (ns.map D.int)), none, none, none, none, none, none, none, none, none, none, none, none, none, none, none] .nil (by simp [SubE, D.ltn, ltn_ints]) (hN2 _ _ ⟨rfl, _, _, _, _, _, _, _, _, _, _, _, _, _, _, _, rfl⟩)
    · rintro i ρ S' N4 hi hN4 ⟨a, b, y1, y3, y4, y5, y6, y7, y8, y9, y10, y11, y12, y13, y14, y15, hb, rfl, rfl⟩
      refine ⟨trivial, ?_⟩
      simp only [bound, bindT, List.set, e_cut]
      refine rd_t hb fun a5 b5 z4 z5 z6 z7 z8 z9 z10 z11 z12 hb5 => ?_
      exact .i [some (.lst (ns.map D.int)), none, some (.ref 0), none, none, none, none, none, none, none, none, none, none, none, none, none] (Kept.src (T := [])) (by simp [SubE, D.ltn, ltn_ints]) (hN4 _ _ ⟨a5, b5, _, _, _, _, _, _, _, _, _, _, _, _, _, _, hb5, rfl, rfl⟩)
/-! what the walk asks -/
theorem len_is_flag : ∀ ds S Q X, sp_is_flag ds S Q X → ds.length = 1 := by
  rintro ds S Q X ⟨_, h, _⟩
  rw [h]; rfl
theorem sx_is_flag : ∀ ds S Q X, sp_is_flag ds S Q X → sp_is_flag ds S Q X0 := fun _ _ _ _ h => h
theorem len_are_flags : ∀ ds S Q X, sp_are_flags ds S Q X → ds.length = 1 := by
  rintro ds S Q X ⟨_, h, _⟩
  rw [h]; rfl
theorem sx_are_flags : ∀ ds S Q X, sp_are_flags ds S Q X → sp_are_flags ds S Q X0 := fun _ _ _ _ h => h
theorem len_is_stem : ∀ ds S Q X, sp_is_stem ds S Q X → ds.length = 1 := by
  rintro ds S Q X ⟨_, h, _⟩
  rw [h]; rfl
theorem sx_is_stem : ∀ ds S Q X, sp_is_stem ds S Q X → sp_is_stem ds S Q X0 := fun _ _ _ _ h => h
theorem len_is_prefix : ∀ ds S Q X, sp_is_prefix ds S Q X → ds.length = 1 := by
  rintro ds S Q X ⟨_, h, _⟩
  rw [h]; rfl
theorem sx_is_prefix : ∀ ds S Q X, sp_is_prefix ds S Q X → sp_is_prefix ds S Q X0 := fun _ _ _ _ h => h
theorem len_is_suffix : ∀ ds S Q X, sp_is_suffix ds S Q X → ds.length = 1 := by
  rintro ds S Q X ⟨_, h, _⟩
  rw [h]; rfl
theorem sx_is_suffix : ∀ ds S Q X, sp_is_suffix ds S Q X → sp_is_suffix ds S Q X0 := fun _ _ _ _ h => h
theorem len__law_some_flags : ∀ ds S Q X, sp__law_some_flags ds S Q X → ds.length = 2 := by
  rintro ds S Q X ⟨_, _, h, _⟩
  rw [h]; rfl
theorem sx__law_some_flags : ∀ ds S Q X, sp__law_some_flags ds S Q X → sp__law_some_flags ds S Q X0 := fun _ _ _ _ h => h
theorem len__law_list : ∀ ds S Q X, sp__law_list ds S Q X → ds.length = 2 := by
  rintro ds S Q X ⟨_, _, h, _⟩
  rw [h]; rfl
theorem sx__law_list : ∀ ds S Q X, sp__law_list ds S Q X → sp__law_list ds S Q X0 := fun _ _ _ _ h => h
theorem len_entry_in : ∀ ds S Q X, sp_entry_in ds S Q X → ds.length = 1 := by
  rintro ds S Q X ⟨_, h, _⟩
  rw [h]; rfl
theorem sx_entry_in : ∀ ds S Q X, sp_entry_in ds S Q X → sp_entry_in ds S Q X0 := fun _ _ _ _ h => h
theorem len__law_lines : ∀ ds S Q X, sp__law_lines ds S Q X → ds.length = 1 := by
  rintro ds S Q X ⟨_, h, _⟩
  rw [h]; rfl
theorem sx__law_lines : ∀ ds S Q X, sp__law_lines ds S Q X → sp__law_lines ds S Q X0 := fun _ _ _ _ h => h
theorem len__law_signs : ∀ ds S Q X, sp__law_signs ds S Q X → ds.length = 4 := by
  rintro ds S Q X ⟨_, _, _, _, h, _⟩
  rw [h]; rfl
theorem sx__law_signs : ∀ ds S Q X, sp__law_signs ds S Q X → sp__law_signs ds S Q X0 := fun _ _ _ _ h => h
theorem len__law_flags_in : ∀ ds S Q X, sp__law_flags_in ds S Q X → ds.length = 1 := by
  rintro ds S Q X ⟨_, h, _⟩
  rw [h]; rfl
theorem sx__law_flags_in : ∀ ds S Q X, sp__law_flags_in ds S Q X → sp__law_flags_in ds S Q X0 := fun _ _ _ _ h => h
theorem len__law_entry : ∀ ds S Q X, sp__law_entry ds S Q X → ds.length = 1 := by
  rintro ds S Q X ⟨_, h, _⟩
  rw [h]; rfl
theorem sx__law_entry : ∀ ds S Q X, sp__law_entry ds S Q X → sp__law_entry ds S Q X0 := fun _ _ _ _ h => h
theorem len__law_reading : ∀ ds S Q X, sp__law_reading ds S Q X → ds.length = 1 := by
  rintro ds S Q X ⟨_, h, _⟩
  rw [h]; rfl
theorem sx__law_reading : ∀ ds S Q X, sp__law_reading ds S Q X → sp__law_reading ds S Q X0 := fun _ _ _ _ h => h
theorem len__law_told : ∀ ds S Q X, sp__law_told ds S Q X → ds.length = 1 := by
  rintro ds S Q X ⟨_, h, _⟩
  rw [h]; rfl
theorem sx__law_told : ∀ ds S Q X, sp__law_told ds S Q X → sp__law_told ds S Q X0 := fun _ _ _ _ h => h
theorem len_read_list (C : Addr) : ∀ ds S Q X, sp_read_list C ds S Q X → ds.length = 1 := by
  rintro ds S Q X ⟨_, h, _⟩
  rw [h]; rfl
end DL

namespace DL
namespace Law
open PySem PySem.Spec L2 TL
open PyProof.Rows hiding St InstAt
def topS (i : Nat) : Stmt := PySem.Challenge.pw_stemflags_k20_texts_that_are_not_of_list.main.body.getD i (.Pass ⟨0, 0, 0, 0⟩)
abbrev s_is_letters : Stmt := topS 12
theorem sc_is_letters : FnScope ["value", "least", "most", "letter"] ["value", "least", "most"] (defScope s_is_letters) := ⟨rfl, rfl, rfl, by decide +kernel, rfl, by decide +kernel, by decide +kernel⟩
abbrev s_is_flag : Stmt := topS 13
theorem sc_is_flag : FnScope ["value"] ["value"] (defScope s_is_flag) := ⟨rfl, rfl, rfl, by decide +kernel, rfl, by decide +kernel, by decide +kernel⟩
abbrev s_are_flags : Stmt := topS 14
theorem sc_are_flags : FnScope ["value", "flag"] ["value"] (defScope s_are_flags) := ⟨rfl, rfl, rfl, by decide +kernel, rfl, by decide +kernel, by decide +kernel⟩
abbrev s_is_stem : Stmt := topS 15
theorem sc_is_stem : FnScope ["value"] ["value"] (defScope s_is_stem) := ⟨rfl, rfl, rfl, by decide +kernel, rfl, by decide +kernel, by decide +kernel⟩
abbrev s_is_prefix : Stmt := topS 16
theorem sc_is_prefix : FnScope ["value"] ["value"] (defScope s_is_prefix) := ⟨rfl, rfl, rfl, by decide +kernel, rfl, by decide +kernel, by decide +kernel⟩
abbrev s_is_suffix : Stmt := topS 17
theorem sc_is_suffix : FnScope ["value"] ["value"] (defScope s_is_suffix) := ⟨rfl, rfl, rfl, by decide +kernel, rfl, by decide +kernel, by decide +kernel⟩
abbrev s_entry_in : Stmt := topS 21
theorem sc_entry_in : FnScope ["line", "words", "entry", "kind", "fits", "word"] ["line"] (defScope s_entry_in) := ⟨rfl, rfl, rfl, by decide +kernel, rfl, by decide +kernel, by decide +kernel⟩
abbrev s_read_list : Stmt := topS 22
theorem sc_read_list : FnScope ["text", "found", "last", "number", "line", "pair"] ["text"] (defScope s_read_list) := ⟨rfl, rfl, rfl, by decide +kernel, rfl, by decide +kernel, by decide +kernel⟩
abbrev s__law_source : Stmt := topS 24
theorem sc__law_source : FnScope ["script", "index", "cell"] ["script", "index"] (defScope s__law_source) := ⟨rfl, rfl, rfl, by decide +kernel, rfl, by decide +kernel, by decide +kernel⟩
abbrev s__law_draw : Stmt := topS 25
theorem sc__law_draw : FnScope ["source", "size", "drawn"] ["source", "size"] (defScope s__law_draw) := ⟨rfl, rfl, rfl, by decide +kernel, rfl, by decide +kernel, by decide +kernel⟩
abbrev s__law_choice : Stmt := topS 26
theorem sc__law_choice : FnScope ["source", "items"] ["source", "items"] (defScope s__law_choice) := ⟨rfl, rfl, rfl, by decide +kernel, rfl, by decide +kernel, by decide +kernel⟩
abbrev s__law_some_letters : Stmt := topS 27
theorem sc__law_some_letters : FnScope ["source", "least", "most", "many", "place"] ["source", "least", "most"] (defScope s__law_some_letters) := ⟨rfl, rfl, rfl, by decide +kernel, rfl, by decide +kernel, by decide +kernel⟩
abbrev s__law_some_flags : Stmt := topS 28
theorem sc__law_some_flags : FnScope ["source", "most", "some", "place"] ["source", "most"] (defScope s__law_some_flags) := ⟨rfl, rfl, rfl, by decide +kernel, rfl, by decide +kernel, by decide +kernel⟩
abbrev s__law_list : Stmt := topS 29
theorem sc__law_list : FnScope ["source", "grows", "stems", "prefixes", "suffixes", "place", "old", "new"] ["source", "grows"] (defScope s__law_list) := ⟨rfl, rfl, rfl, by decide +kernel, rfl, by decide +kernel, by decide +kernel⟩
abbrev s__law_lines : Stmt := topS 30
theorem sc__law_lines : FnScope ["lists", "found", "name", "part", "entry", "word"] ["lists"] (defScope s__law_lines) := ⟨rfl, rfl, rfl, by decide +kernel, rfl, by decide +kernel, by decide +kernel⟩
abbrev s__law_signs : Stmt := topS 31
theorem sc__law_signs : FnScope ["word", "least", "most", "signs", "sign"] ["word", "least", "most", "signs"] (defScope s__law_signs) := ⟨rfl, rfl, rfl, by decide +kernel, rfl, by decide +kernel, by decide +kernel⟩
abbrev s__law_flags_in : Stmt := topS 32
theorem sc__law_flags_in : FnScope ["word"] ["word"] (defScope s__law_flags_in) := ⟨rfl, rfl, rfl, by decide +kernel, rfl, by decide +kernel, by decide +kernel⟩
abbrev s__law_entry : Stmt := topS 33
theorem sc__law_entry : FnScope ["line", "words", "small", "kind", "parts", "fits", "word"] ["line"] (defScope s__law_entry) := ⟨rfl, rfl, rfl, by decide +kernel, rfl, by decide +kernel, by decide +kernel⟩
abbrev s__law_reading : Stmt := topS 34
theorem sc__law_reading : FnScope ["text", "found", "number", "line", "pair", "one", "part", "kind", "entry"] ["text"] (defScope s__law_reading) := ⟨rfl, rfl, rfl, by decide +kernel, rfl, by decide +kernel, by decide +kernel⟩
abbrev s__law_told : Stmt := topS 35
theorem sc__law_told : FnScope ["value", "e"] ["value"] (defScope s__law_told) := ⟨rfl, rfl, rfl, by decide +kernel, rfl, by decide +kernel, by decide +kernel⟩
abbrev s_law : Stmt := topS 36
theorem sc_law : FnScope ["script", "k", "source", "turn", "text", "change", "at", "lines", "signs", "rest", "other", "spot", "rows", "value", "many", "letter"] ["script"] (defScope s_law) := ⟨rfl, rfl, rfl, by decide +kernel, rfl, by decide +kernel, by decide +kernel⟩
/-- what the top has written -/
abbrev s_init : Stmt := inClass (topS 2) 0
structure Txt (P : Program) (K : PySem.W.Frag) (mg : Str → Option Value) where
  C : Addr
  B : Addr
  fI : Addr
  dI : FuncData
  cda : Addr
  cc : Addr
  ini : IniC P K C fI cda cc "__init__" "InvalidText.__init__" s_init dI
  tel : TelC K C B
  iC : PySem.W.findIn K (.ref C) "__init__" = some (some (.ref fI))
  tI : PySem.W.typeIn K (.ref fI) = some (.type "function")
  b_init : Binds K dI ["self", "line"] []
  m_InvalidText : mg "InvalidText" = some (.ref C)
  m_ListError : mg "ListError" = some (.ref B)
  htop : (P.main.scope.names.lookup ("super" : Str)).isSome = false
  f_is_letters : Addr
  d_is_letters : FuncData
  F_is_letters : Fun K "is_letters" "is_letters" s_is_letters f_is_letters d_is_letters
  b_is_letters : Binds K d_is_letters ["value", "least", "most"] []
  m_is_letters : mg "is_letters" = some (.ref f_is_letters)
  f_is_flag : Addr
  d_is_flag : FuncData
  F_is_flag : Fun K "is_flag" "is_flag" s_is_flag f_is_flag d_is_flag
  b_is_flag : Binds K d_is_flag ["value"] []
  m_is_flag : mg "is_flag" = some (.ref f_is_flag)
  f_are_flags : Addr
  d_are_flags : FuncData
  F_are_flags : Fun K "are_flags" "are_flags" s_are_flags f_are_flags d_are_flags
  b_are_flags : Binds K d_are_flags ["value"] []
  m_are_flags : mg "are_flags" = some (.ref f_are_flags)
  f_is_stem : Addr
  d_is_stem : FuncData
  F_is_stem : Fun K "is_stem" "is_stem" s_is_stem f_is_stem d_is_stem
  b_is_stem : Binds K d_is_stem ["value"] []
  m_is_stem : mg "is_stem" = some (.ref f_is_stem)
  f_is_prefix : Addr
  d_is_prefix : FuncData
  F_is_prefix : Fun K "is_prefix" "is_prefix" s_is_prefix f_is_prefix d_is_prefix
  b_is_prefix : Binds K d_is_prefix ["value"] []
  m_is_prefix : mg "is_prefix" = some (.ref f_is_prefix)
  f_is_suffix : Addr
  d_is_suffix : FuncData
  F_is_suffix : Fun K "is_suffix" "is_suffix" s_is_suffix f_is_suffix d_is_suffix
  b_is_suffix : Binds K d_is_suffix ["value"] []
  m_is_suffix : mg "is_suffix" = some (.ref f_is_suffix)
  f_entry_in : Addr
  d_entry_in : FuncData
  F_entry_in : Fun K "entry_in" "entry_in" s_entry_in f_entry_in d_entry_in
  b_entry_in : Binds K d_entry_in ["line"] []
  m_entry_in : mg "entry_in" = some (.ref f_entry_in)
  f_read_list : Addr
  d_read_list : FuncData
  F_read_list : Fun K "read_list" "read_list" s_read_list f_read_list d_read_list
  b_read_list : Binds K d_read_list ["text"] []
  m_read_list : mg "read_list" = some (.ref f_read_list)
  f__law_source : Addr
  d__law_source : FuncData
  F__law_source : Fun K "_law_source" "_law_source" s__law_source f__law_source d__law_source
  b__law_source : Binds K d__law_source ["script", "index"] []
  m__law_source : mg "_law_source" = some (.ref f__law_source)
  f__law_draw : Addr
  d__law_draw : FuncData
  F__law_draw : Fun K "_law_draw" "_law_draw" s__law_draw f__law_draw d__law_draw
  b__law_draw : Binds K d__law_draw ["source", "size"] []
  m__law_draw : mg "_law_draw" = some (.ref f__law_draw)
  f__law_choice : Addr
  d__law_choice : FuncData
  F__law_choice : Fun K "_law_choice" "_law_choice" s__law_choice f__law_choice d__law_choice
  b__law_choice : Binds K d__law_choice ["source", "items"] []
  m__law_choice : mg "_law_choice" = some (.ref f__law_choice)
  f__law_some_letters : Addr
  d__law_some_letters : FuncData
  F__law_some_letters : Fun K "_law_some_letters" "_law_some_letters" s__law_some_letters f__law_some_letters d__law_some_letters
  b__law_some_letters : Binds K d__law_some_letters ["source", "least", "most"] []
  m__law_some_letters : mg "_law_some_letters" = some (.ref f__law_some_letters)
  f__law_some_flags : Addr
  d__law_some_flags : FuncData
  F__law_some_flags : Fun K "_law_some_flags" "_law_some_flags" s__law_some_flags f__law_some_flags d__law_some_flags
  b__law_some_flags : Binds K d__law_some_flags ["source", "most"] []
  m__law_some_flags : mg "_law_some_flags" = some (.ref f__law_some_flags)
  f__law_list : Addr
  d__law_list : FuncData
  F__law_list : Fun K "_law_list" "_law_list" s__law_list f__law_list d__law_list
  b__law_list : Binds K d__law_list ["source", "grows"] []
  m__law_list : mg "_law_list" = some (.ref f__law_list)
  f__law_lines : Addr
  d__law_lines : FuncData
  F__law_lines : Fun K "_law_lines" "_law_lines" s__law_lines f__law_lines d__law_lines
  b__law_lines : Binds K d__law_lines ["lists"] []
  m__law_lines : mg "_law_lines" = some (.ref f__law_lines)
  f__law_signs : Addr
  d__law_signs : FuncData
  F__law_signs : Fun K "_law_signs" "_law_signs" s__law_signs f__law_signs d__law_signs
  b__law_signs : Binds K d__law_signs ["word", "least", "most", "signs"] []
  m__law_signs : mg "_law_signs" = some (.ref f__law_signs)
  f__law_flags_in : Addr
  d__law_flags_in : FuncData
  F__law_flags_in : Fun K "_law_flags_in" "_law_flags_in" s__law_flags_in f__law_flags_in d__law_flags_in
  b__law_flags_in : Binds K d__law_flags_in ["word"] []
  m__law_flags_in : mg "_law_flags_in" = some (.ref f__law_flags_in)
  f__law_entry : Addr
  d__law_entry : FuncData
  F__law_entry : Fun K "_law_entry" "_law_entry" s__law_entry f__law_entry d__law_entry
  b__law_entry : Binds K d__law_entry ["line"] []
  m__law_entry : mg "_law_entry" = some (.ref f__law_entry)
  f__law_reading : Addr
  d__law_reading : FuncData
  F__law_reading : Fun K "_law_reading" "_law_reading" s__law_reading f__law_reading d__law_reading
  b__law_reading : Binds K d__law_reading ["text"] []
  m__law_reading : mg "_law_reading" = some (.ref f__law_reading)
  f__law_told : Addr
  d__law_told : FuncData
  F__law_told : Fun K "_law_told" "_law_told" s__law_told f__law_told d__law_told
  b__law_told : Binds K d__law_told ["value"] []
  m__law_told : mg "_law_told" = some (.ref f__law_told)
  f_law : Addr
  d_law : FuncData
  F_law : Fun K "law" "law" s_law f_law d_law
  b_law : Binds K d_law ["script"] []
  m_law : mg "law" = some (.ref f_law)
  z_ValueError : mg "ValueError" = none
  z_abs : mg "abs" = none
  z_all : mg "all" = none
  z_bool : mg "bool" = none
  z_enumerate : mg "enumerate" = none
  z_int : mg "int" = none
  z_isinstance : mg "isinstance" = none
  z_len : mg "len" = none
  z_list : mg "list" = none
  z_min : mg "min" = none
  z_range : mg "range" = none
  z_set : mg "set" = none
  z_sorted : mg "sorted" = none
  z_str : mg "str" = none
  z_super : mg "super" = none
  z_tuple : mg "tuple" = none
  z_zip : mg "zip" = none
  k_FLAGS : ∃ t, mg "FLAGS" = some (.str (Str.ofString "ABCDEFGHIJKLMNOPQRSTUVWXYZ") t)
  k_KINDS : TupAt K mg "KINDS" [(.str [115, 116, 101, 109]), (.str [112, 114, 101, 102, 105, 120]), (.str [115, 117, 102, 102, 105, 120])]
  k_LETTERS : ∃ t, mg "LETTERS" = some (.str (Str.ofString "abcdefghijklmnopqrstuvwxyz") t)
  k_MOST : TupAt K mg "MOST" [(.int 8), (.int 3), (.int 6)]
  k_MOST_FLAGS : ∃ t, mg "MOST_FLAGS" = some (.int 4 t)
  k_MOST_STEM : ∃ t, mg "MOST_STEM" = some (.int 8 t)
  k_MOST_TEXT : ∃ t, mg "MOST_TEXT" = some (.int 6 t)
section
variable {P : Program} {w : World} {K : PySem.W.Frag} {mg : Str → Option Value} {base : Heap}
theorem Txt.c_FLAGS {X : Cx} {G : GX} {pos : Pos} (T : Txt X.prog X.K X.mg) (hg : Gl X "FLAGS" := by rfl) : DE X G (.Name "FLAGS" pos) (dC (.str [65, 66, 67, 68, 69, 70, 71, 72, 73, 74, 75, 76, 77, 78, 79, 80, 81, 82, 83, 84, 85, 86, 87, 88, 89, 90])) := by
  obtain ⟨t, h⟩ := T.k_FLAGS
  exact de_glob (v := .str (Str.ofString "ABCDEFGHIJKLMNOPQRSTUVWXYZ")) hg h ⟨_, rfl⟩ fun _ _ => ⟨by rw [show Str.ofString "ABCDEFGHIJKLMNOPQRSTUVWXYZ" = sx [65, 66, 67, 68, 69, 70, 71, 72, 73, 74, 75, 76, 77, 78, 79, 80, 81, 82, 83, 84, 85, 86, 87, 88, 89, 90] by decide +kernel], by decide⟩
theorem Txt.c_LETTERS {X : Cx} {G : GX} {pos : Pos} (T : Txt X.prog X.K X.mg) (hg : Gl X "LETTERS" := by rfl) : DE X G (.Name "LETTERS" pos) (dC (.str [97, 98, 99, 100, 101, 102, 103, 104, 105, 106, 107, 108, 109, 110, 111, 112, 113, 114, 115, 116, 117, 118, 119, 120, 121, 122])) := by
  obtain ⟨t, h⟩ := T.k_LETTERS
  exact de_glob (v := .str (Str.ofString "abcdefghijklmnopqrstuvwxyz")) hg h ⟨_, rfl⟩ fun _ _ => ⟨by rw [show Str.ofString "abcdefghijklmnopqrstuvwxyz" = sx [97, 98, 99, 100, 101, 102, 103, 104, 105, 106, 107, 108, 109, 110, 111, 112, 113, 114, 115, 116, 117, 118, 119, 120, 121, 122] by decide +kernel], by decide⟩
theorem Txt.c_MOST_FLAGS {X : Cx} {G : GX} {pos : Pos} (T : Txt X.prog X.K X.mg) (hg : Gl X "MOST_FLAGS" := by rfl) : DE X G (.Name "MOST_FLAGS" pos) (dC (.int 4)) := by
  obtain ⟨t, h⟩ := T.k_MOST_FLAGS
  exact de_glob (v := .int 4) hg h ⟨_, rfl⟩ fun _ _ => rfl
theorem Txt.c_MOST_STEM {X : Cx} {G : GX} {pos : Pos} (T : Txt X.prog X.K X.mg) (hg : Gl X "MOST_STEM" := by rfl) : DE X G (.Name "MOST_STEM" pos) (dC (.int 8)) := by
  obtain ⟨t, h⟩ := T.k_MOST_STEM
  exact de_glob (v := .int 8) hg h ⟨_, rfl⟩ fun _ _ => rfl
theorem Txt.c_MOST_TEXT {X : Cx} {G : GX} {pos : Pos} (T : Txt X.prog X.K X.mg) (hg : Gl X "MOST_TEXT" := by rfl) : DE X G (.Name "MOST_TEXT" pos) (dC (.int 6)) := by
  obtain ⟨t, h⟩ := T.k_MOST_TEXT
  exact de_glob (v := .int 6) hg h ⟨_, rfl⟩ fun _ _ => rfl
theorem ok_init (T : Txt P K mg) : FnOk P w K mg base CX0 1 T.fI T.dI ["self", "line"] (spIni T.C) :=
  ini_ok T.ini rfl rfl rfl rfl rfl rfl rfl rfl (by decide +kernel) T.z_super T.htop (fun env e => by obtain ⟨sc, _, _, _, _, _, _, _, _⟩ := env; cases e; exact ⟨_, rfl⟩)
theorem ok_is_letters (T : Txt P K mg) : FnOk P w K mg base CX0 1 T.f_is_letters T.d_is_letters ["value", "least", "most"] (liftSp K sp_is_letters) :=
  dfn T.F_is_letters sc_is_letters rfl len_is_letters (fun cdv A outer s H E hr => ⟨t_is_letters, (dss_one (ds_ret (de_and (de_callB (b_isi) T.z_isinstance (by decide +kernel) (da_cons (de_var 0) (da_cons (de_ty rfl T.z_str (by decide +kernel)) da_nil))) (de_and (de_chain o_le o_le (de_var 1) (de_callB (b_len) T.z_len (by decide +kernel) (da_cons (de_var 0) da_nil)) (de_var 2)) (de_one (de_callB (b_all rfl) T.z_all (by decide +kernel) (da_cons (de_lc [("letter", 3)] rfl sc_is_letters.nd (di_seq (de_var 0)) (blkOk_by (N := ["value", "least", "most", "letter"]) (sc := defScope s_is_letters) (by decide +kernel)) (fun _ _ _ _ _ => (dg_name 3 sc_is_letters.nd)) (fun _ _ _ _ _ => dts_nil) (fun _ _ _ _ _ => (de_cmp o_inC (de_var 3) T.c_LETTERS))) da_nil))))))), rd_is_letters⟩) sx_is_letters
theorem ok_is_flag (T : Txt P K mg) : FnOk P w K mg base CX0 1 T.f_is_flag T.d_is_flag ["value"] (liftSp K sp_is_flag) :=
  dfn T.F_is_flag sc_is_flag rfl len_is_flag (fun cdv A outer s H E hr => ⟨t_is_flag, (dss_one (ds_ret (de_and (de_callB (b_isi) T.z_isinstance (by decide +kernel) (da_cons (de_var 0) (da_cons (de_ty rfl T.z_str (by decide +kernel)) da_nil))) (de_and (de_cmp (o_eq hr.units) (de_callB (b_len) T.z_len (by decide +kernel) (da_cons (de_var 0) da_nil)) de_int) (de_one (de_cmp o_inC (de_var 0) T.c_FLAGS)))))), rd_is_flag⟩) sx_is_flag
theorem ok_are_flags (T : Txt P K mg) : FnOk P w K mg base CX0 1 T.f_are_flags T.d_are_flags ["value"] (liftSp K sp_are_flags) :=
  dfn T.F_are_flags sc_are_flags rfl len_are_flags (fun cdv A outer s H E hr => ⟨t_are_flags, (dss_cons (ds_if (DW.dt (dw_or (dt_not (dt_val (de_callB (b_isi) T.z_isinstance (by decide +kernel) (da_cons (de_var 0) (da_cons (de_ty rfl T.z_str (by decide +kernel)) da_nil))))) (dw_or (dt_cmp o_gt (de_callB (b_len) T.z_len (by decide +kernel) (da_cons (de_var 0) da_nil)) T.c_MOST_FLAGS) (dw_or1 (dt_not (dt_val (de_callB (b_all rfl) T.z_all (by decide +kernel) (da_cons (de_lc [("flag", 1)] rfl sc_are_flags.nd (di_seq (de_var 0)) (blkOk_by (N := ["value", "flag"]) (sc := defScope s_are_flags) (by decide +kernel)) (fun _ _ _ _ _ => (dg_name 1 sc_are_flags.nd)) (fun _ _ _ _ _ => dts_nil) (fun _ _ _ _ _ => (de_cmp o_inC (de_var 1) T.c_FLAGS))) da_nil)))))))) (dss_one (ds_ret de_bl)) dss_nil)
  (dss_one (ds_ret (de_cmp (o_eq hr.units) (de_var 0) (de_mS PySem.F.slot_str_join PySem.F.type_str_join m_join (de_str []) (da_cons (de_sortSet rfl (hu17 hr) T.z_sorted (by decide +kernel) T.z_set (by decide +kernel) (de_var 0)) da_nil)))))), rd_are_flags⟩) sx_are_flags
theorem ok_is_stem (T : Txt P K mg) : FnOk P w K mg base CX0 2 T.f_is_stem T.d_is_stem ["value"] (liftSp K sp_is_stem) :=
  dfn T.F_is_stem sc_is_stem rfl len_is_stem (fun cdv A outer s H E hr => ⟨t_is_stem, (dss_one (ds_ret (de_and (de_callB (b_isi) T.z_isinstance (by decide +kernel) (da_cons (de_var 0) (da_cons (de_ty rfl T.z_tuple (by decide +kernel)) da_nil))) (de_and (de_cmp (o_eq hr.units) (de_callB (b_len) T.z_len (by decide +kernel) (da_cons (de_var 0) da_nil)) de_int) (de_and (de_call (ok_is_letters T) (hr.mono (by decide)) T.m_is_letters T.F_is_letters.kp T.b_is_letters (da_cons (de_ix (de_var 0) de_int) (da_cons de_int (da_cons T.c_MOST_STEM da_nil)))) (de_one (de_call (ok_are_flags T) (hr.mono (by decide)) T.m_are_flags T.F_are_flags.kp T.b_are_flags (da_cons (de_ix (de_var 0) de_int) da_nil)))))))), rd_is_stem⟩) sx_is_stem
theorem ok_is_prefix (T : Txt P K mg) : FnOk P w K mg base CX0 2 T.f_is_prefix T.d_is_prefix ["value"] (liftSp K sp_is_prefix) :=
  dfn T.F_is_prefix sc_is_prefix rfl len_is_prefix (fun cdv A outer s H E hr => ⟨t_is_prefix, (dss_cons (ds_if (DW.dt (dw_or (dt_not (dt_val (de_callB (b_isi) T.z_isinstance (by decide +kernel) (da_cons (de_var 0) (da_cons (de_ty rfl T.z_tuple (by decide +kernel)) da_nil))))) (dw_or (dt_cmp (o_ne hr.units) (de_callB (b_len) T.z_len (by decide +kernel) (da_cons (de_var 0) da_nil)) de_int) (dw_or1 (dt_not (dt_val (de_call (ok_is_flag T) (hr.mono (by decide)) T.m_is_flag T.F_is_flag.kp T.b_is_flag (da_cons (de_ix (de_var 0) de_int) da_nil)))))))) (dss_one (ds_ret de_bl)) dss_nil)
  (dss_one (ds_ret (de_and (de_call (ok_is_letters T) (hr.mono (by decide)) T.m_is_letters T.F_is_letters.kp T.b_is_letters (da_cons (de_ix (de_var 0) de_int) (da_cons de_int (da_cons T.c_MOST_TEXT da_nil)))) (de_and (de_call (ok_is_letters T) (hr.mono (by decide)) T.m_is_letters T.F_is_letters.kp T.b_is_letters (da_cons (de_ix (de_var 0) de_int) (da_cons de_int (da_cons T.c_MOST_TEXT da_nil)))) (de_one (de_cmp (o_ne hr.units) (de_ix (de_var 0) de_int) (de_ix (de_var 0) de_int)))))))), rd_is_prefix⟩) sx_is_prefix
theorem ok_is_suffix (T : Txt P K mg) : FnOk P w K mg base CX0 2 T.f_is_suffix T.d_is_suffix ["value"] (liftSp K sp_is_suffix) :=
  dfn T.F_is_suffix sc_is_suffix rfl len_is_suffix (fun cdv A outer s H E hr => ⟨t_is_suffix, (dss_cons (ds_if (DW.dt (dw_or (dt_not (dt_val (de_callB (b_isi) T.z_isinstance (by decide +kernel) (da_cons (de_var 0) (da_cons (de_ty rfl T.z_tuple (by decide +kernel)) da_nil))))) (dw_or (dt_cmp (o_ne hr.units) (de_callB (b_len) T.z_len (by decide +kernel) (da_cons (de_var 0) da_nil)) de_int) (dw_or1 (dt_not (dt_val (de_call (ok_is_flag T) (hr.mono (by decide)) T.m_is_flag T.F_is_flag.kp T.b_is_flag (da_cons (de_ix (de_var 0) de_int) da_nil)))))))) (dss_one (ds_ret de_bl)) dss_nil)
  (dss_one (ds_ret (de_and (de_call (ok_is_letters T) (hr.mono (by decide)) T.m_is_letters T.F_is_letters.kp T.b_is_letters (da_cons (de_ix (de_var 0) de_int) (da_cons de_int (da_cons T.c_MOST_TEXT da_nil)))) (de_and (de_call (ok_is_letters T) (hr.mono (by decide)) T.m_is_letters T.F_is_letters.kp T.b_is_letters (da_cons (de_ix (de_var 0) de_int) (da_cons de_int (da_cons T.c_MOST_TEXT da_nil)))) (de_one (de_call (ok_are_flags T) (hr.mono (by decide)) T.m_are_flags T.F_are_flags.kp T.b_are_flags (da_cons (de_ix (de_var 0) de_int) da_nil)))))))), rd_is_suffix⟩) sx_is_suffix
theorem ok_entry_in (T : Txt P K mg) : FnOk P w K mg base CX0 3 T.f_entry_in T.d_entry_in ["line"] (liftSp K sp_entry_in) :=
  dfn T.F_entry_in sc_entry_in rfl len_entry_in (fun cdv A outer s H E hr => ⟨t_entry_in, (dss_cons (ds_set 1 sc_entry_in.nd (de_mS PySem.F.slot_str_split PySem.F.type_str_split m_split (de_var 0) (da_cons (de_str [32]) da_nil)))
  (dss_cons (ds_if (DW.dt (dw_or (dt_cmp o_notInT (de_ix (de_var 1) de_int) (de_globT T.k_KINDS)) (dw_or1 (dt_cmp (o_inL (hu65 hr)) (de_str []) (de_var 1))))) (dss_one (ds_ret de_non)) dss_nil)
  (dss_cons (ds_set 2 sc_entry_in.nd (de_callTy (b_tuple) T.z_tuple (by decide +kernel) (da_cons (de_lc [("word", 5)] rfl sc_entry_in.nd (di_seq (de_slice (de_var 1) (do_some de_int) do_none)) (blkOk_by (N := ["line", "words", "entry", "kind", "fits", "word"]) (sc := defScope s_entry_in) (by decide +kernel)) (fun _ _ _ _ _ => (dg_name 5 sc_entry_in.nd)) (fun _ _ _ _ _ => dts_nil) (fun _ _ _ _ _ => (de_ifExp (dt_cmp (o_ne hr.units) (de_var 5) (de_str [45])) (de_var 5) (de_str [])))) da_nil)))
  (dss_cons (ds_set 3 sc_entry_in.nd (de_index T.k_KINDS (da_cons (de_ix (de_var 1) de_int) da_nil)))
  (dss_cons (ds_set 4 sc_entry_in.nd (de_lst (da_cons (de_call (ok_is_stem T) (hr.mono (by decide)) T.m_is_stem T.F_is_stem.kp T.b_is_stem (da_cons (de_var 2) da_nil)) (da_cons (de_call (ok_is_prefix T) (hr.mono (by decide)) T.m_is_prefix T.F_is_prefix.kp T.b_is_prefix (da_cons (de_var 2) da_nil)) (da_cons (de_call (ok_is_suffix T) (hr.mono (by decide)) T.m_is_suffix T.F_is_suffix.kp T.b_is_suffix (da_cons (de_var 2) da_nil)) da_nil)))))
  (dss_one (ds_ret (de_ifExp (dt_val (de_ix (de_var 4) (de_var 3))) (de_tup (da_cons (de_var 3) (da_cons (de_var 2) da_nil))) de_non)))))))), rd_entry_in⟩) sx_entry_in
theorem ok_read_list (T : Txt P K mg) : FnOk P w K mg base (L2.CX P w) 4 T.f_read_list T.d_read_list ["text"] (liftSpL K (sp_read_list T.C)) :=
  dfnL T.F_read_list sc_read_list rfl (len_read_list T.C) (fun cdv A outer s H E hr XD => ⟨t_read_list T.C XD, (dss_cons (ds_if (dt_not (dt_val (de_callB (b_isi) T.z_isinstance (by decide +kernel) (da_cons (de_var 0) (da_cons (de_ty rfl T.z_str (by decide +kernel)) da_nil))))) (dss_one (ds_raise rfl (takes_of rfl rfl rfl rfl) T.ini.oex T.iC T.tI (ok_init T) (hr.mono (by decide)) T.b_init T.m_InvalidText de_int)) dss_nil)
  (dss_cons (ds_par 1 2 rfl sc_read_list.nd (de_lstM (da_cons (de_tup da_nil) (da_cons (de_tup da_nil) (da_cons (de_tup da_nil) da_nil)))) de_non)
  (dss_cons (ds_for (passes_of rfl) rfl (di_enum T.z_enumerate (da_cons (de_ifExp (dt_cmp (o_ne hr.units) (de_var 0) (de_str [])) (de_mS PySem.F.slot_str_split PySem.F.type_str_split m_split (de_var 0) (da_cons (de_str [10]) da_nil)) (de_lst da_nil)) da_nil)) (dg_tup rfl (dgs_cons (dg_name 3 sc_read_list.nd) (dgs_cons (dg_name 4 sc_read_list.nd) dgs_nil)))
    (dss_cons (ds_set 5 sc_read_list.nd (de_call (ok_entry_in T) (hr.mono (by decide)) T.m_entry_in T.F_entry_in.kp T.b_entry_in (da_cons (de_var 4) da_nil)))
  (dss_cons (ds_if (DW.dt (dw_or (dt_cmp o_isN (de_var 5) de_non) (dw_or (DW.dt (dw_and (dt_cmp o_notN (de_var 2) de_non) (dw_and1 (dt_cmp (o_leT (hu65 hr)) (de_var 5) (de_var 2))))) (dw_or1 (dt_cmp (o_eq hr.units) (de_callB (b_len) T.z_len (by decide +kernel) (da_cons (de_ix (de_var 1) (de_ix (de_var 5) de_int)) da_nil)) (de_ix (de_globT T.k_MOST) (de_ix (de_var 5) de_int))))))) (dss_one (ds_raise rfl (takes_of rfl rfl rfl rfl) T.ini.oex T.iC T.tI (ok_init T) (hr.mono (by decide)) T.b_init T.m_InvalidText (de_op o_add (de_var 3) de_int))) dss_nil)
  (dss_cons (ds_subL (de_op o_add (de_ix (de_var 1) (de_ix (de_var 5) de_int)) (de_tup (da_cons (de_ix (de_var 5) de_int) da_nil))) (de_var 1) (de_ix (de_var 5) de_int))
  (dss_one (ds_set 2 sc_read_list.nd (de_var 5)))))))
  (dss_one (ds_ret (de_callTy (b_tuple) T.z_tuple (by decide +kernel) (da_cons (de_var 1) da_nil))))))), rd_read_list T.C XD⟩)
theorem ok__law_source (T : Txt P K mg) : FnOk P w K mg base CX0 1 T.f__law_source T.d__law_source ["script", "index"] (liftSp K sp__law_source) :=
  dfn T.F__law_source sc__law_source rfl len__law_source (fun cdv A outer s H E hr => ⟨t__law_source, (dss_cons (ds_set 2 sc__law_source.nd de_int)
  (dss_cons (ds_if (dt_cmp o_lt (de_var 1) (de_callB (b_len) T.z_len (by decide +kernel) (da_cons (de_var 0) da_nil))) (dss_one (ds_set 2 sc__law_source.nd (de_callB (b_abs) T.z_abs (by decide +kernel) (da_cons (de_ix (de_var 0) (de_var 1)) da_nil)))) dss_nil)
  (dss_cons (ds_if (dt_cmp o_lt (de_var 2) (de_op o_pow de_int de_int)) (dss_one (ds_ret (de_lstM (da_cons de_int (da_cons (de_op o_add de_int (de_op o_mod (de_callTy (b_int) T.z_int (by decide +kernel) (da_cons (de_op o_add (de_op o_mul (de_var 2) de_int) (de_op o_mul de_int (de_var 1))) da_nil)) de_int)) da_nil))))) dss_nil)
  (dss_one (ds_ret (de_lstM (da_cons (de_var 2) (da_cons (de_op o_add de_int (de_op o_mod (de_callTy (b_int) T.z_int (by decide +kernel) (da_cons (de_op o_add (de_var 2) (de_var 1)) da_nil)) de_int)) da_nil)))))))), rd__law_source⟩) sx__law_source
theorem ok__law_draw (T : Txt P K mg) : FnOk P w K mg base CX0 1 T.f__law_draw T.d__law_draw ["source", "size"] (liftSp K sp__law_draw) :=
  dfn T.F__law_draw sc__law_draw rfl len__law_draw (fun cdv A outer s H E hr => ⟨t__law_draw, (dss_cons (ds_if (dt_cmp o_gt (de_ix (de_var 0) de_int) de_int) (dss_cons (ds_set 2 sc__law_draw.nd (de_op o_mod (de_callTy (b_int) T.z_int (by decide +kernel) (da_cons (de_ix (de_var 0) de_int) da_nil)) (de_var 1)))
  (dss_cons (ds_subL (de_op o_div (de_ix (de_var 0) de_int) (de_var 1)) (de_var 0) de_int)
  (dss_one (ds_ret (de_var 2))))) dss_nil)
  (dss_cons (ds_subL (de_op o_mod (de_callTy (b_int) T.z_int (by decide +kernel) (da_cons (de_op o_mul (de_ix (de_var 0) de_int) de_int) da_nil)) de_int) (de_var 0) de_int)
  (dss_one (ds_ret (de_op o_mod (de_callTy (b_int) T.z_int (by decide +kernel) (da_cons (de_op o_div (de_op o_mod (de_callTy (b_int) T.z_int (by decide +kernel) (da_cons (de_op o_mul (de_ix (de_var 0) de_int) (de_ix (de_var 0) de_int)) da_nil)) de_int) de_int) da_nil)) (de_var 1)))))), rd__law_draw⟩) sx__law_draw
theorem ok__law_choice (T : Txt P K mg) : FnOk P w K mg base CX0 2 T.f__law_choice T.d__law_choice ["source", "items"] (liftSp K sp__law_choice) :=
  dfn T.F__law_choice sc__law_choice rfl len__law_choice (fun cdv A outer s H E hr => ⟨t__law_choice, (dss_one (ds_ret (de_ix (de_var 1) (de_call (ok__law_draw T) (hr.mono (by decide)) T.m__law_draw T.F__law_draw.kp T.b__law_draw (da_cons (de_var 0) (da_cons (de_callB (b_len) T.z_len (by decide +kernel) (da_cons (de_var 1) da_nil)) da_nil)))))), rd__law_choice⟩) sx__law_choice
theorem ok__law_some_letters (T : Txt P K mg) : FnOk P w K mg base CX0 3 T.f__law_some_letters T.d__law_some_letters ["source", "least", "most"] (liftSp K sp__law_some_letters) :=
  dfn T.F__law_some_letters sc__law_some_letters rfl len__law_some_letters (fun cdv A outer s H E hr => ⟨t__law_some_letters, (dss_cons (ds_set 3 sc__law_some_letters.nd (de_op o_add (de_var 1) (de_call (ok__law_draw T) (hr.mono (by decide)) T.m__law_draw T.F__law_draw.kp T.b__law_draw (da_cons (de_var 0) (da_cons (de_op o_add (de_op o_sub (de_var 2) (de_var 1)) de_int) da_nil)))))
  (dss_one (ds_ret (de_mS PySem.F.slot_str_join PySem.F.type_str_join m_join (de_str []) (da_cons (de_lc [("place", 4)] rfl sc__law_some_letters.nd (di_range1 T.z_range (da_cons (de_var 3) da_nil)) (blkOk_by (N := ["source", "least", "most", "many", "place"]) (sc := defScope s__law_some_letters) (by decide +kernel)) (fun _ _ _ _ _ => (dg_name 4 sc__law_some_letters.nd)) (fun _ _ _ _ _ => dts_nil) (fun _ _ _ _ _ => (de_call (ok__law_choice T) (hr.mono (by decide)) T.m__law_choice T.F__law_choice.kp T.b__law_choice (da_cons (de_var 0) (da_cons (de_lst (da_cons (de_str [97]) (da_cons (de_str [97]) (da_cons (de_str [98]) (da_cons (de_str [98]) (da_cons (de_str [99]) da_nil)))))) da_nil))))) da_nil))))), rd__law_some_letters⟩) sx__law_some_letters
theorem ok__law_some_flags (T : Txt P K mg) : FnOk P w K mg base CX0 3 T.f__law_some_flags T.d__law_some_flags ["source", "most"] (liftSp K sp__law_some_flags) :=
  dfn T.F__law_some_flags sc__law_some_flags rfl len__law_some_flags (fun cdv A outer s H E hr => ⟨t__law_some_flags, (dss_cons (ds_setLc 2 [("place", 3)] rfl sc__law_some_flags.nd (di_range1 T.z_range (da_cons (de_call (ok__law_draw T) (hr.mono (by decide)) T.m__law_draw T.F__law_draw.kp T.b__law_draw (da_cons (de_var 0) (da_cons (de_op o_add (de_var 1) de_int) da_nil))) da_nil)) (blkOk_by (N := ["source", "most", "some", "place"]) (sc := defScope s__law_some_flags) (by decide +kernel)) (fun _ _ _ _ _ => (dg_name 3 sc__law_some_flags.nd)) (fun _ _ _ _ _ => dts_nil) (fun _ _ _ _ _ => (de_call (ok__law_choice T) (hr.mono (by decide)) T.m__law_choice T.F__law_choice.kp T.b__law_choice (da_cons (de_var 0) (da_cons (de_lst (da_cons (de_str [65]) (da_cons (de_str [65]) (da_cons (de_str [66]) (da_cons (de_str [66]) (da_cons (de_str [88]) (da_cons (de_str [90]) da_nil))))))) da_nil)))) (sw_true rfl rfl rfl (by decide +kernel)))
  (dss_one (ds_ret (de_mS PySem.F.slot_str_join PySem.F.type_str_join m_join (de_str []) (da_cons (de_sortSet rfl (hu17 hr) T.z_sorted (by decide +kernel) T.z_set (by decide +kernel) (de_var 2)) da_nil))))), rd__law_some_flags⟩) sx__law_some_flags
theorem ok__law_list (T : Txt P K mg) : FnOk P w K mg base CX0 4 T.f__law_list T.d__law_list ["source", "grows"] (liftSp K sp__law_list) :=
  dfn T.F__law_list sc__law_list rfl len__law_list (fun cdv A outer s H E hr => ⟨t__law_list, (dss_cons (ds_setLc 2 [("place", 5)] rfl sc__law_list.nd (di_range1 T.z_range (da_cons (de_call (ok__law_draw T) (hr.mono (by decide)) T.m__law_draw T.F__law_draw.kp T.b__law_draw (da_cons (de_var 0) (da_cons de_int da_nil))) da_nil)) (blkOk_by (N := ["source", "grows", "stems", "prefixes", "suffixes", "place", "old", "new"]) (sc := defScope s__law_list) (by decide +kernel)) (fun _ _ _ _ _ => (dg_name 5 sc__law_list.nd)) (fun _ _ _ _ _ => dts_nil) (fun _ _ _ _ _ => (de_tup (da_cons (de_call (ok__law_some_letters T) (hr.mono (by decide)) T.m__law_some_letters T.F__law_some_letters.kp T.b__law_some_letters (da_cons (de_var 0) (da_cons de_int (da_cons de_int da_nil)))) (da_cons (de_call (ok__law_some_flags T) (hr.mono (by decide)) T.m__law_some_flags T.F__law_some_flags.kp T.b__law_some_flags (da_cons (de_var 0) (da_cons de_int da_nil))) da_nil)))) (sw_true rfl rfl rfl (by decide +kernel)))
  (dss_cons (ds_par 3 4 rfl sc__law_list.nd (de_lstM da_nil) (de_lstM da_nil))
  (dss_cons (ds_for PassesOwn.never rfl (di_range1 T.z_range (da_cons (de_call (ok__law_draw T) (hr.mono (by decide)) T.m__law_draw T.F__law_draw.kp T.b__law_draw (da_cons (de_var 0) (da_cons de_int da_nil))) da_nil)) (dg_name 5 sc__law_list.nd)
    (dss_cons (ds_par 6 7 rfl sc__law_list.nd (de_call (ok__law_some_letters T) (hr.mono (by decide)) T.m__law_some_letters T.F__law_some_letters.kp T.b__law_some_letters (da_cons (de_var 0) (da_cons de_int (da_cons de_int da_nil)))) (de_call (ok__law_some_letters T) (hr.mono (by decide)) T.m__law_some_letters T.F__law_some_letters.kp T.b__law_some_letters (da_cons (de_var 0) (da_cons de_int (da_cons de_int da_nil)))))
  (dss_one (ds_if (dt_cmp (o_ne hr.units) (de_var 6) (de_var 7)) (dss_one (ds_expr (de_mL PySem.F.slot_list_append PySem.F.type_list_append m_append (de_var 3) (da_cons (de_tup (da_cons (de_call (ok__law_choice T) (hr.mono (by decide)) T.m__law_choice T.F__law_choice.kp T.b__law_choice (da_cons (de_var 0) (da_cons (de_lst (da_cons (de_str [65]) (da_cons (de_str [66]) (da_cons (de_str [90]) da_nil)))) da_nil))) (da_cons (de_var 6) (da_cons (de_var 7) da_nil)))) da_nil)))) dss_nil))))
  (dss_cons (ds_for PassesOwn.never rfl (di_range1 T.z_range (da_cons (de_call (ok__law_draw T) (hr.mono (by decide)) T.m__law_draw T.F__law_draw.kp T.b__law_draw (da_cons (de_var 0) (da_cons de_int da_nil))) da_nil)) (dg_name 5 sc__law_list.nd)
    (dss_cons (ds_set 6 sc__law_list.nd (de_call (ok__law_some_letters T) (hr.mono (by decide)) T.m__law_some_letters T.F__law_some_letters.kp T.b__law_some_letters (da_cons (de_var 0) (da_cons de_int (da_cons de_int da_nil)))))
  (dss_cons (ds_set 7 sc__law_list.nd (de_call (ok__law_some_letters T) (hr.mono (by decide)) T.m__law_some_letters T.F__law_some_letters.kp T.b__law_some_letters (da_cons (de_var 0) (da_cons (de_ifExp (dt_val (de_var 1)) (de_callB (b_len) T.z_len (by decide +kernel) (da_cons (de_var 6) da_nil)) de_int) (da_cons de_int da_nil)))))
  (dss_one (ds_expr (de_mL PySem.F.slot_list_append PySem.F.type_list_append m_append (de_var 4) (da_cons (de_tup (da_cons (de_call (ok__law_choice T) (hr.mono (by decide)) T.m__law_choice T.F__law_choice.kp T.b__law_choice (da_cons (de_var 0) (da_cons (de_lst (da_cons (de_str [65]) (da_cons (de_str [66]) (da_cons (de_str [88]) da_nil)))) da_nil))) (da_cons (de_var 6) (da_cons (de_var 7) (da_cons (de_call (ok__law_some_flags T) (hr.mono (by decide)) T.m__law_some_flags T.F__law_some_flags.kp T.b__law_some_flags (da_cons (de_var 0) (da_cons de_int da_nil))) da_nil))))) da_nil)))))))
  (dss_one (ds_ret (de_tup (da_cons (de_callTy (b_tuple) T.z_tuple (by decide +kernel) (da_cons (de_sortSet rfl (hu17 hr) T.z_sorted (by decide +kernel) T.z_set (by decide +kernel) (de_var 2)) da_nil)) (da_cons (de_callTy (b_tuple) T.z_tuple (by decide +kernel) (da_cons (de_sortSet rfl (hu17 hr) T.z_sorted (by decide +kernel) T.z_set (by decide +kernel) (de_var 3)) da_nil)) (da_cons (de_callTy (b_tuple) T.z_tuple (by decide +kernel) (da_cons (de_sortSet rfl (hu17 hr) T.z_sorted (by decide +kernel) T.z_set (by decide +kernel) (de_var 4)) da_nil)) da_nil)))))))))), rd__law_list⟩) sx__law_list
theorem ok__law_lines (T : Txt P K mg) : FnOk P w K mg base CX0 1 T.f__law_lines T.d__law_lines ["lists"] (liftSp K sp__law_lines) :=
  dfn T.F__law_lines sc__law_lines rfl len__law_lines (fun cdv A outer s H E hr => ⟨t__law_lines, (dss_cons (ds_set 1 sc__law_lines.nd (de_lstM da_nil))
  (dss_cons (ds_for PassesOwn.never rfl (di_zipM T.z_zip (da_cons (de_lst (da_cons (de_str [115, 116, 101, 109]) (da_cons (de_str [112, 114, 101, 102, 105, 120]) (da_cons (de_str [115, 117, 102, 102, 105, 120]) da_nil)))) (da_cons (de_var 0) da_nil))) (dg_tup rfl (dgs_cons (dg_name 2 sc__law_lines.nd) (dgs_cons (dg_name 3 sc__law_lines.nd) dgs_nil)))
    (dss_one (ds_for PassesOwn.never rfl (di_seq (de_var 3)) (dg_name 4 sc__law_lines.nd)
    (dss_one (ds_expr (de_mL PySem.F.slot_list_append PySem.F.type_list_append m_append (de_var 1) (da_cons (de_op o_add (de_op o_add (de_var 2) (de_str [32])) (de_mS PySem.F.slot_str_join PySem.F.type_str_join m_join (de_str [32]) (da_cons (de_lc [("word", 5)] rfl sc__law_lines.nd (di_seq (de_var 4)) (blkOk_by (N := ["lists", "found", "name", "part", "entry", "word"]) (sc := defScope s__law_lines) (by decide +kernel)) (fun _ _ _ _ _ => (dg_name 5 sc__law_lines.nd)) (fun _ _ _ _ _ => dts_nil) (fun _ _ _ _ _ => (de_ifExp (dt_cmp (o_ne hr.units) (de_var 5) (de_str [])) (de_var 5) (de_str [45])))) da_nil))) da_nil)))))))
  (dss_one (ds_ret (de_var 1))))), rd__law_lines⟩) sx__law_lines
theorem ok__law_signs (T : Txt P K mg) : FnOk P w K mg base CX0 1 T.f__law_signs T.d__law_signs ["word", "least", "most", "signs"] (liftSp K sp__law_signs) :=
  dfn T.F__law_signs sc__law_signs rfl len__law_signs (fun cdv A outer s H E hr => ⟨t__law_signs, (dss_one (ds_ret (de_and (de_chain o_le o_le (de_var 1) (de_callB (b_len) T.z_len (by decide +kernel) (da_cons (de_var 0) da_nil)) (de_var 2)) (de_one (de_cmp (o_eq hr.units) (de_lc [("sign", 4)] rfl sc__law_signs.nd (di_seq (de_var 0)) (blkOk_by (N := ["word", "least", "most", "signs", "sign"]) (sc := defScope s__law_signs) (by decide +kernel)) (fun _ _ _ _ _ => (dg_name 4 sc__law_signs.nd)) (fun _ _ _ _ _ => (dts_one (dt_cmp o_notInC (de_var 4) (de_var 3)))) (fun _ _ _ _ _ => (de_var 4))) (de_lst da_nil)))))), rd__law_signs⟩) sx__law_signs
theorem ok__law_flags_in (T : Txt P K mg) : FnOk P w K mg base CX0 2 T.f__law_flags_in T.d__law_flags_in ["word"] (liftSp K sp__law_flags_in) :=
  dfn T.F__law_flags_in sc__law_flags_in rfl len__law_flags_in (fun cdv A outer s H E hr => ⟨t__law_flags_in, (dss_one (ds_ret (de_and (de_call (ok__law_signs T) (hr.mono (by decide)) T.m__law_signs T.F__law_signs.kp T.b__law_signs (da_cons (de_var 0) (da_cons de_int (da_cons de_int (da_cons (de_str [65, 66, 67, 68, 69, 70, 71, 72, 73, 74, 75, 76, 77, 78, 79, 80, 81, 82, 83, 84, 85, 86, 87, 88, 89, 90]) da_nil))))) (de_one (de_cmp (o_eq hr.units) (de_callTy (b_listG rfl) T.z_list (by decide +kernel) (da_cons (de_var 0) da_nil)) (de_sortSet rfl (hu17 hr) T.z_sorted (by decide +kernel) T.z_set (by decide +kernel) (de_var 0))))))), rd__law_flags_in⟩) sx__law_flags_in
theorem ok__law_entry (T : Txt P K mg) : FnOk P w K mg base CX0 3 T.f__law_entry T.d__law_entry ["line"] (liftSp K sp__law_entry) :=
  dfn T.F__law_entry sc__law_entry rfl len__law_entry (fun cdv A outer s H E hr => ⟨t__law_entry, (dss_cons (ds_par 1 2 rfl sc__law_entry.nd (de_mS PySem.F.slot_str_split PySem.F.type_str_split m_split (de_var 0) (da_cons (de_str [32]) da_nil)) (de_str [97, 98, 99, 100, 101, 102, 103, 104, 105, 106, 107, 108, 109, 110, 111, 112, 113, 114, 115, 116, 117, 118, 119, 120, 121, 122]))
  (dss_cons (ds_if (DW.dt (dw_or (dt_cmp (o_notInL (hu65 hr)) (de_ix (de_var 1) de_int) (de_lst (da_cons (de_str [115, 116, 101, 109]) (da_cons (de_str [112, 114, 101, 102, 105, 120]) (da_cons (de_str [115, 117, 102, 102, 105, 120]) da_nil))))) (dw_or1 (dt_cmp (o_inL (hu65 hr)) (de_str []) (de_var 1))))) (dss_one (ds_ret de_non)) dss_nil)
  (dss_cons (ds_set 3 sc__law_entry.nd (de_mL PySem.F.slot_list_index PySem.F.type_list_index (m_indexL (hu65 hr)) (de_lst (da_cons (de_str [115, 116, 101, 109]) (da_cons (de_str [112, 114, 101, 102, 105, 120]) (da_cons (de_str [115, 117, 102, 102, 105, 120]) da_nil)))) (da_cons (de_ix (de_var 1) de_int) da_nil)))
  (dss_cons (ds_setLc 4 [("word", 6)] rfl sc__law_entry.nd (di_seq (de_slice (de_var 1) (do_some de_int) do_none)) (blkOk_by (N := ["line", "words", "small", "kind", "parts", "fits", "word"]) (sc := defScope s__law_entry) (by decide +kernel)) (fun _ _ _ _ _ => (dg_name 6 sc__law_entry.nd)) (fun _ _ _ _ _ => dts_nil) (fun _ _ _ _ _ => (de_ifExp (dt_cmp (o_eq hr.units) (de_var 6) (de_str [45])) (de_str []) (de_var 6))) (sw_true rfl rfl rfl (by decide +kernel)))
  (dss_cons (ds_if (dt_cmp (o_ne hr.units) (de_callB (b_len) T.z_len (by decide +kernel) (da_cons (de_var 4) da_nil)) (de_op o_add (de_var 3) de_int)) (dss_one (ds_ret de_non)) dss_nil)
  (dss_cons (ds_if (dt_cmp (o_eq hr.units) (de_var 3) de_int) (dss_one (ds_set 5 sc__law_entry.nd (de_and (de_call (ok__law_signs T) (hr.mono (by decide)) T.m__law_signs T.F__law_signs.kp T.b__law_signs (da_cons (de_ix (de_var 4) de_int) (da_cons de_int (da_cons de_int (da_cons (de_var 2) da_nil))))) (de_one (de_call (ok__law_flags_in T) (hr.mono (by decide)) T.m__law_flags_in T.F__law_flags_in.kp T.b__law_flags_in (da_cons (de_ix (de_var 4) de_int) da_nil)))))) (dss_cons (ds_set 5 sc__law_entry.nd (de_call (ok__law_signs T) (hr.mono (by decide)) T.m__law_signs T.F__law_signs.kp T.b__law_signs (da_cons (de_ix (de_var 4) de_int) (da_cons de_int (da_cons de_int (da_cons (de_str [65, 66, 67, 68, 69, 70, 71, 72, 73, 74, 75, 76, 77, 78, 79, 80, 81, 82, 83, 84, 85, 86, 87, 88, 89, 90]) da_nil))))))
  (dss_cons (ds_set 5 sc__law_entry.nd (de_and (de_var 5) (de_and (de_call (ok__law_signs T) (hr.mono (by decide)) T.m__law_signs T.F__law_signs.kp T.b__law_signs (da_cons (de_ix (de_var 4) de_int) (da_cons de_int (da_cons de_int (da_cons (de_var 2) da_nil))))) (de_one (de_call (ok__law_signs T) (hr.mono (by decide)) T.m__law_signs T.F__law_signs.kp T.b__law_signs (da_cons (de_ix (de_var 4) de_int) (da_cons de_int (da_cons de_int (da_cons (de_var 2) da_nil)))))))))
  (dss_one (ds_set 5 sc__law_entry.nd (de_and (de_var 5) (de_one (de_ifExp (dt_cmp (o_eq hr.units) (de_var 3) de_int) (de_cmp (o_ne hr.units) (de_ix (de_var 4) de_int) (de_ix (de_var 4) de_int)) (de_call (ok__law_flags_in T) (hr.mono (by decide)) T.m__law_flags_in T.F__law_flags_in.kp T.b__law_flags_in (da_cons (de_ix (de_var 4) de_int) da_nil))))))))))
  (dss_one (ds_ret (de_ifExp (dt_val (de_var 5)) (de_tup (da_cons (de_var 3) (da_cons (de_callTy (b_tuple) T.z_tuple (by decide +kernel) (da_cons (de_var 4) da_nil)) da_nil))) de_non))))))))), rd__law_entry⟩) sx__law_entry
theorem ok__law_reading (T : Txt P K mg) : FnOk P w K mg base CX0 4 T.f__law_reading T.d__law_reading ["text"] (liftSp K sp__law_reading) :=
  dfn T.F__law_reading sc__law_reading rfl len__law_reading (fun cdv A outer s H E hr => ⟨t__law_reading, (dss_cons (ds_set 1 sc__law_reading.nd (de_lstM da_nil))
  (dss_cons (ds_if (dt_cmp (o_eq hr.units) (de_var 0) (de_str [])) (dss_one (ds_ret (de_tup (da_cons (de_tup da_nil) (da_cons (de_tup da_nil) (da_cons (de_tup da_nil) da_nil)))))) dss_nil)
  (dss_cons (ds_for PassesOwn.never rfl (di_enum T.z_enumerate (da_cons (de_mS PySem.F.slot_str_split PySem.F.type_str_split m_split (de_var 0) (da_cons (de_str [10]) da_nil)) da_nil)) (dg_tup rfl (dgs_cons (dg_name 2 sc__law_reading.nd) (dgs_cons (dg_name 3 sc__law_reading.nd) dgs_nil)))
    (dss_cons (ds_set 4 sc__law_reading.nd (de_call (ok__law_entry T) (hr.mono (by decide)) T.m__law_entry T.F__law_entry.kp T.b__law_entry (da_cons (de_var 3) da_nil)))
  (dss_cons (ds_if (DW.dt (dw_or (dt_cmp o_isN (de_var 4) de_non) (dw_or1 (DW.dt (dw_and (dt_cmp (o_ne hr.units) (de_var 1) (de_lst da_nil)) (dw_and1 (dt_not (dt_cmp (o_ltT (hu65 hr)) (de_ix (de_var 1) (de_un o_neg de_int)) (de_var 4))))))))) (dss_one (ds_ret (de_op o_add (de_var 2) de_int))) dss_nil)
  (dss_cons (ds_if (dt_cmp (o_eq hr.units) (de_callB (b_len) T.z_len (by decide +kernel) (da_cons (de_lc [("one", 5)] rfl sc__law_reading.nd (di_seq (de_var 1)) (blkOk_by (N := ["text", "found", "number", "line", "pair", "one", "part", "kind", "entry"]) (sc := defScope s__law_reading) (by decide +kernel)) (fun _ _ _ _ _ => (dg_name 5 sc__law_reading.nd)) (fun _ _ _ _ _ => (dts_one (dt_cmp (o_eq hr.units) (de_ix (de_var 5) de_int) (de_ix (de_var 4) de_int)))) (fun _ _ _ _ _ => (de_var 5))) da_nil)) (de_ix (de_lst (da_cons de_int (da_cons de_int (da_cons de_int da_nil)))) (de_ix (de_var 4) de_int))) (dss_one (ds_ret (de_op o_add (de_var 2) de_int))) dss_nil)
  (dss_one (ds_expr (de_mL PySem.F.slot_list_append PySem.F.type_list_append m_append (de_var 1) (da_cons (de_var 4) da_nil))))))))
  (dss_one (ds_ret (de_callTy (b_tuple) T.z_tuple (by decide +kernel) (da_cons (de_lc [("part", 6)] rfl sc__law_reading.nd (di_range1 T.z_range (da_cons de_int da_nil)) (blkOk_by (N := ["text", "found", "number", "line", "pair", "one", "part", "kind", "entry"]) (sc := defScope s__law_reading) (by decide +kernel)) (fun _ _ _ _ _ => (dg_name 6 sc__law_reading.nd)) (fun _ _ _ _ _ => dts_nil) (fun _ _ _ _ _ => (de_callTy (b_tuple) T.z_tuple (by decide +kernel) (da_cons (de_lc [("kind", 7), ("entry", 8)] rfl sc__law_reading.nd (di_seq (de_var 1)) (blkOk_by (by kernel_rfl)) (fun _ _ _ _ _ => (dg_tup rfl (dgs_cons (dg_name 7 sc__law_reading.nd) (dgs_cons (dg_name 8 sc__law_reading.nd) dgs_nil)))) (fun _ _ _ _ _ => (dts_one (dt_cmp (o_eq hr.units) (de_var 7) (de_var 6)))) (fun _ _ _ _ _ => (de_var 8))) da_nil)))) da_nil))))))), rd__law_reading⟩) sx__law_reading
theorem ok__law_told (T : Txt P K mg) : FnOk P w K mg base CX0 5 T.f__law_told T.d__law_told ["value"] (liftSp K sp__law_told) :=
  dfn T.F__law_told sc__law_told rfl len__law_told (fun cdv A outer s H E hr => ⟨t__law_told T.C, (dss_one (ds_told T.tel rfl rfl sc__law_told.nd rfl rfl rfl (.inl rfl) (ok_read_list T) (hr.mono (by decide)) T.m_read_list T.F_read_list.kp T.b_read_list rfl T.m_InvalidText rfl T.m_ListError rfl T.z_isinstance rfl T.z_ValueError rfl (fun _ e => by rw [e]; rfl) rfl rfl rfl rfl rfl rfl rfl rfl PassesOwn.never)), rd__law_told T.C⟩) sx__law_told
theorem ok_law (T : Txt P K mg) : FnOk P w K mg base CX0 6 T.f_law T.d_law ["script"] (liftSp K sp_law) :=
  dfn T.F_law sc_law rfl len_law (fun cdv A outer s H E hr => ⟨t_law, (dss_cons (ds_for PassesOwn.never rfl (di_range1 T.z_range (da_cons (de_op o_add de_int (de_callB (b_min2 rfl) T.z_min (by decide +kernel) (da_cons (de_callB (b_len) T.z_len (by decide +kernel) (da_cons (de_var 0) da_nil)) (da_cons de_int da_nil)))) da_nil)) (dg_name 1 sc_law.nd)
    (dss_cut (dss_cons (ds_set 2 sc_law.nd (de_call (ok__law_source T) (hr.mono (by decide)) T.m__law_source T.F__law_source.kp T.b__law_source (da_cons (de_var 0) (da_cons (de_var 1) da_nil))))
  (dss_one (ds_for PassesOwn.never rfl (di_range1 T.z_range (da_cons de_int da_nil)) (dg_name 3 sc_law.nd)
    (dss_cut (dss_cons (ds_set 4 sc_law.nd (de_mS PySem.F.slot_str_join PySem.F.type_str_join m_join (de_str [10]) (da_cons (de_call (ok__law_lines T) (hr.mono (by decide)) T.m__law_lines T.F__law_lines.kp T.b__law_lines (da_cons (de_call (ok__law_list T) (hr.mono (by decide)) T.m__law_list T.F__law_list.kp T.b__law_list (da_cons (de_var 2) (da_cons de_bl da_nil))) da_nil)) da_nil)))
  (dss_one (ds_for PassesOwn.never rfl (di_range1 T.z_range (da_cons de_int da_nil)) (dg_name 5 sc_law.nd)
    (dss_cons (ds_par 6 7 rfl sc_law.nd (de_call (ok__law_draw T) (hr.mono (by decide)) T.m__law_draw T.F__law_draw.kp T.b__law_draw (da_cons (de_var 2) (da_cons (de_op o_add (de_callB (b_len) T.z_len (by decide +kernel) (da_cons (de_var 4) da_nil)) de_int) da_nil))) (de_mS PySem.F.slot_str_split PySem.F.type_str_split m_split (de_var 4) (da_cons (de_str [10]) da_nil)))
  (dss_cons (ds_set 8 sc_law.nd (de_lst (da_cons (de_str []) (da_cons (de_str [97]) (da_cons (de_str [65]) (da_cons (de_str [45]) (da_cons (de_str [32]) (da_cons (de_str [88]) (da_cons (de_str [10]) (da_cons (de_str [115, 116, 101, 109, 32, 97, 32, 45, 10]) (da_cons (de_str [10, 112, 114, 101, 102, 105, 120, 32, 65, 32, 97, 32, 45]) (da_cons (de_str [115, 117, 102, 102, 105, 120]) (da_cons (de_str [83]) (da_cons (de_str [48]) da_nil))))))))))))))
  (dss_cons (ds_set 9 sc_law.nd (de_slice (de_var 4) (do_some (de_op o_add (de_var 6) (de_call (ok__law_draw T) (hr.mono (by decide)) T.m__law_draw T.F__law_draw.kp T.b__law_draw (da_cons (de_var 2) (da_cons de_int da_nil))))) do_none))
  (dss_cons (ds_set 10 sc_law.nd (de_op o_add (de_op o_add (de_slice (de_var 4) do_none (do_some (de_var 6))) (de_call (ok__law_choice T) (hr.mono (by decide)) T.m__law_choice T.F__law_choice.kp T.b__law_choice (da_cons (de_var 2) (da_cons (de_var 8) da_nil)))) (de_var 9)))
  (dss_cons (ds_if (dt_cmp (o_eq hr.units) (de_call (ok__law_draw T) (hr.mono (by decide)) T.m__law_draw T.F__law_draw.kp T.b__law_draw (da_cons (de_var 2) (da_cons de_int da_nil))) de_int) (dss_cons (ds_set 11 sc_law.nd (de_call (ok__law_draw T) (hr.mono (by decide)) T.m__law_draw T.F__law_draw.kp T.b__law_draw (da_cons (de_var 2) (da_cons (de_callB (b_len) T.z_len (by decide +kernel) (da_cons (de_var 7) da_nil)) da_nil))))
  (dss_cons (ds_set 12 sc_law.nd (de_op o_add (de_slice (de_var 7) do_none (do_some (de_var 11))) (de_revL (de_slice (de_var 7) (do_some (de_var 11)) do_none))))
  (dss_one (ds_set 10 sc_law.nd (de_mS PySem.F.slot_str_join PySem.F.type_str_join m_join (de_str [10]) (da_cons (de_op o_add (de_var 12) (de_slice (de_var 7) do_none (do_some (de_call (ok__law_draw T) (hr.mono (by decide)) T.m__law_draw T.F__law_draw.kp T.b__law_draw (da_cons (de_var 2) (da_cons de_int da_nil)))))) da_nil)))))) dss_nil)
  (dss_cons (ds_if (dt_cmp (o_ne hr.units) (de_call (ok__law_told T) (hr.mono (by decide)) T.m__law_told T.F__law_told.kp T.b__law_told (da_cons (de_var 10) da_nil)) (de_call (ok__law_reading T) (hr.mono (by decide)) T.m__law_reading T.F__law_reading.kp T.b__law_reading (da_cons (de_var 10) da_nil))) (dss_one (ds_ret de_bl)) dss_nil)
  (dss_one (ds_set 4 sc_law.nd (de_ifExp (DW.dt (dw_and (dt_cmp (o_eq hr.units) (de_call (ok__law_draw T) (hr.mono (by decide)) T.m__law_draw T.F__law_draw.kp T.b__law_draw (da_cons (de_var 2) (da_cons de_int da_nil))) de_int) (dw_and1 (dt_cmp o_lt (de_callB (b_len) T.z_len (by decide +kernel) (da_cons (de_var 10) da_nil)) de_int)))) (de_var 10) (de_var 4)))))))))))))))))))
  (dss_cons (ds_for PassesOwn.never rfl (di_seq (de_lst (da_cons de_non (da_cons de_int (da_cons (de_tup da_nil) (da_cons (de_lst (da_cons (de_str [115, 116, 101, 109, 32, 97, 32, 45]) da_nil)) (da_cons de_bl (da_cons (de_tup (da_cons (de_tup (da_cons (de_tup (da_cons (de_str [97]) (da_cons (de_str []) da_nil))) da_nil)) (da_cons (de_tup da_nil) (da_cons (de_tup da_nil) da_nil)))) da_nil)))))))) (dg_name 13 sc_law.nd)
    (dss_one (ds_if (DW.dt (dw_or (dt_cmp (o_ne hr.units) (de_call (ok__law_told T) (hr.mono (by decide)) T.m__law_told T.F__law_told.kp T.b__law_told (da_cons (de_var 13) da_nil)) de_int) (dw_or1 (dt_val (de_callB (b_isi) T.z_isinstance (by decide +kernel) (da_cons (de_call (ok__law_told T) (hr.mono (by decide)) T.m__law_told T.F__law_told.kp T.b__law_told (da_cons (de_var 13) da_nil)) (da_cons (de_ty rfl T.z_bool (by decide +kernel)) da_nil))))))) (dss_one (ds_ret de_bl)) dss_nil)))
  (dss_cons (ds_set 14 sc_law.nd (de_mS PySem.F.slot_str_join PySem.F.type_str_join m_join (de_str [10]) (da_cons (de_lc [("letter", 15)] rfl sc_law.nd (di_seq (de_str [97, 98, 99, 100])) (blkOk_by (N := ["script", "k", "source", "turn", "text", "change", "at", "lines", "signs", "rest", "other", "spot", "rows", "value", "many", "letter"]) (sc := defScope s_law) (by decide +kernel)) (fun _ _ _ _ _ => (dg_name 15 sc_law.nd)) (fun _ _ _ _ _ => dts_nil) (fun _ _ _ _ _ => (de_op o_add (de_str [112, 114, 101, 102, 105, 120, 32, 65, 32, 45, 32]) (de_var 15)))) da_nil)))
  (dss_cons (ds_if (DW.dt (dw_or (dt_cmp (o_ne hr.units) (de_call (ok__law_told T) (hr.mono (by decide)) T.m__law_told T.F__law_told.kp T.b__law_told (da_cons (de_var 14) da_nil)) de_int) (dw_or (dt_cmp (o_ne hr.units) (de_call (ok__law_told T) (hr.mono (by decide)) T.m__law_told T.F__law_told.kp T.b__law_told (da_cons (de_str [10]) da_nil)) de_int) (dw_or1 (dt_cmp (o_ne hr.units) (de_call (ok__law_told T) (hr.mono (by decide)) T.m__law_told T.F__law_told.kp T.b__law_told (da_cons (de_str [115, 116, 101, 109, 32, 97, 32, 45, 10, 115, 116, 101, 109, 32, 97, 32, 45]) da_nil)) de_int))))) (dss_one (ds_ret de_bl)) dss_nil)
  (dss_cons (ds_if (DW.dt (dw_or (dt_cmp (o_ne hr.units) (de_call (ok__law_told T) (hr.mono (by decide)) T.m__law_told T.F__law_told.kp T.b__law_told (da_cons (de_str [112, 114, 101, 102, 105, 120, 32, 65, 32, 97, 32, 98, 10, 115, 116, 101, 109, 32, 97, 32, 45]) da_nil)) de_int) (dw_or1 (dt_cmp (o_ne hr.units) (de_call (ok__law_told T) (hr.mono (by decide)) T.m__law_told T.F__law_told.kp T.b__law_told (da_cons (de_str [115, 116, 101, 109, 32, 97, 32, 32, 65]) da_nil)) de_int)))) (dss_one (ds_ret de_bl)) dss_nil)
  (dss_one (ds_ret (de_cmp (o_eq hr.units) (de_call (ok__law_told T) (hr.mono (by decide)) T.m__law_told T.F__law_told.kp T.b__law_told (da_cons (de_str [112, 114, 101, 102, 105, 120, 32, 65, 32, 45, 32, 45]) da_nil)) de_int)))))))), rd_law⟩) sx_law
end
--LEVEL law 6
theorem all_mk {l : PySem.W.OpenLaw} {w : World} {K : PySem.W.Frag} {h : Heap} {mg : Str → Option Value} {fa : Addr} (X : K.In h) (G : h.Ns mainGlobals mg) (hfa : mg "law" = some (.ref fa))
    {f0 : Addr} {od0 an0 : Option Addr} {sl0 : Array (Option Value)} {oc0 kV0 dc0 pm0 cd0 ct0 : Value}
    {f1 : Addr} {od1 an1 : Option Addr} {sl1 : Array (Option Value)} {oc1 kV1 dc1 pm1 cd1 ct1 : Value}
    {f2 : Addr} {od2 an2 : Option Addr} {sl2 : Array (Option Value)} {oc2 kV2 dc2 pm2 cd2 ct2 : Value}
    {f3 : Addr} {od3 an3 : Option Addr} {sl3 : Array (Option Value)} {oc3 kV3 dc3 pm3 cd3 ct3 : Value}
    {f4 : Addr} {od4 an4 : Option Addr} {sl4 : Array (Option Value)} {oc4 kV4 dc4 pm4 cd4 ct4 : Value}
    {f5 : Addr} {od5 an5 : Option Addr} {sl5 : Array (Option Value)} {oc5 kV5 dc5 pm5 cd5 ct5 : Value}
    {f6 : Addr} {od6 an6 : Option Addr} {sl6 : Array (Option Value)} {oc6 kV6 dc6 pm6 cd6 ct6 : Value}
    {f7 : Addr} {od7 an7 : Option Addr} {sl7 : Array (Option Value)} {oc7 kV7 dc7 pm7 cd7 ct7 : Value}
    {f8 : Addr} {od8 an8 : Option Addr} {sl8 : Array (Option Value)} {oc8 kV8 dc8 pm8 cd8 ct8 : Value}
    {f9 : Addr} {od9 an9 : Option Addr} {sl9 : Array (Option Value)} {oc9 kV9 dc9 pm9 cd9 ct9 : Value}
    {f10 : Addr} {od10 an10 : Option Addr} {sl10 : Array (Option Value)} {oc10 kV10 dc10 pm10 cd10 ct10 : Value}
    {f11 : Addr} {od11 an11 : Option Addr} {sl11 : Array (Option Value)} {oc11 kV11 dc11 pm11 cd11 ct11 : Value}
    {f12 : Addr} {od12 an12 : Option Addr} {sl12 : Array (Option Value)} {oc12 kV12 dc12 pm12 cd12 ct12 : Value}
    {f13 : Addr} {od13 an13 : Option Addr} {sl13 : Array (Option Value)} {oc13 kV13 dc13 pm13 cd13 ct13 : Value}
    {f14 : Addr} {od14 an14 : Option Addr} {sl14 : Array (Option Value)} {oc14 kV14 dc14 pm14 cd14 ct14 : Value}
    {f15 : Addr} {od15 an15 : Option Addr} {sl15 : Array (Option Value)} {oc15 kV15 dc15 pm15 cd15 ct15 : Value}
    {f16 : Addr} {od16 an16 : Option Addr} {sl16 : Array (Option Value)} {oc16 kV16 dc16 pm16 cd16 ct16 : Value}
    {f17 : Addr} {od17 an17 : Option Addr} {sl17 : Array (Option Value)} {oc17 kV17 dc17 pm17 cd17 ct17 : Value}
    {f18 : Addr} {od18 an18 : Option Addr} {sl18 : Array (Option Value)} {oc18 kV18 dc18 pm18 cd18 ct18 : Value}
    {f19 : Addr} {od19 an19 : Option Addr} {sl19 : Array (Option Value)} {oc19 kV19 dc19 pm19 cd19 ct19 : Value}
    {f20 : Addr} {od20 an20 : Option Addr} {sl20 : Array (Option Value)} {oc20 kV20 dc20 pm20 cd20 ct20 : Value}
    {tk_FLAGS : Tok}
    {ka_KINDS : Addr} {ks_KINDS : Array (Option Value)} {kn_KINDS : Nat} {kt0_KINDS : Tok} {kt1_KINDS : Tok} {kt2_KINDS : Tok}
    {tk_LETTERS : Tok}
    {ka_MOST : Addr} {ks_MOST : Array (Option Value)} {kn_MOST : Nat} {kt0_MOST : Tok} {kt1_MOST : Tok} {kt2_MOST : Tok}
    {tk_MOST_FLAGS : Tok}
    {tk_MOST_STEM : Tok}
    {tk_MOST_TEXT : Tok}
    {C B fI cda cc NC : Addr} {kVi doci pmi cti oci ccli cli : Value} {ani odi cddi cldi ddC : Option Addr} {osli ccsi csli : Array (Option Value)} {vsi : Array Value} {filei : Str} {tfi : Tok} {cdC : ClassData} {nmC qC : Str} {bsC bmC subC : List Value} {snC : List Str} {abC : Bool} {colC : Option Bool} {ek0 ek1 ek2 ek3 ek5 : Option Value}
    (a0 : PySem.W.nsIn K mainGlobals "is_letters" = some (some (.ref f0))) (l0 : K.lookup f0 = some ⟨oc0, od0, .func (PySem.W.fnOf "is_letters" "is_letters" (defArgs s_is_letters) (defBody s_is_letters) (defScope s_is_letters) .none kV0 dc0 pm0 an0 cd0 ct0), sl0⟩) (c0 : PySem.W.codeIn K cd0 "is_letters" = true) (k0 : PySem.W.keepIn K (.ref f0) = true)
    (a1 : PySem.W.nsIn K mainGlobals "is_flag" = some (some (.ref f1))) (l1 : K.lookup f1 = some ⟨oc1, od1, .func (PySem.W.fnOf "is_flag" "is_flag" (defArgs s_is_flag) (defBody s_is_flag) (defScope s_is_flag) .none kV1 dc1 pm1 an1 cd1 ct1), sl1⟩) (c1 : PySem.W.codeIn K cd1 "is_flag" = true) (k1 : PySem.W.keepIn K (.ref f1) = true)
    (a2 : PySem.W.nsIn K mainGlobals "are_flags" = some (some (.ref f2))) (l2 : K.lookup f2 = some ⟨oc2, od2, .func (PySem.W.fnOf "are_flags" "are_flags" (defArgs s_are_flags) (defBody s_are_flags) (defScope s_are_flags) .none kV2 dc2 pm2 an2 cd2 ct2), sl2⟩) (c2 : PySem.W.codeIn K cd2 "are_flags" = true) (k2 : PySem.W.keepIn K (.ref f2) = true)
    (a3 : PySem.W.nsIn K mainGlobals "is_stem" = some (some (.ref f3))) (l3 : K.lookup f3 = some ⟨oc3, od3, .func (PySem.W.fnOf "is_stem" "is_stem" (defArgs s_is_stem) (defBody s_is_stem) (defScope s_is_stem) .none kV3 dc3 pm3 an3 cd3 ct3), sl3⟩) (c3 : PySem.W.codeIn K cd3 "is_stem" = true) (k3 : PySem.W.keepIn K (.ref f3) = true)
    (a4 : PySem.W.nsIn K mainGlobals "is_prefix" = some (some (.ref f4))) (l4 : K.lookup f4 = some ⟨oc4, od4, .func (PySem.W.fnOf "is_prefix" "is_prefix" (defArgs s_is_prefix) (defBody s_is_prefix) (defScope s_is_prefix) .none kV4 dc4 pm4 an4 cd4 ct4), sl4⟩) (c4 : PySem.W.codeIn K cd4 "is_prefix" = true) (k4 : PySem.W.keepIn K (.ref f4) = true)
    (a5 : PySem.W.nsIn K mainGlobals "is_suffix" = some (some (.ref f5))) (l5 : K.lookup f5 = some ⟨oc5, od5, .func (PySem.W.fnOf "is_suffix" "is_suffix" (defArgs s_is_suffix) (defBody s_is_suffix) (defScope s_is_suffix) .none kV5 dc5 pm5 an5 cd5 ct5), sl5⟩) (c5 : PySem.W.codeIn K cd5 "is_suffix" = true) (k5 : PySem.W.keepIn K (.ref f5) = true)
    (a6 : PySem.W.nsIn K mainGlobals "entry_in" = some (some (.ref f6))) (l6 : K.lookup f6 = some ⟨oc6, od6, .func (PySem.W.fnOf "entry_in" "entry_in" (defArgs s_entry_in) (defBody s_entry_in) (defScope s_entry_in) .none kV6 dc6 pm6 an6 cd6 ct6), sl6⟩) (c6 : PySem.W.codeIn K cd6 "entry_in" = true) (k6 : PySem.W.keepIn K (.ref f6) = true)
    (a7 : PySem.W.nsIn K mainGlobals "read_list" = some (some (.ref f7))) (l7 : K.lookup f7 = some ⟨oc7, od7, .func (PySem.W.fnOf "read_list" "read_list" (defArgs s_read_list) (defBody s_read_list) (defScope s_read_list) .none kV7 dc7 pm7 an7 cd7 ct7), sl7⟩) (c7 : PySem.W.codeIn K cd7 "read_list" = true) (k7 : PySem.W.keepIn K (.ref f7) = true)
    (a8 : PySem.W.nsIn K mainGlobals "_law_source" = some (some (.ref f8))) (l8 : K.lookup f8 = some ⟨oc8, od8, .func (PySem.W.fnOf "_law_source" "_law_source" (defArgs s__law_source) (defBody s__law_source) (defScope s__law_source) .none kV8 dc8 pm8 an8 cd8 ct8), sl8⟩) (c8 : PySem.W.codeIn K cd8 "_law_source" = true) (k8 : PySem.W.keepIn K (.ref f8) = true)
    (a9 : PySem.W.nsIn K mainGlobals "_law_draw" = some (some (.ref f9))) (l9 : K.lookup f9 = some ⟨oc9, od9, .func (PySem.W.fnOf "_law_draw" "_law_draw" (defArgs s__law_draw) (defBody s__law_draw) (defScope s__law_draw) .none kV9 dc9 pm9 an9 cd9 ct9), sl9⟩) (c9 : PySem.W.codeIn K cd9 "_law_draw" = true) (k9 : PySem.W.keepIn K (.ref f9) = true)
    (a10 : PySem.W.nsIn K mainGlobals "_law_choice" = some (some (.ref f10))) (l10 : K.lookup f10 = some ⟨oc10, od10, .func (PySem.W.fnOf "_law_choice" "_law_choice" (defArgs s__law_choice) (defBody s__law_choice) (defScope s__law_choice) .none kV10 dc10 pm10 an10 cd10 ct10), sl10⟩) (c10 : PySem.W.codeIn K cd10 "_law_choice" = true) (k10 : PySem.W.keepIn K (.ref f10) = true)
    (a11 : PySem.W.nsIn K mainGlobals "_law_some_letters" = some (some (.ref f11))) (l11 : K.lookup f11 = some ⟨oc11, od11, .func (PySem.W.fnOf "_law_some_letters" "_law_some_letters" (defArgs s__law_some_letters) (defBody s__law_some_letters) (defScope s__law_some_letters) .none kV11 dc11 pm11 an11 cd11 ct11), sl11⟩) (c11 : PySem.W.codeIn K cd11 "_law_some_letters" = true) (k11 : PySem.W.keepIn K (.ref f11) = true)
    (a12 : PySem.W.nsIn K mainGlobals "_law_some_flags" = some (some (.ref f12))) (l12 : K.lookup f12 = some ⟨oc12, od12, .func (PySem.W.fnOf "_law_some_flags" "_law_some_flags" (defArgs s__law_some_flags) (defBody s__law_some_flags) (defScope s__law_some_flags) .none kV12 dc12 pm12 an12 cd12 ct12), sl12⟩) (c12 : PySem.W.codeIn K cd12 "_law_some_flags" = true) (k12 : PySem.W.keepIn K (.ref f12) = true)
    (a13 : PySem.W.nsIn K mainGlobals "_law_list" = some (some (.ref f13))) (l13 : K.lookup f13 = some ⟨oc13, od13, .func (PySem.W.fnOf "_law_list" "_law_list" (defArgs s__law_list) (defBody s__law_list) (defScope s__law_list) .none kV13 dc13 pm13 an13 cd13 ct13), sl13⟩) (c13 : PySem.W.codeIn K cd13 "_law_list" = true) (k13 : PySem.W.keepIn K (.ref f13) = true)
    (a14 : PySem.W.nsIn K mainGlobals "_law_lines" = some (some (.ref f14))) (l14 : K.lookup f14 = some ⟨oc14, od14, .func (PySem.W.fnOf "_law_lines" "_law_lines" (defArgs s__law_lines) (defBody s__law_lines) (defScope s__law_lines) .none kV14 dc14 pm14 an14 cd14 ct14), sl14⟩) (c14 : PySem.W.codeIn K cd14 "_law_lines" = true) (k14 : PySem.W.keepIn K (.ref f14) = true)
    (a15 : PySem.W.nsIn K mainGlobals "_law_signs" = some (some (.ref f15))) (l15 : K.lookup f15 = some ⟨oc15, od15, .func (PySem.W.fnOf "_law_signs" "_law_signs" (defArgs s__law_signs) (defBody s__law_signs) (defScope s__law_signs) .none kV15 dc15 pm15 an15 cd15 ct15), sl15⟩) (c15 : PySem.W.codeIn K cd15 "_law_signs" = true) (k15 : PySem.W.keepIn K (.ref f15) = true)
    (a16 : PySem.W.nsIn K mainGlobals "_law_flags_in" = some (some (.ref f16))) (l16 : K.lookup f16 = some ⟨oc16, od16, .func (PySem.W.fnOf "_law_flags_in" "_law_flags_in" (defArgs s__law_flags_in) (defBody s__law_flags_in) (defScope s__law_flags_in) .none kV16 dc16 pm16 an16 cd16 ct16), sl16⟩) (c16 : PySem.W.codeIn K cd16 "_law_flags_in" = true) (k16 : PySem.W.keepIn K (.ref f16) = true)
    (a17 : PySem.W.nsIn K mainGlobals "_law_entry" = some (some (.ref f17))) (l17 : K.lookup f17 = some ⟨oc17, od17, .func (PySem.W.fnOf "_law_entry" "_law_entry" (defArgs s__law_entry) (defBody s__law_entry) (defScope s__law_entry) .none kV17 dc17 pm17 an17 cd17 ct17), sl17⟩) (c17 : PySem.W.codeIn K cd17 "_law_entry" = true) (k17 : PySem.W.keepIn K (.ref f17) = true)
    (a18 : PySem.W.nsIn K mainGlobals "_law_reading" = some (some (.ref f18))) (l18 : K.lookup f18 = some ⟨oc18, od18, .func (PySem.W.fnOf "_law_reading" "_law_reading" (defArgs s__law_reading) (defBody s__law_reading) (defScope s__law_reading) .none kV18 dc18 pm18 an18 cd18 ct18), sl18⟩) (c18 : PySem.W.codeIn K cd18 "_law_reading" = true) (k18 : PySem.W.keepIn K (.ref f18) = true)
    (a19 : PySem.W.nsIn K mainGlobals "_law_told" = some (some (.ref f19))) (l19 : K.lookup f19 = some ⟨oc19, od19, .func (PySem.W.fnOf "_law_told" "_law_told" (defArgs s__law_told) (defBody s__law_told) (defScope s__law_told) .none kV19 dc19 pm19 an19 cd19 ct19), sl19⟩) (c19 : PySem.W.codeIn K cd19 "_law_told" = true) (k19 : PySem.W.keepIn K (.ref f19) = true)
    (a20 : PySem.W.nsIn K mainGlobals "law" = some (some (.ref f20))) (l20 : K.lookup f20 = some ⟨oc20, od20, .func (PySem.W.fnOf "law" "law" (defArgs s_law) (defBody s_law) (defScope s_law) .none kV20 dc20 pm20 an20 cd20 ct20), sl20⟩) (c20 : PySem.W.codeIn K cd20 "law" = true) (k20 : PySem.W.keepIn K (.ref f20) = true)
    (z_ValueError : PySem.W.nsIn K mainGlobals "ValueError" = some none)
    (z_abs : PySem.W.nsIn K mainGlobals "abs" = some none)
    (z_all : PySem.W.nsIn K mainGlobals "all" = some none)
    (z_bool : PySem.W.nsIn K mainGlobals "bool" = some none)
    (z_enumerate : PySem.W.nsIn K mainGlobals "enumerate" = some none)
    (z_int : PySem.W.nsIn K mainGlobals "int" = some none)
    (z_isinstance : PySem.W.nsIn K mainGlobals "isinstance" = some none)
    (z_len : PySem.W.nsIn K mainGlobals "len" = some none)
    (z_list : PySem.W.nsIn K mainGlobals "list" = some none)
    (z_min : PySem.W.nsIn K mainGlobals "min" = some none)
    (z_range : PySem.W.nsIn K mainGlobals "range" = some none)
    (z_set : PySem.W.nsIn K mainGlobals "set" = some none)
    (z_sorted : PySem.W.nsIn K mainGlobals "sorted" = some none)
    (z_str : PySem.W.nsIn K mainGlobals "str" = some none)
    (z_super : PySem.W.nsIn K mainGlobals "super" = some none)
    (z_tuple : PySem.W.nsIn K mainGlobals "tuple" = some none)
    (z_zip : PySem.W.nsIn K mainGlobals "zip" = some none)
    (q_FLAGS : PySem.W.nsIn K mainGlobals "FLAGS" = some (some (.str (Str.ofString "ABCDEFGHIJKLMNOPQRSTUVWXYZ") tk_FLAGS)))
    (q_KINDS : PySem.W.nsIn K mainGlobals "KINDS" = some (some (.ref ka_KINDS))) (u_KINDS : K.lookup ka_KINDS = some ⟨.type "tuple", none, .seq #[.str (Str.ofString "stem") kt0_KINDS, .str (Str.ofString "prefix") kt1_KINDS, .str (Str.ofString "suffix") kt2_KINDS] kn_KINDS, ks_KINDS⟩)
    (q_LETTERS : PySem.W.nsIn K mainGlobals "LETTERS" = some (some (.str (Str.ofString "abcdefghijklmnopqrstuvwxyz") tk_LETTERS)))
    (q_MOST : PySem.W.nsIn K mainGlobals "MOST" = some (some (.ref ka_MOST))) (u_MOST : K.lookup ka_MOST = some ⟨.type "tuple", none, .seq #[.int 8 kt0_MOST, .int 3 kt1_MOST, .int 6 kt2_MOST] kn_MOST, ks_MOST⟩)
    (q_MOST_FLAGS : PySem.W.nsIn K mainGlobals "MOST_FLAGS" = some (some (.int 4 tk_MOST_FLAGS)))
    (q_MOST_STEM : PySem.W.nsIn K mainGlobals "MOST_STEM" = some (some (.int 8 tk_MOST_STEM)))
    (q_MOST_TEXT : PySem.W.nsIn K mainGlobals "MOST_TEXT" = some (some (.int 6 tk_MOST_TEXT)))
    (e_C : PySem.W.nsIn K mainGlobals "InvalidText" = some (some (.ref C)))
    (e_B : PySem.W.nsIn K mainGlobals "ListError" = some (some (.ref B)))
    (e_iC : PySem.W.findIn K (.ref C) "__init__" = some (some (.ref fI)))
    (e_lk : K.lookup fI = some ⟨oci, odi, .func (PySem.W.ksFn "__init__" "InvalidText.__init__" (defArgs s_init) (defBody s_init) (defScope s_init) .none kVi doci pmi ani (.ref cda) cti cc), osli⟩)
    (e_code : PySem.W.codeIn K (.ref cda) "InvalidText.__init__" = true)
    (e_cda : K.lookup cda = some ⟨ccli, cddi, .fields vsi, ccsi⟩)
    (e_vs : vsi[2]? = some (.str filei tfi))
    (e_file : ((l.prog.main.file : Str) == filei) = true)
    (e_cc : K.lookup cc = some ⟨cli, cldi, .cell (some (.ref C)), csli⟩)
    (e_cls : PySem.W.clsIn K C = some cdC)
    (e_sub : PySem.W.mroIn K C (.ref C) = some true)
    (e_opq : PySem.W.nsIn K cStatics "thirdparty.any" = some none)
    (e_sup : PySem.W.ks_superIn K C C "__init__" = some (some (.builtin "ValueError.__init__")))
    (e_ve : PySem.W.subIn K (.ref C) (.type "ValueError") = some true)
    (e_obj : K.lookup C = some (PySem.excClassObj nmC qC C NC bsC bmC true snC subC abC colC ddC ek0 ek1 ek2 ek3 ek5 "ValueError.__new__"))
    (e_ref : PySem.HandSPX.refsVE bmC = true)
    (e_sa : PySem.W.findIn K (.ref C) "__setattr__" = some (some (.builtin "object.__setattr__")))
    (e_exC : PySem.W.subIn K (.ref C) (.type "BaseException") = some true)
    (e_tyC : PySem.W.typeIn K (.ref C) = some (.type "type"))
    (e_kC : PySem.W.keepIn K (.ref C) = true)
    (e_fld : PySem.W.findIn K (.ref C) "line" = some none)
    (e_ini : PySem.W.excInitIn K C [.type "ValueError", .type "Exception", .type "BaseException", .type "object"] "ValueError.__new__" = true)
    (e_tI : PySem.W.typeIn K (.ref fI) = some (.type "function"))
    (e_hga : PySem.W.findIn K (.ref C) "__getattribute__" = some (some (.builtin "BaseException.__getattribute__")))
    (e_hgt : PySem.W.findIn K (.ref C) "__getattr__" = some none)
    (e_ha : PySem.W.findIn K (.ref C) "__class__" = some (some (.builtin "object.__class__")))
    (e_hn : PySem.W.specialIn K (.builtin "object.__class__") "__get__" = some (some (.builtin "getset_descriptor.__get__")))
    (e_htk : PySem.W.takesIn K (.builtin "object.__class__") = some true)
    (e_hm : PySem.W.mroIn K C (.type "object") = some true)
    (e_hd : PySem.W.hasDictIn K C = true)
    (e_self : PySem.W.subIn K (.ref C) (.ref C) = some true)
    (e_isB : PySem.W.kitOne K (.ref C) (.ref B) = some true)
    (e_isV : PySem.W.kitOne K (.ref C) (.type "ValueError") = some true)
    (e_top : (l.prog.main.scope.names.lookup ("super" : Str)).isSome = false) :
    ∃ fd : FuncData, (∀ (s : Shared) (v : Value), BindsTo s fd ⟨[v], []⟩ [("script", v)]) ∧ ∀ base : Heap, K.In base → base.Ns mainGlobals mg → FnOk l.prog w K mg base CX0 6 fa fd ["script"] (liftSp K spLaw) := by
  have e := hfa.symm.trans (PySem.W.mg_of X G a20)
  cases e
  have F0 := fun_mk (st := s_is_letters) l0 c0 k0
  have b0 := F0.binds (ps := ["value", "least", "most"]) fun _ _ _ _ _ _ us hl => match us, hl with | [_, _, _], _ => rfl
  have F1 := fun_mk (st := s_is_flag) l1 c1 k1
  have b1 := F1.binds (ps := ["value"]) fun _ _ _ _ _ _ us hl => match us, hl with | [_], _ => rfl
  have F2 := fun_mk (st := s_are_flags) l2 c2 k2
  have b2 := F2.binds (ps := ["value"]) fun _ _ _ _ _ _ us hl => match us, hl with | [_], _ => rfl
  have F3 := fun_mk (st := s_is_stem) l3 c3 k3
  have b3 := F3.binds (ps := ["value"]) fun _ _ _ _ _ _ us hl => match us, hl with | [_], _ => rfl
  have F4 := fun_mk (st := s_is_prefix) l4 c4 k4
  have b4 := F4.binds (ps := ["value"]) fun _ _ _ _ _ _ us hl => match us, hl with | [_], _ => rfl
  have F5 := fun_mk (st := s_is_suffix) l5 c5 k5
  have b5 := F5.binds (ps := ["value"]) fun _ _ _ _ _ _ us hl => match us, hl with | [_], _ => rfl
  have F6 := fun_mk (st := s_entry_in) l6 c6 k6
  have b6 := F6.binds (ps := ["line"]) fun _ _ _ _ _ _ us hl => match us, hl with | [_], _ => rfl
  have F7 := fun_mk (st := s_read_list) l7 c7 k7
  have b7 := F7.binds (ps := ["text"]) fun _ _ _ _ _ _ us hl => match us, hl with | [_], _ => rfl
  have F8 := fun_mk (st := s__law_source) l8 c8 k8
  have b8 := F8.binds (ps := ["script", "index"]) fun _ _ _ _ _ _ us hl => match us, hl with | [_, _], _ => rfl
  have F9 := fun_mk (st := s__law_draw) l9 c9 k9
  have b9 := F9.binds (ps := ["source", "size"]) fun _ _ _ _ _ _ us hl => match us, hl with | [_, _], _ => rfl
  have F10 := fun_mk (st := s__law_choice) l10 c10 k10
  have b10 := F10.binds (ps := ["source", "items"]) fun _ _ _ _ _ _ us hl => match us, hl with | [_, _], _ => rfl
  have F11 := fun_mk (st := s__law_some_letters) l11 c11 k11
  have b11 := F11.binds (ps := ["source", "least", "most"]) fun _ _ _ _ _ _ us hl => match us, hl with | [_, _, _], _ => rfl
  have F12 := fun_mk (st := s__law_some_flags) l12 c12 k12
  have b12 := F12.binds (ps := ["source", "most"]) fun _ _ _ _ _ _ us hl => match us, hl with | [_, _], _ => rfl
  have F13 := fun_mk (st := s__law_list) l13 c13 k13
  have b13 := F13.binds (ps := ["source", "grows"]) fun _ _ _ _ _ _ us hl => match us, hl with | [_, _], _ => rfl
  have F14 := fun_mk (st := s__law_lines) l14 c14 k14
  have b14 := F14.binds (ps := ["lists"]) fun _ _ _ _ _ _ us hl => match us, hl with | [_], _ => rfl
  have F15 := fun_mk (st := s__law_signs) l15 c15 k15
  have b15 := F15.binds (ps := ["word", "least", "most", "signs"]) fun _ _ _ _ _ _ us hl => match us, hl with | [_, _, _, _], _ => rfl
  have F16 := fun_mk (st := s__law_flags_in) l16 c16 k16
  have b16 := F16.binds (ps := ["word"]) fun _ _ _ _ _ _ us hl => match us, hl with | [_], _ => rfl
  have F17 := fun_mk (st := s__law_entry) l17 c17 k17
  have b17 := F17.binds (ps := ["line"]) fun _ _ _ _ _ _ us hl => match us, hl with | [_], _ => rfl
  have F18 := fun_mk (st := s__law_reading) l18 c18 k18
  have b18 := F18.binds (ps := ["text"]) fun _ _ _ _ _ _ us hl => match us, hl with | [_], _ => rfl
  have F19 := fun_mk (st := s__law_told) l19 c19 k19
  have b19 := F19.binds (ps := ["value"]) fun _ _ _ _ _ _ us hl => match us, hl with | [_], _ => rfl
  have F20 := fun_mk (st := s_law) l20 c20 k20
  have b20 := F20.binds (ps := ["script"]) fun _ _ _ _ _ _ us hl => match us, hl with | [_], _ => rfl
  have ini : IniC l.prog K C fI cda cc "__init__" "InvalidText.__init__" s_init _ := ⟨⟨_, _, _, _, _, _, _, _, rfl, e_lk⟩, e_code, ⟨_, _, _, _, _, _, e_cda, e_vs, e_file⟩, ⟨_, _, _, e_cc⟩, ⟨_, e_cls⟩, e_sub, e_opq, e_sup, e_ve, ⟨⟨_, _, _, _, _, _, _, _, _, _, _, _, _, _, _, e_obj, e_ref⟩, e_sa, e_exC, e_tyC, e_kC⟩, e_fld, e_ini⟩
  have tel : TelC K C B := ⟨by rw [e_cls]; rfl, e_hga, e_hgt, e_exC, e_ha, e_hn, e_htk, e_hm, e_hd, e_tyC, e_self, e_isB, e_isV, e_fld⟩
  let T : Txt l.prog K mg := ⟨C, B, fI, _, cda, cc, ini, tel, e_iC, e_tI, (Binds.all fun us hl => match us, hl with | [_, _], _ => rfl), PySem.W.mg_of X G e_C, PySem.W.mg_of X G e_B, e_top, _, _, F0, b0, PySem.W.mg_of X G a0, _, _, F1, b1, PySem.W.mg_of X G a1, _, _, F2, b2, PySem.W.mg_of X G a2, _, _, F3, b3, PySem.W.mg_of X G a3, _, _, F4, b4, PySem.W.mg_of X G a4, _, _, F5, b5, PySem.W.mg_of X G a5, _, _, F6, b6, PySem.W.mg_of X G a6, _, _, F7, b7, PySem.W.mg_of X G a7, _, _, F8, b8, PySem.W.mg_of X G a8, _, _, F9, b9, PySem.W.mg_of X G a9, _, _, F10, b10, PySem.W.mg_of X G a10, _, _, F11, b11, PySem.W.mg_of X G a11, _, _, F12, b12, PySem.W.mg_of X G a12, _, _, F13, b13, PySem.W.mg_of X G a13, _, _, F14, b14, PySem.W.mg_of X G a14, _, _, F15, b15, PySem.W.mg_of X G a15, _, _, F16, b16, PySem.W.mg_of X G a16, _, _, F17, b17, PySem.W.mg_of X G a17, _, _, F18, b18, PySem.W.mg_of X G a18, _, _, F19, b19, PySem.W.mg_of X G a19, _, _, F20, b20, PySem.W.mg_of X G a20, PySem.W.mg_none_of X G z_ValueError, PySem.W.mg_none_of X G z_abs, PySem.W.mg_none_of X G z_all, PySem.W.mg_none_of X G z_bool, PySem.W.mg_none_of X G z_enumerate, PySem.W.mg_none_of X G z_int, PySem.W.mg_none_of X G z_isinstance, PySem.W.mg_none_of X G z_len, PySem.W.mg_none_of X G z_list, PySem.W.mg_none_of X G z_min, PySem.W.mg_none_of X G z_range, PySem.W.mg_none_of X G z_set, PySem.W.mg_none_of X G z_sorted, PySem.W.mg_none_of X G z_str, PySem.W.mg_none_of X G z_super, PySem.W.mg_none_of X G z_tuple, PySem.W.mg_none_of X G z_zip, ⟨_, PySem.W.mg_of X G q_FLAGS⟩, ⟨_, _, _, _, [.str (Str.ofString "stem"), .str (Str.ofString "prefix"), .str (Str.ofString "suffix")], PySem.W.mg_of X G q_KINDS, u_KINDS, ⟨rfl, rfl⟩, rfl, (by show 3 ≤ sizeLine; decide), (.cons ⟨_, rfl⟩ (.cons ⟨_, rfl⟩ (.cons ⟨_, rfl⟩ .nil))), fun _ _ => (.cons ⟨by rw [show Str.ofString "stem" = sx [115, 116, 101, 109] by decide +kernel], by decide⟩ (.cons ⟨by rw [show Str.ofString "prefix" = sx [112, 114, 101, 102, 105, 120] by decide +kernel], by decide⟩ (.cons ⟨by rw [show Str.ofString "suffix" = sx [115, 117, 102, 102, 105, 120] by decide +kernel], by decide⟩ .nil)))⟩, ⟨_, PySem.W.mg_of X G q_LETTERS⟩, ⟨_, _, _, _, [.int 8, .int 3, .int 6], PySem.W.mg_of X G q_MOST, u_MOST, ⟨rfl, rfl⟩, rfl, (by show 3 ≤ sizeLine; decide), (.cons ⟨_, rfl⟩ (.cons ⟨_, rfl⟩ (.cons ⟨_, rfl⟩ .nil))), fun _ _ => (.cons rfl (.cons rfl (.cons rfl .nil)))⟩, ⟨_, PySem.W.mg_of X G q_MOST_FLAGS⟩, ⟨_, PySem.W.mg_of X G q_MOST_STEM⟩, ⟨_, PySem.W.mg_of X G q_MOST_TEXT⟩⟩
  exact ⟨PySem.W.fnOf "law" "law" (defArgs s_law) (defBody s_law) (defScope s_law) .none kV20 dc20 pm20 an20 cd20 ct20, fun s v => .of_eq rfl, fun base _ _ => ok_law T⟩
end Law
end DL
open PySem PySem.W PyProof.Rows
set_option maxHeartbeats 0 in
theorem PySem.Challenge.cw_stemflags_k20_texts_that_are_not_of_list_holds : PySem.Challenge.rw_stemflags_k20_texts_that_are_not_of_list.Holds := by
  w_on; o_law; k_head; (case hw => w_witness2)
  k_fill
  refine L2.walk_of (l := PySem.Challenge.rw_stemflags_k20_texts_that_are_not_of_list) (n := 63) (k := 6) (x := "script") (CX := fun _ => L2.CX0) (sp := fun w => DL.liftSp _ DL.spLaw) rfl (by decide) rfl ⟨rfl, by decide, by decide⟩ (fun w h Y => PySem.W.kIn_of Y) ?F (fun _ H a ns hl ho hS => DL.law_start hl ho hS) (fun _ _ _ _ _ h => h)
  case F =>
    intro w mg fa h KX G hmg
    refine' DL.Law.all_mk KX G hmg ?a0 ?l0 ?c0 ?k0 ?a1 ?l1 ?c1 ?k1 ?a2 ?l2 ?c2 ?k2 ?a3 ?l3 ?c3 ?k3 ?a4 ?l4 ?c4 ?k4 ?a5 ?l5 ?c5 ?k5 ?a6 ?l6 ?c6 ?k6 ?a7 ?l7 ?c7 ?k7 ?a8 ?l8 ?c8 ?k8 ?a9 ?l9 ?c9 ?k9 ?a10 ?l10 ?c10 ?k10 ?a11 ?l11 ?c11 ?k11 ?a12 ?l12 ?c12 ?k12 ?a13 ?l13 ?c13 ?k13 ?a14 ?l14 ?c14 ?k14 ?a15 ?l15 ?c15 ?k15 ?a16 ?l16 ?c16 ?k16 ?a17 ?l17 ?c17 ?k17 ?a18 ?l18 ?c18 ?k18 ?a19 ?l19 ?c19 ?k19 ?a20 ?l20 ?c20 ?k20 ?z_ValueError ?z_abs ?z_all ?z_bool ?z_enumerate ?z_int ?z_isinstance ?z_len ?z_list ?z_min ?z_range ?z_set ?z_sorted ?z_str ?z_super ?z_tuple ?z_zip ?q_FLAGS ?q_KINDS ?u_KINDS ?q_LETTERS ?q_MOST ?u_MOST ?q_MOST_FLAGS ?q_MOST_STEM ?q_MOST_TEXT ?e_C ?e_B ?e_iC ?e_lk ?e_code ?e_cda ?e_vs ?e_file ?e_cc ?e_cls ?e_sub ?e_opq ?e_sup ?e_ve ?e_obj ?e_ref ?e_sa ?e_exC ?e_tyC ?e_kC ?e_fld ?e_ini ?e_tI ?e_hga ?e_hgt ?e_ha ?e_hn ?e_htk ?e_hm ?e_hd ?e_self ?e_isB ?e_isV ?e_top
    (case a0 => k_is); (case l0 => k_is); (case c0 => k_is); (case k0 => k_is); (case a1 => k_is); (case l1 => k_is); (case c1 => k_is); (case k1 => k_is); (case a2 => k_is); (case l2 => k_is); (case c2 => k_is); (case k2 => k_is); (case a3 => k_is); (case l3 => k_is); (case c3 => k_is); (case k3 => k_is); (case a4 => k_is); (case l4 => k_is); (case c4 => k_is); (case k4 => k_is); (case a5 => k_is); (case l5 => k_is); (case c5 => k_is); (case k5 => k_is); (case a6 => k_is); (case l6 => k_is); (case c6 => k_is); (case k6 => k_is); (case a7 => k_is); (case l7 => k_is); (case c7 => k_is); (case k7 => k_is); (case a8 => k_is); (case l8 => k_is); (case c8 => k_is); (case k8 => k_is); (case a9 => k_is); (case l9 => k_is); (case c9 => k_is); (case k9 => k_is); (case a10 => k_is); (case l10 => k_is); (case c10 => k_is); (case k10 => k_is); (case a11 => k_is); (case l11 => k_is); (case c11 => k_is); (case k11 => k_is); (case a12 => k_is); (case l12 => k_is); (case c12 => k_is); (case k12 => k_is); (case a13 => k_is); (case l13 => k_is); (case c13 => k_is); (case k13 => k_is); (case a14 => k_is); (case l14 => k_is); (case c14 => k_is); (case k14 => k_is); (case a15 => k_is); (case l15 => k_is); (case c15 => k_is); (case k15 => k_is); (case a16 => k_is); (case l16 => k_is); (case c16 => k_is); (case k16 => k_is); (case a17 => k_is); (case l17 => k_is); (case c17 => k_is); (case k17 => k_is); (case a18 => k_is); (case l18 => k_is); (case c18 => k_is); (case k18 => k_is); (case a19 => k_is); (case l19 => k_is); (case c19 => k_is); (case k19 => k_is); (case a20 => k_is); (case l20 => k_is); (case c20 => k_is); (case k20 => k_is); (case z_ValueError => k_is); (case z_abs => k_is); (case z_all => k_is); (case z_bool => k_is); (case z_enumerate => k_is); (case z_int => k_is); (case z_isinstance => k_is); (case z_len => k_is); (case z_list => k_is); (case z_min => k_is); (case z_range => k_is); (case z_set => k_is); (case z_sorted => k_is); (case z_str => k_is); (case z_super => k_is); (case z_tuple => k_is); (case z_zip => k_is); (case q_FLAGS => k_is); (case q_KINDS => k_is); (case u_KINDS => k_is); (case q_LETTERS => k_is); (case q_MOST => k_is); (case u_MOST => k_is); (case q_MOST_FLAGS => k_is); (case q_MOST_STEM => k_is); (case q_MOST_TEXT => k_is); (case e_C => k_is); (case e_B => k_is); (case e_iC => k_is); (case e_lk => k_is); (case e_code => k_is); (case e_cda => k_is); (case e_vs => rfl); (case e_file => rfl); (case e_cc => k_is); (case e_cls => k_is); (case e_sub => k_is); (case e_opq => k_is); (case e_sup => ks_is); (case e_ve => k_is); (case e_obj => k_is); (case e_ref => rfl); (case e_sa => k_is); (case e_exC => k_is); (case e_tyC => k_is); (case e_kC => k_is); (case e_fld => k_is); (case e_ini => kx_is); (case e_tI => k_is); (case e_hga => k_is); (case e_hgt => k_is); (case e_ha => k_is); (case e_hn => k_is); (case e_htk => k_is); (case e_hm => k_is); (case e_hd => k_is); (case e_self => k_is); (case e_isB => kit_is); (case e_isV => kit_is); (case e_top => rfl)

