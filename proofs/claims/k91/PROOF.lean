import PyProof.Rows.All
import Wide.All
import OpenK.AllK
import Wide.FinOn
import HandS.ForMost
import HandS.ForExc
import HandS.TupAny
import HandS.TupMul
import HandS.TupLe
import HandS.Deep
import HandS.Wide
import HandS.Style
import HandS.TupLen
import HandS.SetFor
import KE.KTupSum
import HandS.Zip
import HandS.TryOnly
import HandS.WideMore
import KE.SortData
import KE.OsSortAny
import HandS.IsInst
import PySem.Challenge.RW_tablework_k91_whole_symmetry_classes
set_option Elab.async false
set_option linter.all false
set_option maxRecDepth 100000
set_option maxHeartbeats 4000000
namespace Zv
open PySem PySem.Spec PyProof.Rows L2

/-! ## the written texts, by their numbers -/
def strTabL : List String := ["None", "False", "True", "another", "what", "size", "paths", "square", "plane partitions", "matrices", "signs", "triangle", "shape", "tilings", "inner", "parts", "entries", "rows", "columns", "lattice", "rank", "reverse", "filling", "rectangle", "length", "string", "0", "1", "matrix", "many", "permutation", "grassmannian", "code", "items", "words", "dreams", "letters", "reduced", "pair", "word", "tableau", "partitions", "hive"]
def strTab (n : Nat) : Str := Str.ofString (strTabL.getD n "")
/-! ## values by value -/
inductive SK where | tup | lst | ols | dic | odc | dit | odt | ldc | ldt
inductive Atm where | un | non | bl (b : Bool) | str (n : Nat) | dk
inductive D where | int (i : Int) | atm (a : Atm) | seq (k : SK) (xs : List D)
@[reducible] def D.un : D := .atm .un
@[reducible] def D.non : D := .atm .non
@[reducible] def D.bl (b : Bool) : D := .atm (.bl b)
@[reducible] def D.str (n : Nat) : D := .atm (.str n)
@[reducible] def D.dk : D := .atm .dk
@[reducible] def D.tup (xs : List D) : D := .seq .tup xs
@[reducible] def D.lst (xs : List D) : D := .seq .lst xs
@[reducible] def D.ols (xs : List D) : D := .seq .ols xs
@[reducible] def D.dic (xs : List D) : D := .seq .dic xs
@[reducible] def D.odc (xs : List D) : D := .seq .odc xs
@[reducible] def D.dit (xs : List D) : D := .seq .dit xs
@[reducible] def D.odt (xs : List D) : D := .seq .odt xs

/-- keys of dicts -/
def atKey : D → Option Key
  | .int i => some (.inl i)
  | _ => none
def atKeys : List D → Option (List Key)
  | [] => some []
  | d :: ds => match atKey d, atKeys ds with
    | some k, some ks => some (k :: ks)
    | _, _ => none

def TupAt (K : PySem.W.Frag) (dk : Addr) (H : Hp) (a : Addr) (vs : List V) : Prop := a ≠ dk ∧ H a = some (.tup vs)

mutual
inductive Rep (K : PySem.W.Frag) (dk : Addr) (H : Hp) (Z : Addr → Prop) : D → V → List Addr → Prop
  | int (i : Int) : Rep K dk H Z (.int i) (.int i) []
  | non : Rep K dk H Z .non .non []
  | bl (b : Bool) : Rep K dk H Z (.bl b) (.bl b) []
  | str (n : Nat) : Rep K dk H Z (.str n) (.str (strTab n)) []
  | dk : Rep K dk H Z .dk (.ref dk) []
  | tup {a : Addr} {vs : List V} {ds : List D} : TupAt K dk H a vs → Reps K dk H Z ds vs [] → Rep K dk H Z (.tup ds) (.ref a) []
  | lst {a : Addr} {vs : List V} {ds : List D} : Z a → a ≠ dk → H a = some (.lst vs) → Reps K dk H Z ds vs [] → Rep K dk H Z (.lst ds) (.ref a) []
  | ols {a : Addr} {vs : List V} {ds : List D} {A : List Addr} : a ≠ dk → H a = some (.lst vs) → Reps K dk H Z ds vs A → Rep K dk H Z (.ols ds) (.ref a) (a :: A)
  | dicK {a : Addr} {kvs : List (Key × V)} {ds : List D} : Z a → a ≠ dk → Rd H a (.dK kvs) → EntK K dk H Z ds kvs [] → Rep K dk H Z (.dic ds) (.ref a) []
  | odcK {a : Addr} {kvs : List (Key × V)} {ds : List D} {A : List Addr} : a ≠ dk → H a = some (.dK kvs) → EntK K dk H Z ds kvs A → Rep K dk H Z (.odc ds) (.ref a) (a :: A)
  | dicT {a : Addr} {kvs : List (List Key × V)} {ds : List D} : Z a → a ≠ dk → Rd H a (.dT kvs) → EntT K dk H Z ds kvs [] → Rep K dk H Z (.dit ds) (.ref a) []
  | odcT {a : Addr} {kvs : List (List Key × V)} {ds : List D} {A : List Addr} : a ≠ dk → H a = some (.dT kvs) → EntT K dk H Z ds kvs A → Rep K dk H Z (.odt ds) (.ref a) (a :: A)
  | ldcK {a : Addr} {o : Obj} {kvs : List (Key × V)} {ds : List D} : Z a → a ≠ dk → H a = some (.frz o (.dK kvs)) → EntK K dk H Z ds kvs [] → Rep K dk H Z (.seq .ldc ds) (.ref a) []
  | ldcT {a : Addr} {o : Obj} {kvs : List (List Key × V)} {ds : List D} : Z a → a ≠ dk → H a = some (.frz o (.dT kvs)) → EntT K dk H Z ds kvs [] → Rep K dk H Z (.seq .ldt ds) (.ref a) []
inductive Reps (K : PySem.W.Frag) (dk : Addr) (H : Hp) (Z : Addr → Prop) : List D → List V → List Addr → Prop
  | nil : Reps K dk H Z [] [] []
  | cons {d : D} {v : V} {ds : List D} {vs : List V} {A B : List Addr} : Rep K dk H Z d v A → Reps K dk H Z ds vs B → Reps K dk H Z (d :: ds) (v :: vs) (A ++ B)
inductive EntK (K : PySem.W.Frag) (dk : Addr) (H : Hp) (Z : Addr → Prop) : List D → List (Key × V) → List Addr → Prop
  | nil : EntK K dk H Z [] [] []
  | cons {k d : D} {q : Key} {v : V} {ds : List D} {vs : List (Key × V)} {A B : List Addr} : atKey k = some q → Rep K dk H Z d v A → EntK K dk H Z ds vs B → EntK K dk H Z (.tup [k, d] :: ds) ((q, v) :: vs) (A ++ B)
inductive EntT (K : PySem.W.Frag) (dk : Addr) (H : Hp) (Z : Addr → Prop) : List D → List (List Key × V) → List Addr → Prop
  | nil : EntT K dk H Z [] [] []
  | cons {k : List D} {d : D} {q : List Key} {v : V} {ds : List D} {vs : List (List Key × V)} {A B : List Addr} : atKeys k = some q → Rep K dk H Z d v A → EntT K dk H Z ds vs B → EntT K dk H Z (.tup [.tup k, d] :: ds) ((q, v) :: vs) (A ++ B)
end

section
variable {K : PySem.W.Frag} {dk : Addr} {H H' H'' : Hp} {Z Z' Z'' : Addr → Prop}
def SameD (dk : Addr) (H H' : Hp) : Prop := ∀ b o, b ≠ dk → H b = some o → H' b = some o
theorem SameD.refl (H : Hp) : SameD dk H H := fun _ _ _ h => h
theorem SameD.trans (a : SameD dk H H') (b : SameD dk H' H'') : SameD dk H H'' := fun c o n h => b c o n (a c o n h)
theorem rd_same {a : Addr} {u : HO} (s : SameD dk H H') (n : a ≠ dk) (h : Rd H a u) : Rd H' a u := by
  rcases h with h | ⟨o, h⟩
  · exact .inl (s _ _ n h)
  · exact .inr ⟨o, s _ _ n h⟩
theorem rd_off {B : List Addr} {a : Addr} {u : HO} (s : ∀ b o, b ≠ dk → b ∉ B → H b = some o → H' b = some o) (n : a ≠ dk) (m : a ∉ B) (h : Rd H a u) : Rd H' a u := by
  rcases h with h | ⟨o, h⟩
  · exact .inl (s _ _ n m h)
  · exact .inr ⟨o, s _ _ n m h⟩
theorem rd_there {a : Addr} {u : HO} (h : Rd H a u) : H a ≠ none := by
  rcases h with h | ⟨o, h⟩ <;> (rw [h]; exact fun z => nomatch z)
theorem TupAt.mono {a : Addr} {vs : List V} (s : SameD dk H H') (h : TupAt K dk H a vs) : TupAt K dk H' a vs := ⟨h.1, s _ _ h.1 h.2⟩
theorem TupAt.sq {a : Addr} {vs : List V} (h : TupAt K dk H a vs) : SqT K H a vs := .inl (.inl h.2)

mutual
theorem Rep.mono (s : SameD dk H H') (z : ∀ a, Z a → Z' a) : ∀ {d : D} {v : V} {A : List Addr}, Rep K dk H Z d v A → Rep K dk H' Z' d v A
  | _, _, _, .int i => .int i
  | _, _, _, .non => .non
  | _, _, _, .bl b => .bl b
  | _, _, _, .str x => .str x
  | _, _, _, .dk => .dk
  | _, _, _, .tup t r => .tup (t.mono s) (r.mono s z)
  | _, _, _, .lst a n e r => .lst (z _ a) n (s _ _ n e) (r.mono s z)
  | _, _, _, .ols n e r => .ols n (s _ _ n e) (r.mono s z)
  | _, _, _, .dicK a n e r => .dicK (z _ a) n (rd_same s n e) (r.mono s z)
  | _, _, _, .odcK n e r => .odcK n (s _ _ n e) (r.mono s z)
  | _, _, _, .dicT a n e r => .dicT (z _ a) n (rd_same s n e) (r.mono s z)
  | _, _, _, .odcT n e r => .odcT n (s _ _ n e) (r.mono s z)
  | _, _, _, .ldcK a n e r => .ldcK (z _ a) n (s _ _ n e) (r.mono s z)
  | _, _, _, .ldcT a n e r => .ldcT (z _ a) n (s _ _ n e) (r.mono s z)
theorem Reps.mono (s : SameD dk H H') (z : ∀ a, Z a → Z' a) : ∀ {d : List D} {v : List V} {A : List Addr}, Reps K dk H Z d v A → Reps K dk H' Z' d v A
  | _, _, _, .nil => .nil
  | _, _, _, .cons a r => .cons (a.mono s z) (r.mono s z)
theorem EntK.mono (s : SameD dk H H') (z : ∀ a, Z a → Z' a) : ∀ {d : List D} {v : List (Key × V)} {A : List Addr}, EntK K dk H Z d v A → EntK K dk H' Z' d v A
  | _, _, _, .nil => .nil
  | _, _, _, .cons k a r => .cons k (a.mono s z) (r.mono s z)
theorem EntT.mono (s : SameD dk H H') (z : ∀ a, Z a → Z' a) : ∀ {d : List D} {v : List (List Key × V)} {A : List Addr}, EntT K dk H Z d v A → EntT K dk H' Z' d v A
  | _, _, _, .nil => .nil
  | _, _, _, .cons k a r => .cons k (a.mono s z) (r.mono s z)
end

/- the heap off the addresses B is kept: for what owns none of them and has none of them frozen -/
mutual
theorem Rep.off {B : List Addr} (s : ∀ b o, b ≠ dk → b ∉ B → H b = some o → H' b = some o) (nt : ∀ b vs, b ∈ B → H b ≠ some (.tup vs)) (z : ∀ a, Z a → a ∉ B) : ∀ {d : D} {v : V} {A : List Addr}, Rep K dk H Z d v A → (∀ a ∈ A, a ∉ B) → Rep K dk H' Z d v A
  | _, _, _, .int i, _ => .int i
  | _, _, _, .non, _ => .non
  | _, _, _, .bl b, _ => .bl b
  | _, _, _, .str x, _ => .str x
  | _, _, _, .dk, _ => .dk
  | _, _, _, .tup t r, h => .tup (by
      obtain ⟨n, t⟩ := t
      exact ⟨n, s _ _ n (fun m => nt _ _ m t) t⟩) (r.off s nt z h)
  | _, _, _, .lst a n e r, h => .lst a n (s _ _ n (z _ a) e) (r.off s nt z h)
  | _, _, _, .ols n e r, h => .ols n (s _ _ n (h _ List.mem_cons_self) e) (r.off s nt z fun a m => h a (List.mem_cons_of_mem _ m))
  | _, _, _, .dicK a n e r, h => .dicK a n (rd_off s n (z _ a) e) (r.off s nt z h)
  | _, _, _, .odcK n e r, h => .odcK n (s _ _ n (h _ List.mem_cons_self) e) (r.off s nt z fun a m => h a (List.mem_cons_of_mem _ m))
  | _, _, _, .dicT a n e r, h => .dicT a n (rd_off s n (z _ a) e) (r.off s nt z h)
  | _, _, _, .odcT n e r, h => .odcT n (s _ _ n (h _ List.mem_cons_self) e) (r.off s nt z fun a m => h a (List.mem_cons_of_mem _ m))
  | _, _, _, .ldcK a n e r, h => .ldcK a n (s _ _ n (z _ a) e) (r.off s nt z h)
  | _, _, _, .ldcT a n e r, h => .ldcT a n (s _ _ n (z _ a) e) (r.off s nt z h)
theorem Reps.off {B : List Addr} (s : ∀ b o, b ≠ dk → b ∉ B → H b = some o → H' b = some o) (nt : ∀ b vs, b ∈ B → H b ≠ some (.tup vs)) (z : ∀ a, Z a → a ∉ B) : ∀ {d : List D} {v : List V} {A : List Addr}, Reps K dk H Z d v A → (∀ a ∈ A, a ∉ B) → Reps K dk H' Z d v A
  | _, _, _, .nil, _ => .nil
  | _, _, _, .cons a r, h => .cons (a.off s nt z fun x m => h x (List.mem_append_left _ m)) (r.off s nt z fun x m => h x (List.mem_append_right _ m))
theorem EntK.off {B : List Addr} (s : ∀ b o, b ≠ dk → b ∉ B → H b = some o → H' b = some o) (nt : ∀ b vs, b ∈ B → H b ≠ some (.tup vs)) (z : ∀ a, Z a → a ∉ B) : ∀ {d : List D} {v : List (Key × V)} {A : List Addr}, EntK K dk H Z d v A → (∀ a ∈ A, a ∉ B) → EntK K dk H' Z d v A
  | _, _, _, .nil, _ => .nil
  | _, _, _, .cons k a r, h => .cons k (a.off s nt z fun x m => h x (List.mem_append_left _ m)) (r.off s nt z fun x m => h x (List.mem_append_right _ m))
theorem EntT.off {B : List Addr} (s : ∀ b o, b ≠ dk → b ∉ B → H b = some o → H' b = some o) (nt : ∀ b vs, b ∈ B → H b ≠ some (.tup vs)) (z : ∀ a, Z a → a ∉ B) : ∀ {d : List D} {v : List (List Key × V)} {A : List Addr}, EntT K dk H Z d v A → (∀ a ∈ A, a ∉ B) → EntT K dk H' Z d v A
  | _, _, _, .nil, _ => .nil
  | _, _, _, .cons k a r, h => .cons k (a.off s nt z fun x m => h x (List.mem_append_left _ m)) (r.off s nt z fun x m => h x (List.mem_append_right _ m))
end

/-- what is shared stays while the frozen things and the tuples stay -/
structure Keep (dk : Addr) (H : Hp) (Z B : Addr → Prop) (H' : Hp) (Z' : Addr → Prop) : Prop where
  z : ∀ a, Z a → Z' a
  keep : ∀ a o, (Z a ∨ B a) → a ≠ dk → H a = some o → H' a = some o
  tups : ∀ a vs, a ≠ dk → H a = some (.tup vs) → H' a = some (.tup vs)
  on : ∀ a, Z' a → a ≠ dk ∧ H' a ≠ none
theorem rd_keep {B : Addr → Prop} {a : Addr} {u : HO} (k : Keep dk H Z B H' Z') (m : Z a ∨ B a) (n : a ≠ dk) (h : Rd H a u) : Rd H' a u := by
  rcases h with h | ⟨o, h⟩
  · exact .inl (k.keep _ _ m n h)
  · exact .inr ⟨o, k.keep _ _ m n h⟩
mutual
theorem Rep.keep {B : Addr → Prop} (k : Keep dk H Z B H' Z') : ∀ {d : D} {v : V} {A : List Addr}, Rep K dk H Z d v A → (∀ a ∈ A, B a) → Rep K dk H' Z' d v A
  | _, _, _, .int i, _ => .int i
  | _, _, _, .non, _ => .non
  | _, _, _, .bl b, _ => .bl b
  | _, _, _, .str x, _ => .str x
  | _, _, _, .dk, _ => .dk
  | _, _, _, .tup t r, h => .tup ⟨t.1, k.tups _ _ t.1 t.2⟩ (r.keep k h)
  | _, _, _, .lst a n e r, h => .lst (k.z _ a) n (k.keep _ _ (.inl a) n e) (r.keep k h)
  | _, _, _, .ols n e r, h => .ols n (k.keep _ _ (.inr (h _ List.mem_cons_self)) n e) (r.keep k fun a m => h a (List.mem_cons_of_mem _ m))
  | _, _, _, .dicK a n e r, h => .dicK (k.z _ a) n (rd_keep k (.inl a) n e) (r.keep k h)
  | _, _, _, .odcK n e r, h => .odcK n (k.keep _ _ (.inr (h _ List.mem_cons_self)) n e) (r.keep k fun a m => h a (List.mem_cons_of_mem _ m))
  | _, _, _, .dicT a n e r, h => .dicT (k.z _ a) n (rd_keep k (.inl a) n e) (r.keep k h)
  | _, _, _, .odcT n e r, h => .odcT n (k.keep _ _ (.inr (h _ List.mem_cons_self)) n e) (r.keep k fun a m => h a (List.mem_cons_of_mem _ m))
  | _, _, _, .ldcK a n e r, h => .ldcK (k.z _ a) n (k.keep _ _ (.inl a) n e) (r.keep k h)
  | _, _, _, .ldcT a n e r, h => .ldcT (k.z _ a) n (k.keep _ _ (.inl a) n e) (r.keep k h)
theorem Reps.keep {B : Addr → Prop} (k : Keep dk H Z B H' Z') : ∀ {d : List D} {v : List V} {A : List Addr}, Reps K dk H Z d v A → (∀ a ∈ A, B a) → Reps K dk H' Z' d v A
  | _, _, _, .nil, _ => .nil
  | _, _, _, .cons a r, h => .cons (a.keep k fun x m => h x (List.mem_append_left _ m)) (r.keep k fun x m => h x (List.mem_append_right _ m))
theorem EntK.keep {B : Addr → Prop} (k : Keep dk H Z B H' Z') : ∀ {d : List D} {v : List (Key × V)} {A : List Addr}, EntK K dk H Z d v A → (∀ a ∈ A, B a) → EntK K dk H' Z' d v A
  | _, _, _, .nil, _ => .nil
  | _, _, _, .cons e a r, h => .cons e (a.keep k fun x m => h x (List.mem_append_left _ m)) (r.keep k fun x m => h x (List.mem_append_right _ m))
theorem EntT.keep {B : Addr → Prop} (k : Keep dk H Z B H' Z') : ∀ {d : List D} {v : List (List Key × V)} {A : List Addr}, EntT K dk H Z d v A → (∀ a ∈ A, B a) → EntT K dk H' Z' d v A
  | _, _, _, .nil, _ => .nil
  | _, _, _, .cons e a r, h => .cons e (a.keep k fun x m => h x (List.mem_append_left _ m)) (r.keep k fun x m => h x (List.mem_append_right _ m))
end

theorem Reps.len : ∀ {ds : List D} {vs : List V} {A : List Addr}, Reps K dk H Z ds vs A → ds.length = vs.length
  | _, _, _, .nil => rfl
  | _, _, _, .cons _ r => by simp [r.len]
theorem Reps.append : ∀ {ds es : List D} {vs us : List V} {A B : List Addr}, Reps K dk H Z ds vs A → Reps K dk H Z es us B → Reps K dk H Z (ds ++ es) (vs ++ us) (A ++ B)
  | _, _, _, _, _, _, .nil, s => s
  | _, _, _, _, _, _, .cons a r, s => by
    rw [List.append_assoc]
    exact .cons a (r.append s)
theorem Reps.one {d : D} {v : V} {A : List Addr} (r : Rep K dk H Z d v A) : Reps K dk H Z [d] [v] A := by
  have h : Reps K dk H Z [d] [v] (A ++ []) := .cons r .nil
  rw [List.append_nil] at h
  exact h
theorem Reps.cons0 {d : D} {v : V} {ds : List D} {vs : List V} (a : Rep K dk H Z d v []) (r : Reps K dk H Z ds vs []) : Reps K dk H Z (d :: ds) (v :: vs) [] := by
  have h := Reps.cons a r
  exact h
theorem Reps.append0 {ds es : List D} {vs us : List V} (r : Reps K dk H Z ds vs []) (s : Reps K dk H Z es us []) : Reps K dk H Z (ds ++ es) (vs ++ us) [] := r.append s
theorem Reps.un {d : D} {v : V} {ds : List D} {vs : List V} {A : List Addr} (h : Reps K dk H Z (d :: ds) (v :: vs) A) : ∃ A1 A2, A = A1 ++ A2 ∧ Rep K dk H Z d v A1 ∧ Reps K dk H Z ds vs A2 := by
  cases h with
  | cons a r => exact ⟨_, _, rfl, a, r⟩
theorem Reps.un0 {d : D} {v : V} {ds : List D} {vs : List V} (h : Reps K dk H Z (d :: ds) (v :: vs) []) : Rep K dk H Z d v [] ∧ Reps K dk H Z ds vs [] := by
  obtain ⟨A1, A2, e, a, r⟩ := h.un
  have e1 : A1 = [] := List.append_eq_nil_iff.mp e.symm |>.1
  have e2 : A2 = [] := List.append_eq_nil_iff.mp e.symm |>.2
  subst e1 e2
  exact ⟨a, r⟩
/-- by place -/
theorem Reps.get : ∀ {ds : List D} {vs : List V} {A : List Addr} {i : Nat} {d : D}, Reps K dk H Z ds vs A → ds[i]? = some d → ∃ v B, vs[i]? = some v ∧ Rep K dk H Z d v B ∧ ∀ a ∈ B, a ∈ A
  | _, _, _, _, _, .nil, e => by simp at e
  | _, _, _, 0, _, .cons a r, e => by
    simp at e
    subst e
    exact ⟨_, _, rfl, a, fun x m => List.mem_append_left _ m⟩
  | _, _, _, i + 1, _, .cons a r, e => by
    obtain ⟨v, B, e1, r1, s⟩ := r.get (i := i) (by simpa using e)
    exact ⟨v, B, by simpa using e1, r1, fun x m => List.mem_append_right _ (s x m)⟩
theorem Reps.get0 {ds : List D} {vs : List V} {i : Nat} {d : D} (h : Reps K dk H Z ds vs []) (e : ds[i]? = some d) : ∃ v, vs[i]? = some v ∧ Rep K dk H Z d v [] := by
  obtain ⟨v, B, e1, r, s⟩ := h.get e
  have : B = [] := List.eq_nil_iff_forall_not_mem.mpr fun a m => by simpa using s a m
  subst this
  exact ⟨v, e1, r⟩
theorem Reps.get0' {ds : List D} {vs : List V} {i : Nat} {v : V} (h : Reps K dk H Z ds vs []) (e : vs[i]? = some v) : ∃ d, ds[i]? = some d ∧ Rep K dk H Z d v [] := by
  have hl := h.len
  have hi : i < ds.length := by
    rw [hl]
    exact (List.getElem?_eq_some_iff.mp e).1
  obtain ⟨v', e', r⟩ := h.get0 (List.getElem?_eq_getElem hi)
  rw [e] at e'
  cases e'
  exact ⟨_, List.getElem?_eq_getElem hi, r⟩

/-- what may be shared: not owned -/
def shr : D → Bool
  | .seq .ols _ => false
  | .seq .odc _ => false
  | .seq .odt _ => false
  | .seq .ldc _ => false
  | .seq .ldt _ => false
  | .atm .un => false
  | _ => true
theorem Rep.noown {d : D} {v : V} {A : List Addr} (r : Rep K dk H Z d v A) (h : shr d = true) : A = [] := by
  cases r <;> first | rfl | cases h
theorem Reps.noown : ∀ {ds : List D} {vs : List V} {A : List Addr}, Reps K dk H Z ds vs A → ds.all shr = true → A = []
  | _, _, _, .nil, _ => rfl
  | _, _, _, .cons a r, h => by
    simp only [List.all_cons, Bool.and_eq_true] at h
    rw [a.noown h.1, r.noown h.2]
    rfl
/- frozen -/
mutual
def fz : D → D
  | .seq .ols xs => .seq .lst (fzs xs)
  | .seq .odc xs => .seq .dic (fze xs)
  | .seq .odt xs => .seq .dit (fze xs)
  | d => d
def fzs : List D → List D
  | [] => []
  | d :: ds => fz d :: fzs ds
def fze : List D → List D
  | [] => []
  | .seq .tup [k, d] :: ds => .seq .tup [k, fz d] :: fze ds
  | d :: ds => d :: fze ds
end
mutual
theorem Rep.fz (z : ∀ a, Z a → Z' a) : ∀ {d : D} {v : V} {A : List Addr}, Rep K dk H Z d v A → (∀ a ∈ A, Z' a) → Rep K dk H Z' (Zv.fz d) v []
  | _, _, _, .int i, _ => by unfold Zv.fz; exact .int i
  | _, _, _, .non, _ => by unfold Zv.fz; exact .non
  | _, _, _, .bl b, _ => by unfold Zv.fz; exact .bl b
  | _, _, _, .str x, _ => by unfold Zv.fz; exact .str x
  | _, _, _, .dk, _ => by unfold Zv.fz; exact .dk
  | _, _, _, .tup t r, h => by unfold Zv.fz; exact .tup t (r.mono (SameD.refl _) z)
  | _, _, _, .lst a n e r, h => by unfold Zv.fz; exact .lst (z _ a) n e (r.mono (SameD.refl _) z)
  | _, _, _, .ols n e r, h => by unfold Zv.fz; exact .lst (h _ List.mem_cons_self) n e (r.fzs z fun a m => h a (List.mem_cons_of_mem _ m))
  | _, _, _, .dicK a n e r, h => by unfold Zv.fz; exact .dicK (z _ a) n e (r.mono (SameD.refl _) z)
  | _, _, _, .odcK n e r, h => by unfold Zv.fz; exact .dicK (h _ List.mem_cons_self) n (.inl e) (r.fze z fun a m => h a (List.mem_cons_of_mem _ m))
  | _, _, _, .dicT a n e r, h => by unfold Zv.fz; exact .dicT (z _ a) n e (r.mono (SameD.refl _) z)
  | _, _, _, .odcT n e r, h => by unfold Zv.fz; exact .dicT (h _ List.mem_cons_self) n (.inl e) (r.fze z fun a m => h a (List.mem_cons_of_mem _ m))
  | _, _, _, .ldcK a n e r, h => by unfold Zv.fz; exact .ldcK (z _ a) n e (r.mono (SameD.refl _) z)
  | _, _, _, .ldcT a n e r, h => by unfold Zv.fz; exact .ldcT (z _ a) n e (r.mono (SameD.refl _) z)
theorem Reps.fzs (z : ∀ a, Z a → Z' a) : ∀ {ds : List D} {vs : List V} {A : List Addr}, Reps K dk H Z ds vs A → (∀ a ∈ A, Z' a) → Reps K dk H Z' (Zv.fzs ds) vs []
  | _, _, _, .nil, _ => by unfold Zv.fzs; exact .nil
  | _, _, _, .cons a r, h => by unfold Zv.fzs; exact .cons (A := []) (B := []) (a.fz z fun x m => h x (List.mem_append_left _ m)) (r.fzs z fun x m => h x (List.mem_append_right _ m))
theorem EntK.fze (z : ∀ a, Z a → Z' a) : ∀ {ds : List D} {vs : List (Key × V)} {A : List Addr}, EntK K dk H Z ds vs A → (∀ a ∈ A, Z' a) → EntK K dk H Z' (Zv.fze ds) vs []
  | _, _, _, .nil, _ => by unfold Zv.fze; exact .nil
  | _, _, _, .cons k a r, h => by
    unfold Zv.fze
    exact .cons (A := []) (B := []) k (a.fz z fun x m => h x (List.mem_append_left _ m)) (r.fze z fun x m => h x (List.mem_append_right _ m))
theorem EntT.fze (z : ∀ a, Z a → Z' a) : ∀ {ds : List D} {vs : List (List Key × V)} {A : List Addr}, EntT K dk H Z ds vs A → (∀ a ∈ A, Z' a) → EntT K dk H Z' (Zv.fze ds) vs []
  | _, _, _, .nil, _ => by unfold Zv.fze; exact .nil
  | _, _, _, .cons k a r, h => by
    unfold Zv.fze
    exact .cons (A := []) (B := []) k (a.fz z fun x m => h x (List.mem_append_left _ m)) (r.fze z fun x m => h x (List.mem_append_right _ m))
end
end
end Zv
namespace Zv
open PySem PySem.Spec PyProof.Rows L2

abbrev Sg := L2.St
/-! ## states and results -/
structure Grow (dk : Addr) (H : Hp) (Z : Addr → Prop) (H' : Hp) (Z' : Addr → Prop) : Prop where
  z : ∀ a, Z a → Z' a
  new : ∀ a, Z' a → Z a ∨ H a = none
  on : ∀ a, Z' a → a ≠ dk ∧ H' a ≠ none
  same : SameD dk H H'
def ZOn (dk : Addr) (H : Hp) (Z : Addr → Prop) : Prop := ∀ a, Z a → a ≠ dk ∧ H a ≠ none
section
variable {dk : Addr} {H H' H'' : Hp} {Z Z' Z'' : Addr → Prop}
theorem Grow.refl (h : ZOn dk H Z) : Grow dk H Z H Z := ⟨fun _ h => h, fun _ h => .inl h, h, SameD.refl _⟩
theorem SameD.none_of (s : SameD dk H H') {a : Addr} (n : a ≠ dk) (e : H' a = none) : H a = none := by
  cases h : H a with
  | none => rfl
  | some o => rw [s a o n h] at e; cases e
theorem Grow.trans (g : Grow dk H Z H' Z') (g' : Grow dk H' Z' H'' Z'') : Grow dk H Z H'' Z'' where
  z := fun a h => g'.z a (g.z a h)
  new := fun a h => by
    rcases g'.new a h with h' | h'
    · exact g.new a h'
    · exact .inr (g.same.none_of (g'.on a h).1 h')
  on := g'.on
  same := g.same.trans g'.same
theorem ZOn.mono (h : ZOn dk H Z) (s : SameD dk H H') : ZOn dk H' Z := fun a z => by
  obtain ⟨n, e⟩ := h a z
  refine ⟨n, ?_⟩
  cases q : H a with
  | none => exact absurd q e
  | some o => rw [s a o n q]; exact fun z => nomatch z
/-- a new object at p -/
theorem SameD.upd {p : Addr} {o : HO} (n : H p = none) : SameD dk H (upd H p o) := fun b x _ e => by
  rw [upd_ne (ne_of_none e n)]
  exact e
theorem Grow.upd {p : Addr} {o : HO} (h : ZOn dk H Z) (n : H p = none) : Grow dk H Z (upd H p o) Z := ⟨fun _ h => h, fun _ h => .inl h, h.mono (SameD.upd n), SameD.upd n⟩
end

def deckO (δ : List Int) : HO := .lst (δ.reverse.map V.int)

inductive R where
  | ok (d : D) (δ : List Int)
  | exc (c : Nat) (d : D) (δ : List Int)
  | err
abbrev EF := List D → List Int → R
inductive SR where
  | nx (ρ : List D) (δ : List Int)
  | rt (d : D) (δ : List Int)
  | bk (ρ : List D) (δ : List Int)
  | ct (ρ : List D) (δ : List Int)
  | exc (c : Nat) (d : D) (ρ : List D) (δ : List Int)
  | err
abbrev SF := List D → List Int → SR

inductive Slots (K : PySem.W.Frag) (dk : Addr) (H : Hp) (Z : Addr → Prop) : List D → Sg → List Addr → Prop
  | nil : Slots K dk H Z [] [] []
  | un {x : Option V} {ρ : List D} {σ : Sg} {A : List Addr} : Slots K dk H Z ρ σ A → Slots K dk H Z (.un :: ρ) (x :: σ) A
  | cons {d : D} {v : V} {ρ : List D} {σ : Sg} {A B : List Addr} : Rep K dk H Z d v A → Slots K dk H Z ρ σ B → Slots K dk H Z (d :: ρ) (some v :: σ) (A ++ B)

section
variable {K : PySem.W.Frag} {dk : Addr} {H H' H'' : Hp} {Z Z' Z'' : Addr → Prop}
theorem Slots.mono (s : SameD dk H H') (z : ∀ a, Z a → Z' a) : ∀ {ρ : List D} {σ : Sg} {A : List Addr}, Slots K dk H Z ρ σ A → Slots K dk H' Z' ρ σ A
  | _, _, _, .nil => .nil
  | _, _, _, .un r => .un (r.mono s z)
  | _, _, _, .cons a r => .cons (a.mono s z) (r.mono s z)
theorem Slots.len : ∀ {ρ : List D} {σ : Sg} {A : List Addr}, Slots K dk H Z ρ σ A → ρ.length = σ.length
  | _, _, _, .nil => rfl
  | _, _, _, .un r => by simp [r.len]
  | _, _, _, .cons _ r => by simp [r.len]
theorem Slots.off {B : List Addr} (s : ∀ b o, b ≠ dk → b ∉ B → H b = some o → H' b = some o) (nt : ∀ b vs, b ∈ B → H b ≠ some (.tup vs)) (z : ∀ a, Z a → a ∉ B) : ∀ {ρ : List D} {σ : Sg} {A : List Addr}, Slots K dk H Z ρ σ A → (∀ a ∈ A, a ∉ B) → Slots K dk H' Z ρ σ A
  | _, _, _, .nil, _ => .nil
  | _, _, _, .un r, h => .un (r.off s nt z h)
  | _, _, _, .cons a r, h => .cons (a.off s nt z fun x m => h x (List.mem_append_left _ m)) (r.off s nt z fun x m => h x (List.mem_append_right _ m))

mutual
theorem Rep.own : ∀ {d : D} {v : V} {A : List Addr}, Rep K dk H Z d v A → ∀ a ∈ A, a ≠ dk ∧ H a ≠ none
  | _, _, _, .ols n e r, a, m => by
    rcases List.mem_cons.mp m with rfl | m
    · exact ⟨n, by rw [e]; exact fun z => nomatch z⟩
    · exact r.own a m
  | _, _, _, .odcK n e r, a, m => by
    rcases List.mem_cons.mp m with rfl | m
    · exact ⟨n, by rw [e]; exact fun z => nomatch z⟩
    · exact r.own a m
  | _, _, _, .odcT n e r, a, m => by
    rcases List.mem_cons.mp m with rfl | m
    · exact ⟨n, by rw [e]; exact fun z => nomatch z⟩
    · exact r.own a m
  | _, _, _, .int i, a, m => nomatch m
  | _, _, _, .non, a, m => nomatch m
  | _, _, _, .bl _, a, m => nomatch m
  | _, _, _, .str _, a, m => nomatch m
  | _, _, _, .dk, a, m => nomatch m
  | _, _, _, .tup _ _, a, m => nomatch m
  | _, _, _, .lst _ _ _ _, a, m => nomatch m
  | _, _, _, .dicK _ _ _ _, a, m => nomatch m
  | _, _, _, .dicT _ _ _ _, a, m => nomatch m
  | _, _, _, .ldcK _ _ _ _, a, m => nomatch m
  | _, _, _, .ldcT _ _ _ _, a, m => nomatch m
theorem Reps.own : ∀ {d : List D} {v : List V} {A : List Addr}, Reps K dk H Z d v A → ∀ a ∈ A, a ≠ dk ∧ H a ≠ none
  | _, _, _, .nil, a, m => nomatch m
  | _, _, _, .cons x r, a, m => (List.mem_append.mp m).elim (x.own a) (r.own a)
theorem EntK.own : ∀ {d : List D} {v : List (Key × V)} {A : List Addr}, EntK K dk H Z d v A → ∀ a ∈ A, a ≠ dk ∧ H a ≠ none
  | _, _, _, .nil, a, m => nomatch m
  | _, _, _, .cons _ x r, a, m => (List.mem_append.mp m).elim (x.own a) (r.own a)
theorem EntT.own : ∀ {d : List D} {v : List (List Key × V)} {A : List Addr}, EntT K dk H Z d v A → ∀ a ∈ A, a ≠ dk ∧ H a ≠ none
  | _, _, _, .nil, a, m => nomatch m
  | _, _, _, .cons _ x r, a, m => (List.mem_append.mp m).elim (x.own a) (r.own a)
end
theorem Slots.own : ∀ {ρ : List D} {σ : Sg} {A : List Addr}, Slots K dk H Z ρ σ A → ∀ a ∈ A, a ≠ dk ∧ H a ≠ none
  | _, _, _, .nil, a, m => nomatch m
  | _, _, _, .un r, a, m => r.own a m
  | _, _, _, .cons x r, a, m => (List.mem_append.mp m).elim (x.own a) (r.own a)
/-- reading a slot -/
def gt : List D → Nat → D
  | [], _ => .un
  | d :: _, 0 => d
  | _ :: r, n + 1 => gt r n
theorem Rep.not_un {v : V} {A : List Addr} (r : Rep K dk H Z .un v A) : False := by cases r
theorem Slots.get : ∀ {ρ : List D} {σ : Sg} {A : List Addr} {i : Nat} {d : D}, Slots K dk H Z ρ σ A → gt ρ i = d → d ≠ .un → ∃ v B, σ[i]? = some (some v) ∧ Rep K dk H Z d v B ∧ ∀ a ∈ B, a ∈ A
  | _, _, _, _, _, .nil, e, n => absurd e.symm (by simpa [gt] using n)
  | _, _, _, 0, _, .un r, e, n => absurd e.symm (by simpa [gt] using n)
  | _, _, _, 0, _, .cons a r, e, n => by
    have e' := e
    simp only [gt] at e'
    subst e'
    exact ⟨_, _, rfl, a, fun x m => List.mem_append_left _ m⟩
  | _, _, _, i + 1, _, .un r, e, n => by
    obtain ⟨v, B, h1, h2, h3⟩ := r.get (i := i) e n
    exact ⟨v, B, by simpa using h1, h2, h3⟩
  | _, _, _, i + 1, _, .cons a r, e, n => by
    obtain ⟨v, B, h1, h2, h3⟩ := r.get (i := i) e n
    exact ⟨v, B, by simpa using h1, h2, fun x m => List.mem_append_right _ (h3 x m)⟩
end

/-- what holds for an expression to be evaluated -/
structure Sx (K : PySem.W.Frag) (dk : Addr) (Z : Addr → Prop) (ρ : List D) (δ : List Int) (σ : Sg) (H : Hp) : Prop where
  sl : ∃ A, Slots K dk H Z ρ σ A ∧ A.Nodup ∧ ∀ a ∈ A, ¬ Z a
  on : ZOn dk H Z
  deck : H dk = some (deckO δ)
theorem Sx.grow {K : PySem.W.Frag} {dk : Addr} {Z Z' : Addr → Prop} {ρ : List D} {δ δ' : List Int} {σ : Sg} {H H' : Hp} (s : Sx K dk Z ρ δ σ H) (g : Grow dk H Z H' Z') (e : H' dk = some (deckO δ')) : Sx K dk Z' ρ δ' σ H' :=
  ⟨s.sl.elim fun A h => ⟨A, h.1.mono g.same g.z, h.2.1, fun a m z => (g.new a z).elim (h.2.2 a m) (h.1.own a m).2⟩, g.on, e⟩

section
variable (K : PySem.W.Frag) (dk : Addr) (ca : Nat → Addr)
/-- an exception in the air -/
def RX (H : Hp) (Z : Addr → Prop) (c : Nat) (d : D) (δ' : List Int) (E : XK) : Prop := ∀ dd v H' Z', Grow dk H Z H' Z' → H' dk = some (deckO δ') → H' dd = some (.xd [("what", v)]) → Rep K dk H' Z' d v [] → E (.ref (ca c)) (some dd) H'
/-- a value comes: fresh where it owns -/
def RE (H : Hp) (Z : Addr → Prop) (r : R) (Q : VK) (E : XK) : Prop := match r with
  | .ok d δ' => ∀ v H' Z' A, Grow dk H Z H' Z' → H' dk = some (deckO δ') → Rep K dk H' Z' d v A → A.Nodup → (∀ a ∈ A, H a = none ∧ ¬ Z' a) → Q v H'
  | .exc c d δ' => RX K dk ca H Z c d δ' E
  | .err => False
/-- a value to be read alone -/
def RB (H : Hp) (Z : Addr → Prop) (r : R) (Q : VK) (E : XK) : Prop := match r with
  | .ok d δ' => ∀ v H' Z' A, Grow dk H Z H' Z' → H' dk = some (deckO δ') → Rep K dk H' Z' d v A → Q v H'
  | .exc c d δ' => RX K dk ca H Z c d δ' E
  | .err => False
/-- a test -/
def RT (H : Hp) (Z : Addr → Prop) (r : R) (Q : Bool → Hp → Prop) (E : XK) : Prop := match r with
  | .ok (.atm (.bl b)) δ' => ∀ H' Z', Grow dk H Z H' Z' → H' dk = some (deckO δ') → Q b H'
  | .ok _ _ => False
  | .exc c d δ' => RX K dk ca H Z c d δ' E
  | .err => False
end
abbrev wx (W : WX) (σ : Sg) : XK := fun cls d H => W cls d σ H

/-! ## the judgements -/
section
variable (X : Cx) (W : WX) (dk : Addr) (ca : Nat → Addr)
def CE (e : Expr) (f : EF) : Prop := ∃ t, PE X e t ∧ ∀ Z ρ δ σ H Q, Sx X.K dk Z ρ δ σ H → RE X.K dk ca H Z (f ρ δ) Q (wx W σ) → t σ H Q
def CB (e : Expr) (f : EF) : Prop := ∃ t, PE X e t ∧ ∀ Z ρ δ σ H Q, Sx X.K dk Z ρ δ σ H → RB X.K dk ca H Z (f ρ δ) Q (wx W σ) → t σ H Q
def CT (e : Expr) (f : EF) : Prop := ∃ t, PT X e t ∧ ∀ Z ρ δ σ H Q, Sx X.K dk Z ρ δ σ H → RT X.K dk ca H Z (f ρ δ) Q (wx W σ) → t σ H Q
end

section
variable {K : PySem.W.Frag} {dk : Addr} {ca : Nat → Addr} {H H' : Hp} {Z Z' : Addr → Prop}
theorem RX.imp {c : Nat} {d : D} {δ' : List Int} {E E' : XK} (h : RX K dk ca H Z c d δ' E) (i : ∀ cls dd H', E cls dd H' → E' cls dd H') : RX K dk ca H Z c d δ' E' := fun dd v H' Z' g e x r => i _ _ _ (h dd v H' Z' g e x r)
theorem RX.grow {c : Nat} {d : D} {δ' : List Int} {E : XK} (h : RX K dk ca H Z c d δ' E) (g : Grow dk H Z H' Z') : RX K dk ca H' Z' c d δ' E := fun dd v H'' Z'' g' e x r => h dd v H'' Z'' (g.trans g') e x r
theorem RE.grow {r : R} {Q : VK} {E : XK} (h : RE K dk ca H Z r Q E) (g : Grow dk H Z H' Z') : RE K dk ca H' Z' r Q E := by
  cases r with
  | ok d δ' => exact fun v H'' Z'' A g' e x n f => h v H'' Z'' A (g.trans g') e x n fun a m => ⟨g.same.none_of (x.own a m).1 (f a m).1, (f a m).2⟩
  | exc c d δ' => exact RX.grow h g
  | err => exact h
theorem RB.grow {r : R} {Q : VK} {E : XK} (h : RB K dk ca H Z r Q E) (g : Grow dk H Z H' Z') : RB K dk ca H' Z' r Q E := by
  cases r with
  | ok d δ' => exact fun v H'' Z'' A g' e x => h v H'' Z'' A (g.trans g') e x
  | exc c d δ' => exact RX.grow h g
  | err => exact h
theorem RT.grow {r : R} {Q : Bool → Hp → Prop} {E : XK} (h : RT K dk ca H Z r Q E) (g : Grow dk H Z H' Z') : RT K dk ca H' Z' r Q E := by
  cases r with
  | ok d δ' =>
    cases d with
    | atm a =>
      cases a with
      | bl b => exact fun H'' Z'' g' e => h H'' Z'' (g.trans g') e
      | _ => exact h
    | _ => exact h
  | exc c d δ' => exact RX.grow h g
  | err => exact h
end
end Zv
namespace Zv
open PySem PySem.Spec PyProof.Rows L2

/-! ## forcing -/
def forceN {α : Type} (n : Nat) (k : Nat → α) : α := match n with
  | .zero => k .zero
  | .succ m => k (.succ m)
theorem forceN_eq {α : Type} (n : Nat) (k : Nat → α) : forceN n k = k n := by cases n <;> rfl
def forceI {α : Type} (i : Int) (k : Int → α) : α := match i with
  | .ofNat n => forceN n fun m => k (.ofNat m)
  | .negSucc n => forceN n fun m => k (.negSucc m)
theorem forceI_eq {α : Type} (i : Int) (k : Int → α) : forceI i k = k i := by
  cases i with
  | ofNat n => exact forceN_eq n fun m => k (.ofNat m)
  | negSucc n => exact forceN_eq n fun m => k (.negSucc m)
def oI (i : Int) : Option D := forceI i fun j => some (.int j)
theorem oI_eq (i : Int) : oI i = some (.int i) := forceI_eq _ _
def oB (b : Bool) : Option D := match b with | true => some (.bl true) | false => some (.bl false)
theorem oB_eq (b : Bool) : oB b = some (.bl b) := by cases b <;> rfl

/-! ## atoms of expressions -/
def eVarB (i : Nat) : EF := fun ρ δ => match gt ρ i with
  | .atm .un => .err
  | d => .ok d δ
def eVarV (i : Nat) : EF := fun ρ δ => match shr (gt ρ i) with
  | true => .ok (gt ρ i) δ
  | false => .err
def eC (d : D) : EF := fun _ δ => .ok d δ

section
variable {X : Cx} {W : WX} {dk : Addr} {ca : Nat → Addr}
theorem CE.cb {e : Expr} {f : EF} (h : CE X W dk ca e f) : CB X W dk ca e f := by
  obtain ⟨t, p, q⟩ := h
  refine ⟨t, p, fun Z ρ δ σ H Q s h => q Z ρ δ σ H Q s ?_⟩
  cases e : f ρ δ with
  | ok d δ' =>
    rw [e] at h
    exact fun v H' Z' A g k r _ _ => h v H' Z' A g k r
  | exc c d δ' => rw [e] at h; exact h
  | err => rw [e] at h; exact h
theorem cb_var (i : Nat) {x : Str} {pos : Pos} (hN : X.N[i]? = some x := by rfl) (hv : Vis X.env.scope x := by first | exact Or.inl rfl | exact Or.inr (Or.inl rfl) | exact Or.inr (Or.inr rfl)) (hd : (x == ("__debug__" : Str)) = false := by decide)
    (hcd : (x == ("__classdict__" : Str)) = false := by decide) : CB X W dk ca (.Name x pos) (eVarB i) := by
  refine ⟨tVar i, pe_var hN hv hd hcd, fun Z ρ δ σ H Q s h => ?_⟩
  obtain ⟨A, sl, _⟩ := s.sl
  unfold eVarB at h
  generalize hg : gt ρ i = d at h
  by_cases hu : d = .un
  · subst hu
    exact h.elim
  · obtain ⟨v, B, e1, r, _⟩ := sl.get hg hu
    refine ⟨v, e1, ?_⟩
    have h : RB X.K dk ca H Z (.ok d δ) Q (wx W σ) := by
      cases d with
      | atm a => cases a <;> first | exact h | exact absurd rfl hu
      | _ => exact h
    exact h v H Z B (Grow.refl s.on) s.deck r
theorem ce_var (i : Nat) {x : Str} {pos : Pos} (hN : X.N[i]? = some x := by rfl) (hv : Vis X.env.scope x := by first | exact Or.inl rfl | exact Or.inr (Or.inl rfl) | exact Or.inr (Or.inr rfl)) (hd : (x == ("__debug__" : Str)) = false := by decide)
    (hcd : (x == ("__classdict__" : Str)) = false := by decide) : CE X W dk ca (.Name x pos) (eVarV i) := by
  refine ⟨tVar i, pe_var hN hv hd hcd, fun Z ρ δ σ H Q s h => ?_⟩
  obtain ⟨A, sl, _⟩ := s.sl
  unfold eVarV at h
  generalize hg : gt ρ i = d at h
  cases hs : shr d with
  | false => rw [hs] at h; exact h.elim
  | true =>
    rw [hs] at h
    have hu : d ≠ .un := fun z => by subst z; cases hs
    obtain ⟨v, B, e1, r, _⟩ := sl.get hg hu
    have hB := r.noown hs
    subst hB
    exact ⟨v, e1, h v H Z [] (Grow.refl s.on) s.deck r .nil (fun a m => nomatch m)⟩
theorem ce_int {i : Int} {j pos} : CE X W dk ca (.Constant (.int i) j pos) (eC (.int i)) := ⟨_, pe_int, fun _ _ _ _ H Q s h => h _ H _ [] (Grow.refl s.on) s.deck (.int i) .nil fun a m => nomatch m⟩
theorem ce_bl {b : Bool} {j pos} : CE X W dk ca (.Constant (.bool b) j pos) (eC (.bl b)) := ⟨_, pe_bl, fun _ _ _ _ H Q s h => h _ H _ [] (Grow.refl s.on) s.deck (.bl b) .nil fun a m => nomatch m⟩
theorem ce_non {j pos} : CE X W dk ca (.Constant .none j pos) (eC .non) := ⟨_, pe_non, fun _ _ _ _ H Q s h => h _ H _ [] (Grow.refl s.on) s.deck .non .nil fun a m => nomatch m⟩
theorem ce_str (n : Nat) {x : Str} {j pos} (e : x = strTab n := by rfl) : CE X W dk ca (.Constant (.str x) j pos) (eC (.str n)) := ⟨_, pe_str, fun _ _ _ _ H Q s h => by subst e; exact h _ H _ [] (Grow.refl s.on) s.deck (.str n) .nil fun a m => nomatch m⟩
/-- a module's int constant -/
theorem ce_glob {x : Str} {i : Int} {u : Value} {pos : Pos} (hg : Gl X x) (hm : X.mg x = some u) (r : RelV (.int i) u) (hd : (x == ("__debug__" : Str)) = false := by decide) : CE X W dk ca (.Name x pos) (eC (.int i)) :=
  ⟨_, pe_glob hg hm r hd, fun _ _ _ _ H Q s h => h _ H _ [] (Grow.refl s.on) s.deck (.int i) .nil fun a m => nomatch m⟩

/-! ## operators on values -/
/-- what an operation on values hands on -/
def Fin (K : PySem.W.Frag) (dk : Addr) (H : Hp) (Z : Addr → Prop) (d : D) (Q : VK) : Prop := ∀ v H' Z' A, Grow dk H Z H' Z' → H' dk = H dk → Rep K dk H' Z' d v A → A.Nodup → (∀ a ∈ A, H a = none ∧ ¬ Z' a) → Q v H'
/-- nothing is made -/
theorem Fin.here {K : PySem.W.Frag} {dk : Addr} {H : Hp} {Z : Addr → Prop} {d : D} {v : V} {Q : VK} (h : Fin K dk H Z d Q) (on : ZOn dk H Z) (r : Rep K dk H Z d v []) : Q v H := h v H Z [] (Grow.refl on) rfl r .nil fun a m => nomatch m
theorem ne_dk {H : Hp} {o : HO} {p dk : Addr} (h : H dk = some o) (n : H p = none) : p ≠ dk := fun e => by rw [e, h] at n; cases n
/-- a new tuple -/
theorem Fin.tup {K : PySem.W.Frag} {dk : Addr} {H : Hp} {Z : Addr → Prop} {ds : List D} {vs : List V} {Q : VK} {o : HO} (h : Fin K dk H Z (.tup ds) Q) (on : ZOn dk H Z) (hd : H dk = some o) (r : Reps K dk H Z ds vs []) : ∀ p, H p = none → Q (.ref p) (upd H p (.tup vs)) := fun p n =>
  h _ _ Z [] (Grow.upd on n) (upd_ne (Ne.symm (ne_dk hd n))) (.tup ⟨ne_dk hd n, upd_same⟩ (r.mono (SameD.upd n) fun _ z => z)) .nil fun a m => nomatch m
/-- a new list of shared things -/
theorem Fin.ols {K : PySem.W.Frag} {dk : Addr} {H : Hp} {Z : Addr → Prop} {ds : List D} {vs : List V} {Q : VK} {o : HO} (h : Fin K dk H Z (.ols ds) Q) (on : ZOn dk H Z) (hd : H dk = some o) (r : Reps K dk H Z ds vs []) : ∀ p, H p = none → Q (.ref p) (upd H p (.lst vs)) := fun p n =>
  h _ _ Z [p] (Grow.upd on n) (upd_ne (Ne.symm (ne_dk hd n))) (.ols (ne_dk hd n) upd_same (r.mono (SameD.upd n) fun _ z => z)) (by simp) fun a m => by
    have e : a = p := by simpa using m
    subst e
    exact ⟨n, fun z => (on a z).2 n⟩

def G2 (K : PySem.W.Frag) (dk : Addr) (r : R2) (g : D → D → Option D) : Prop := ∀ (H : Hp) (Z : Addr → Prop) (x y z : D) (v u : V) (A B : List Addr) (Q : VK) (δ : List Int), ZOn dk H Z → H dk = some (deckO δ) → Rep K dk H Z x v A → Rep K dk H Z y u B → g x y = some z → Fin K dk H Z z Q → r v u H Q

def eOp2 (g : D → D → Option D) (fa fb : EF) : EF := fun ρ δ => match fa ρ δ with
  | .ok x δ1 => (match fb ρ δ1 with
    | .ok y δ2 => (match g x y with
      | some z => .ok z δ2
      | none => .err)
    | r => r)
  | r => r
theorem eOp2_run {Z : Addr → Prop} {ρ : List D} {δ : List Int} {σ : L2.St} {H : Hp} {Q : VK} {E : XK} {K : PySem.W.Frag} {g : D → D → Option D} {fa fb : EF} {ta tb : TE} {r : R2}
    (hg : G2 K dk r g) (qa : ∀ Z ρ δ σ H Q, Sx K dk Z ρ δ σ H → RB K dk ca H Z (fa ρ δ) Q (wx W σ) → ta σ H Q) (qb : ∀ Z ρ δ σ H Q, Sx K dk Z ρ δ σ H → RB K dk ca H Z (fb ρ δ) Q (wx W σ) → tb σ H Q)
    (s : Sx K dk Z ρ δ σ H) (h : RE K dk ca H Z (eOp2 g fa fb ρ δ) Q (wx W σ)) : tOp r ta tb σ H Q := by
  unfold eOp2 at h
  refine qa Z ρ δ σ H _ s ?_
  cases ea : fa ρ δ with
  | err => rw [ea] at h; exact h
  | exc c d δ' => rw [ea] at h; exact h
  | ok x δ1 =>
    rw [ea] at h
    intro v H1 Z1 A1 g1 k1 r1
    have s1 := s.grow g1 k1
    refine qb Z1 ρ δ1 σ H1 _ s1 ?_
    cases eb : fb ρ δ1 with
    | err => simp only [eb] at h; exact h
    | exc c d δ' => simp only [eb] at h; exact RX.grow h g1
    | ok y δ2 =>
      simp only [eb] at h
      intro u H2 Z2 A2 g2 k2 r2
      cases ez : g x y with
      | none => simp only [ez] at h; exact h.elim
      | some z =>
        simp only [ez] at h
        refine hg H2 Z2 x y z v u A1 A2 Q δ2 g2.on k2 (r1.mono g2.same g2.z) r2 ez fun w H3 Z3 A3 g3 k3 r3 n3 f3 => ?_
        refine h w H3 Z3 A3 ((g1.trans g2).trans g3) (k3.trans k2) r3 n3 fun a m => ⟨?_, (f3 a m).2⟩
        exact (g1.trans g2).same.none_of (r3.own a m).1 (f3 a m).1
variable {a b c : Expr} {fa fb fc : EF} {pos : Pos}
theorem ce_op {op : Operator} {r : R2} {g : D → D → Option D} (ho : OpR X (binaryOp op) r) (hg : G2 X.K dk r g) (ha : CB X W dk ca a fa) (hb : CB X W dk ca b fb) : CE X W dk ca (.BinOp a op b pos) (eOp2 g fa fb) := by
  obtain ⟨ta, pa, qa⟩ := ha
  obtain ⟨tb, pb, qb⟩ := hb
  exact ⟨_, pe_op ho pa pb, fun Z ρ δ σ H Q s h => eOp2_run (E := wx W σ) hg qa qb s h⟩
theorem ce_cmp {op : CmpOp} {r : R2} {g : D → D → Option D} (ho : OpR X (compareOp op) r) (hg : G2 X.K dk r g) (ha : CB X W dk ca a fa) (hb : CB X W dk ca b fb) (hm : behindInMarks op b = false) : CE X W dk ca (.Compare a [op] [b] pos) (eOp2 g fa fb) := by
  obtain ⟨ta, pa, qa⟩ := ha
  obtain ⟨tb, pb, qb⟩ := hb
  exact ⟨_, pe_cmpR ho pa pb hm, fun Z ρ δ σ H Q s h => eOp2_run (E := wx W σ) hg qa qb s h⟩
/-- a test by its value -/
theorem re_test {K : PySem.W.Frag} {H : Hp} {Z : Addr → Prop} {r : R} {Q : Bool → Hp → Prop} {E : XK} (h : RT K dk ca H Z r Q E) : RE K dk ca H Z r (fun x H' => ∃ k, x = .bl k ∧ Q k H') E := by
  cases r with
  | err => exact h
  | exc c d δ' => exact h
  | ok d δ' =>
    intro v H' Z' A g k r n f
    cases d with
    | int i => exact h.elim
    | seq k xs => exact h.elim
    | atm a =>
      cases a with
      | bl b =>
        cases r
        exact ⟨b, rfl, h H' Z' g k⟩
      | _ => exact h.elim
theorem ct_cmp {op : CmpOp} {r : R2} {g : D → D → Option D} (ho : OpR X (compareOp op) r) (hg : G2 X.K dk r g) (ha : CB X W dk ca a fa) (hb : CB X W dk ca b fb) (hm : behindInMarks op b = false) : CT X W dk ca (.Compare a [op] [b] pos) (eOp2 g fa fb) := by
  obtain ⟨ta, pa, qa⟩ := ha
  obtain ⟨tb, pb, qb⟩ := hb
  exact ⟨_, pt_cmpR ho pa pb hm, fun Z ρ δ σ H Q s h => eOp2_run (E := wx W σ) hg qa qb s (re_test h)⟩
/-- an expression that gives a truth value, as a test -/
theorem ct_val {f : EF} {e : Expr} (h : CE X W dk ca e f) (he : ∀ whole, isTrue e X.env whole = (do let v ← whole; standAt e.pos; holding [v] (truthy v)) := by intro _; rfl) : CT X W dk ca e f := by
  obtain ⟨t, p, q⟩ := h
  exact ⟨_, pt_val p he, fun Z ρ δ σ H Q s h => q Z ρ δ σ H _ s (re_test h)⟩

/-! ## truth, not, and, or, if -/
def truD : D → Option Bool
  | .int i => some (!decide (i = 0))
  | .atm .non => some false
  | .atm (.bl b) => some b
  | .seq .tup xs => some (!xs.isEmpty)
  | .seq .lst xs => some (!xs.isEmpty)
  | .seq .ols xs => some (!xs.isEmpty)
  | _ => none
def eTru (f : EF) : EF := fun ρ δ => match f ρ δ with
  | .ok d δ' => (match truD d with
    | some b => .ok (.bl b) δ'
    | none => .err)
  | r => r
theorem isEmpty_reps {K : PySem.W.Frag} {H : Hp} {Z : Addr → Prop} {ds : List D} {vs : List V} {A : List Addr} (r : Reps K dk H Z ds vs A) : ds.isEmpty = vs.isEmpty := by cases r <;> rfl
theorem ct_truth {f : EF} {e : Expr} (h : CB X W dk ca e f) (he : ∀ whole, isTrue e X.env whole = (do let v ← whole; standAt e.pos; holding [v] (truthy v)) := by intro _; rfl) : CT X W dk ca e (eTru f) := by
  obtain ⟨t, p, q⟩ := h
  refine ⟨_, pt_truth p he, fun Z ρ δ σ H Q s h => q Z ρ δ σ H _ s ?_⟩
  unfold eTru at h
  cases e1 : f ρ δ with
  | err => rw [e1] at h; exact h
  | exc c d δ' => rw [e1] at h; exact h
  | ok d δ' =>
    rw [e1] at h
    intro v H' Z' A g k r
    cases e2 : truD d with
    | none => simp only [e2] at h; exact h.elim
    | some b =>
      simp only [e2] at h
      have q := h H' Z' g k
      cases r with
      | int i =>
        cases e2
        refine ⟨_, ?_, q⟩
        show (!decide (i = 0)) = (i != 0)
        rw [bne, Bool.beq_eq_decide_eq]
      | non => cases e2; exact ⟨_, rfl, q⟩
      | bl b' => cases e2; exact ⟨_, rfl, q⟩
      | str x => cases e2
      | dk => cases e2
      | tup ta rs => cases e2; exact ⟨_, .inr (.inl ⟨_, ta.sq, by rw [isEmpty_reps rs]⟩), q⟩
      | lst z n e rs => cases e2; exact ⟨_, .inl ⟨_, .inl (.inl e), by rw [isEmpty_reps rs]⟩, q⟩
      | ols n e rs => cases e2; exact ⟨_, .inl ⟨_, .inl (.inl e), by rw [isEmpty_reps rs]⟩, q⟩
      | dicK => cases e2
      | odcK => cases e2
      | dicT => cases e2
      | odcT => cases e2
      | ldcK => cases e2
      | ldcT => cases e2
def eNot (f : EF) : EF := fun ρ δ => match f ρ δ with
  | .ok (.atm (.bl b)) δ' => .ok (.bl (match b with | true => false | false => true)) δ'
  | .ok _ _ => .err
  | r => r
theorem RT_ok {K : PySem.W.Frag} {H : Hp} {Z : Addr → Prop} {d : D} {δ' : List Int} {Q : Bool → Hp → Prop} {E : XK} (h : RT K dk ca H Z (.ok d δ') Q E) : ∃ b, d = .bl b := by
  cases d with
  | int i => exact h.elim
  | seq k xs => exact h.elim
  | atm a =>
    cases a with
    | bl b => exact ⟨b, rfl⟩
    | _ => exact h.elim
theorem ct_not {f : EF} (h : CT X W dk ca a f) : CT X W dk ca (.UnaryOp .Not a pos) (eNot f) := by
  obtain ⟨t, p, q⟩ := h
  refine ⟨_, pt_not p, fun Z ρ δ σ H Q s h => q Z ρ δ σ H _ s ?_⟩
  unfold eNot at h
  cases e1 : f ρ δ with
  | err => rw [e1] at h; exact h
  | exc c d δ' => rw [e1] at h; exact h
  | ok d δ' =>
    rw [e1] at h
    cases d with
    | int i => exact h
    | seq k xs => exact h
    | atm a =>
      cases a with
      | bl b => cases b <;> exact h
      | _ => exact h
/-- the value of a test -/
theorem RE.of_bl {K : PySem.W.Frag} {H : Hp} {Z : Addr → Prop} {b : Bool} {δ' : List Int} {Q : VK} {E : XK} (h : RE K dk ca H Z (.ok (.bl b) δ') Q E) : RT K dk ca H Z (.ok (.bl b) δ') (fun k H' => Q (.bl k) H') E :=
  fun H' Z' g k => h _ H' Z' [] g k (.bl b) .nil fun a m => nomatch m
/-- not, as a value of a bool -/
theorem ce_not {f : EF} (h : CE X W dk ca a f) : CE X W dk ca (.UnaryOp .Not a pos) (eNot f) := by
  obtain ⟨t, p, q⟩ := h
  refine ⟨_, pe_not p, fun Z ρ δ σ H Q s h => q Z ρ δ σ H _ s ?_⟩
  unfold eNot at h
  cases e1 : f ρ δ with
  | err => rw [e1] at h; exact h
  | exc c d δ' => rw [e1] at h; exact h
  | ok d δ' =>
    rw [e1] at h
    intro v H' Z' A g k r n fr
    cases d with
    | int i => exact h.elim
    | seq k xs => exact h.elim
    | atm a =>
      cases a with
      | bl b =>
        cases r
        refine ⟨b, rfl, ?_⟩
        cases b <;> exact h _ H' Z' [] g k (.bl _) .nil fun a m => nomatch m
      | _ => exact h.elim
def eAnd (f g : EF) : EF := fun ρ δ => match f ρ δ with
  | .ok (.atm (.bl b)) δ' => (match b with | true => g ρ δ' | false => .ok (.bl false) δ')
  | .ok _ _ => .err
  | r => r
def eOr (f g : EF) : EF := fun ρ δ => match f ρ δ with
  | .ok (.atm (.bl b)) δ' => (match b with | true => .ok (.bl true) δ' | false => g ρ δ')
  | .ok _ _ => .err
  | r => r
/-- a test whatever its whole is -/
def CW (X : Cx) (W : WX) (dk : Addr) (ca : Nat → Addr) (e : Expr) (f : EF) : Prop := ∃ t, PW X e t ∧ ∀ Z ρ δ σ H Q, Sx X.K dk Z ρ δ σ H → RT X.K dk ca H Z (f ρ δ) Q (wx W σ) → t σ H Q
theorem CW.ct {e : Expr} {f : EF} (h : CW X W dk ca e f) : CT X W dk ca e f := h.elim fun t ⟨p, q⟩ => ⟨t, p.pt, q⟩
theorem cw_and1 {f : EF} (h : CT X W dk ca a f) : CW X W dk ca (.BoolOp .And [a] pos) f := h.elim fun t ⟨p, q⟩ => ⟨t, pw_and1 p, q⟩
theorem cw_or1 {f : EF} (h : CT X W dk ca a f) : CW X W dk ca (.BoolOp .Or [a] pos) f := h.elim fun t ⟨p, q⟩ => ⟨t, pw_or1 p, q⟩
variable {rest : List Expr}
theorem cw_and {f g : EF} (ha : CT X W dk ca a f) (hb : CW X W dk ca (.BoolOp .And (b :: rest) pos) g) : CW X W dk ca (.BoolOp .And (a :: b :: rest) pos) (eAnd f g) := by
  obtain ⟨ta, pa, qa⟩ := ha
  obtain ⟨tb, pb, qb⟩ := hb
  refine ⟨_, pw_and pa pb, fun Z ρ δ σ H Q s h => qa Z ρ δ σ H _ s ?_⟩
  unfold eAnd at h
  cases e1 : f ρ δ with
  | err => rw [e1] at h; exact h
  | exc c d δ' => rw [e1] at h; exact h
  | ok d δ' =>
    rw [e1] at h
    cases d with
    | int i => exact h
    | seq k xs => exact h
    | atm a =>
      cases a with
      | bl b =>
        intro H' Z' g1 k1
        cases b with
        | true => exact iteT (qb Z' ρ δ' σ H' _ (s.grow g1 k1) (RT.grow h g1))
        | false => exact iteF (h H' Z' g1 k1)
      | _ => exact h
theorem cw_or {f g : EF} (ha : CT X W dk ca a f) (hb : CW X W dk ca (.BoolOp .Or (b :: rest) pos) g) : CW X W dk ca (.BoolOp .Or (a :: b :: rest) pos) (eOr f g) := by
  obtain ⟨ta, pa, qa⟩ := ha
  obtain ⟨tb, pb, qb⟩ := hb
  refine ⟨_, pw_or pa pb, fun Z ρ δ σ H Q s h => qa Z ρ δ σ H _ s ?_⟩
  unfold eOr at h
  cases e1 : f ρ δ with
  | err => rw [e1] at h; exact h
  | exc c d δ' => rw [e1] at h; exact h
  | ok d δ' =>
    rw [e1] at h
    cases d with
    | int i => exact h
    | seq k xs => exact h
    | atm a =>
      cases a with
      | bl b =>
        intro H' Z' g1 k1
        cases b with
        | true => exact iteT (h H' Z' g1 k1)
        | false => exact iteF (qb Z' ρ δ' σ H' _ (s.grow g1 k1) (RT.grow h g1))
      | _ => exact h
/-- .. as values, all but the last bools -/
theorem ce_one {op} {f : EF} (h : CE X W dk ca a f) : CE X W dk ca (.BoolOp op [a] pos) f := h.elim fun t ⟨p, q⟩ => ⟨t, pe_one p, q⟩
theorem ce_and {f g : EF} (ha : CE X W dk ca a f) (hb : CE X W dk ca (.BoolOp .And (b :: rest) pos) g) : CE X W dk ca (.BoolOp .And (a :: b :: rest) pos) (eAnd f g) := by
  obtain ⟨ta, pa, qa⟩ := ha
  obtain ⟨tb, pb, qb⟩ := hb
  refine ⟨_, pe_and pa pb, fun Z ρ δ σ H Q s h => qa Z ρ δ σ H _ s ?_⟩
  unfold eAnd at h
  cases e1 : f ρ δ with
  | err => rw [e1] at h; exact h
  | exc c d δ' => rw [e1] at h; exact h
  | ok d δ' =>
    rw [e1] at h
    intro v H' Z' A g1 k1 r n fr
    cases d with
    | int i => exact h.elim
    | seq k xs => exact h.elim
    | atm a =>
      cases a with
      | bl b =>
        cases r
        refine ⟨b, rfl, ?_⟩
        cases b with
        | true => exact iteT (qb Z' ρ δ' σ H' _ (s.grow g1 k1) (RE.grow h g1))
        | false => exact iteF (h _ H' Z' [] g1 k1 (.bl _) .nil fun a m => nomatch m)
      | _ => exact h.elim
theorem ce_or {f g : EF} (ha : CE X W dk ca a f) (hb : CE X W dk ca (.BoolOp .Or (b :: rest) pos) g) : CE X W dk ca (.BoolOp .Or (a :: b :: rest) pos) (eOr f g) := by
  obtain ⟨ta, pa, qa⟩ := ha
  obtain ⟨tb, pb, qb⟩ := hb
  refine ⟨_, pe_or pa pb, fun Z ρ δ σ H Q s h => qa Z ρ δ σ H _ s ?_⟩
  unfold eOr at h
  cases e1 : f ρ δ with
  | err => rw [e1] at h; exact h
  | exc c d δ' => rw [e1] at h; exact h
  | ok d δ' =>
    rw [e1] at h
    intro v H' Z' A g1 k1 r n fr
    cases d with
    | int i => exact h.elim
    | seq k xs => exact h.elim
    | atm a =>
      cases a with
      | bl b =>
        cases r
        refine ⟨b, rfl, ?_⟩
        cases b with
        | true => exact iteT (h _ H' Z' [] g1 k1 (.bl _) .nil fun a m => nomatch m)
        | false => exact iteF (qb Z' ρ δ' σ H' _ (s.grow g1 k1) (RE.grow h g1))
      | _ => exact h.elim
def eIf (c f g : EF) : EF := fun ρ δ => match c ρ δ with
  | .ok (.atm (.bl b)) δ' => (match b with | true => f ρ δ' | false => g ρ δ')
  | .ok _ _ => .err
  | r => r
theorem ce_if {c : Expr} {f g h : EF} (hc : CT X W dk ca c f) (ha : CE X W dk ca a g) (hb : CE X W dk ca b h) : CE X W dk ca (.IfExp c a b pos) (eIf f g h) := by
  obtain ⟨tc, pc, qc⟩ := hc
  obtain ⟨ta, pa, qa⟩ := ha
  obtain ⟨tb, pb, qb⟩ := hb
  refine ⟨_, pe_ifExp pc pa pb, fun Z ρ δ σ H Q s h => qc Z ρ δ σ H _ s ?_⟩
  unfold eIf at h
  cases e1 : f ρ δ with
  | err => rw [e1] at h; exact h
  | exc c d δ' => rw [e1] at h; exact h
  | ok d δ' =>
    rw [e1] at h
    cases d with
    | int i => exact h
    | seq k xs => exact h
    | atm a =>
      cases a with
      | bl b =>
        intro H' Z' g1 k1
        cases b with
        | true => exact iteT (qa Z' ρ δ' σ H' _ (s.grow g1 k1) (RE.grow h g1))
        | false => exact iteF (qb Z' ρ δ' σ H' _ (s.grow g1 k1) (RE.grow h g1))
      | _ => exact h
theorem cb_if {c : Expr} {f g h : EF} (hc : CT X W dk ca c f) (ha : CB X W dk ca a g) (hb : CB X W dk ca b h) : CB X W dk ca (.IfExp c a b pos) (eIf f g h) := by
  obtain ⟨tc, pc, qc⟩ := hc
  obtain ⟨ta, pa, qa⟩ := ha
  obtain ⟨tb, pb, qb⟩ := hb
  refine ⟨_, pe_ifExp pc pa pb, fun Z ρ δ σ H Q s h => qc Z ρ δ σ H _ s ?_⟩
  unfold eIf at h
  cases e1 : f ρ δ with
  | err => rw [e1] at h; exact h
  | exc c d δ' => rw [e1] at h; exact h
  | ok d δ' =>
    rw [e1] at h
    cases d with
    | int i => exact h
    | seq k xs => exact h
    | atm a =>
      cases a with
      | bl b =>
        intro H' Z' g1 k1
        cases b with
        | true => exact iteT (qa Z' ρ δ' σ H' _ (s.grow g1 k1) (RB.grow h g1))
        | false => exact iteF (qb Z' ρ δ' σ H' _ (s.grow g1 k1) (RB.grow h g1))
      | _ => exact h
end
end Zv
namespace Zv
open PySem PySem.Spec PyProof.Rows L2

/-! ## arithmetic -/
def szOk (n : Nat) : Bool := Nat.ble n 16777216
theorem szOk_le {n : Nat} (h : szOk n = true) : n ≤ sizeLine := by
  rw [sizeLine_eq]
  exact Nat.le_of_ble_eq_true h
def gCat (xs ys : List D) : Option D := match xs.all shr && ys.all shr && szOk (xs.length + ys.length) with
  | true => some (.ols (xs ++ ys))
  | false => none
def gCatT (xs ys : List D) : Option D := match szOk (xs.length + ys.length) with
  | true => some (.tup (xs ++ ys))
  | false => none
def gAdd : D → D → Option D
  | .int i, .int j => oI (i + j)
  | .seq .tup xs, .seq .tup ys => gCatT xs ys
  | .seq .lst xs, .seq .lst ys => gCat xs ys
  | .seq .lst xs, .seq .ols ys => gCat xs ys
  | .seq .ols xs, .seq .lst ys => gCat xs ys
  | .seq .ols xs, .seq .ols ys => gCat xs ys
  | _, _ => none
def rAdd3 (K : PySem.W.Frag) : R2 := fun x y H Q => (rI0 fun i j => .int (i + j)) x y H Q ∨ (rCatA K x y H Q ∨ rCat x y H Q)
theorem op_add3 {X : Cx} : OpR X (binaryOp .Add) (rAdd3 X.K) := op_add.or (op_catA.or op_cat)
section
variable {K : PySem.W.Frag} {dk : Addr}
/-- what stands at a list's place -/
theorem Rep.lstAt {H : Hp} {Z : Addr → Prop} {k : SK} {xs : List D} {v : V} {A : List Addr} (r : Rep K dk H Z (.seq k xs) v A) (hk : k = .lst ∨ k = .ols) : ∃ a vs A', v = .ref a ∧ a ≠ dk ∧ H a = some (.lst vs) ∧ Reps K dk H Z xs vs A' := by
  rcases hk with rfl | rfl
  · cases r with
    | lst z n e rs => exact ⟨_, _, _, rfl, n, e, rs⟩
  · cases r with
    | ols n e rs => exact ⟨_, _, _, rfl, n, e, rs⟩
theorem Rep.tupAt {H : Hp} {Z : Addr → Prop} {xs : List D} {v : V} {A : List Addr} (r : Rep K dk H Z (.tup xs) v A) : ∃ a vs, v = .ref a ∧ a ≠ dk ∧ H a = some (.tup vs) ∧ Reps K dk H Z xs vs [] := by
  cases r with
  | tup t rs => exact ⟨_, _, rfl, t.1, t.2, rs⟩
theorem gCat_ok {H : Hp} {Z : Addr → Prop} {k k' : SK} {xs ys : List D} {z : D} {v u : V} {A B : List Addr} {Q : VK} {δ : List Int} (hk : k = .lst ∨ k = .ols) (hk' : k' = .lst ∨ k' = .ols) (on : ZOn dk H Z) (hd : H dk = some (deckO δ))
    (rx : Rep K dk H Z (.seq k xs) v A) (ry : Rep K dk H Z (.seq k' ys) u B) (e : gCat xs ys = some z) (q : Fin K dk H Z z Q) : rCat v u H Q := by
  obtain ⟨a, vs, A', rfl, na, ea, ra⟩ := rx.lstAt hk
  obtain ⟨b, us, B', rfl, nb, eb, rb⟩ := ry.lstAt hk'
  unfold gCat at e
  cases c : xs.all shr && ys.all shr && szOk (xs.length + ys.length) with
  | false => rw [c] at e; cases e
  | true =>
    rw [c] at e
    cases e
    simp only [Bool.and_eq_true] at c
    have e1 := ra.noown c.1.1
    have e2 := rb.noown c.1.2
    subst e1 e2
    refine ⟨a, b, vs, us, rfl, rfl, ea, eb, ?_, q.ols on hd (ra.append rb)⟩
    rw [← ra.len, ← rb.len]
    exact szOk_le c.2
theorem g_add : G2 K dk (rAdd3 K) gAdd := by
  intro H Z x y z v u A B Q δ on hd rx ry e q
  unfold gAdd at e
  split at e
  · cases rx
    cases ry
    rw [oI_eq] at e
    cases e
    exact .inl ⟨_, _, rfl, rfl, q.here on (.int _)⟩
  · rename_i xs ys
    obtain ⟨a, vs, rfl, na, ea, ra⟩ := rx.tupAt
    obtain ⟨b, us, rfl, nb, eb, rb⟩ := ry.tupAt
    unfold gCatT at e
    cases c : szOk (xs.length + ys.length) with
    | false => rw [c] at e; cases e
    | true =>
      rw [c] at e
      cases e
      refine .inr (.inl ⟨a, b, vs, us, rfl, rfl, .inl (.inl ea), .inl (.inl eb), ?_, fun e0 => ?_, fun _ e0 => ?_, fun _ _ => q.tup on hd (ra.append rb)⟩)
      · rw [← ra.len, ← rb.len]
        exact szOk_le c
      · subst e0
        cases ra
        exact q.here on (.tup ⟨nb, eb⟩ rb)
      · subst e0
        cases rb
        rw [List.append_nil] at q
        exact q.here on (.tup ⟨na, ea⟩ ra)
  · exact .inr (.inr (gCat_ok (.inl rfl) (.inl rfl) on hd rx ry e q))
  · exact .inr (.inr (gCat_ok (.inl rfl) (.inr rfl) on hd rx ry e q))
  · exact .inr (.inr (gCat_ok (.inr rfl) (.inl rfl) on hd rx ry e q))
  · exact .inr (.inr (gCat_ok (.inr rfl) (.inr rfl) on hd rx ry e q))
  · cases e
def gSub : D → D → Option D
  | .int i, .int j => oI (i - j)
  | _, _ => none
theorem g_sub : G2 K dk (rI0 fun i j => .int (i - j)) gSub := by
  intro H Z x y z v u A B Q δ on hd rx ry e q
  unfold gSub at e
  split at e
  · cases rx
    cases ry
    rw [oI_eq] at e
    cases e
    exact ⟨_, _, rfl, rfl, q.here on (.int _)⟩
  · cases e
/-- n copies, flat -/
def repD (xs : List D) : Nat → List D
  | 0 => []
  | n + 1 => xs ++ repD xs n
def gMul : D → D → Option D
  | .int i, .int j => match Nat.ble (Nat.add (Nat.log2 i.natAbs) (Nat.log2 j.natAbs)) 999999 with
    | true => oI (i * j)
    | false => none
  | .seq .ols xs, .int j => match xs.all shr && decide (j < 16777216) && szOk (xs.length * j.toNat) with
    | true => match decide (-9223372036854775808 ≤ j) with
      | true => some (.ols (repD xs j.toNat))
      | false => none
    | false => none
  | _, _ => none
theorem repD_eq (xs : List D) : ∀ n, repD xs n = (List.replicate n xs).flatten
  | 0 => rfl
  | n + 1 => by
    rw [List.replicate_succ, List.flatten_cons, ← repD_eq xs n]
    rfl
theorem Reps.rep {H : Hp} {Z : Addr → Prop} {ds : List D} {vs : List V} (r : Reps K dk H Z ds vs []) : ∀ n, Reps K dk H Z (repD ds n) (List.replicate n vs).flatten []
  | 0 => .nil
  | n + 1 => by
    rw [List.replicate_succ, List.flatten_cons]
    exact r.append (r.rep n)
def rMul2 : R2 := fun x y H Q => (rI CMulW fun i j => .int (i * j)) x y H Q ∨ rRep x y H Q
theorem op_mul2 {X : Cx} : OpR X (binaryOp .Mult) rMul2 := op_mulW.or op_rep
theorem g_mul : G2 K dk rMul2 gMul := by
  intro H Z x y z v u A B Q δ on hd rx ry e q
  unfold gMul at e
  split at e
  · rename_i i j
    cases rx
    cases ry
    cases c : Nat.ble (Nat.add (Nat.log2 i.natAbs) (Nat.log2 j.natAbs)) 999999 with
    | false => rw [c] at e; cases e
    | true =>
      rw [c] at e
      simp only [oI_eq] at e
      cases e
      have h := Nat.le_of_ble_eq_true c
      exact .inl ⟨_, _, rfl, rfl, (by show i.natAbs.log2 + j.natAbs.log2 < 1000000; exact Nat.lt_succ_of_le h), q.here on (.int _)⟩
  · rename_i xs j
    obtain ⟨a, vs, A', rfl, na, ea, ra⟩ := rx.lstAt (.inr rfl)
    cases ry
    cases c : xs.all shr && decide (j < 16777216) && szOk (xs.length * j.toNat) with
    | false => rw [c] at e; cases e
    | true =>
      rw [c] at e
      simp only [Bool.and_eq_true, decide_eq_true_eq] at c
      cases c2 : decide (-9223372036854775808 ≤ j) with
      | false => simp only [c2] at e; cases e
      | true =>
        simp only [c2] at e
        cases e
        have h2 := of_decide_eq_true c2
        have e1 := ra.noown c.1.1
        subst e1
        refine .inr ⟨a, j, vs, rfl, rfl, ea, ?_, ?_, ?_, q.ols on hd (ra.rep _)⟩
        · have : (-(2 ^ 63) : Int) = -9223372036854775808 := by decide
          omega
        · have : ((2 : Int) ^ 63) = 9223372036854775808 := by decide
          omega
        · rw [← ra.len]
          exact szOk_le c.2
  · cases e
def gDiv : D → D → Option D
  | .int i, .int j => match decide (0 < j) && Nat.ble (Nat.log2 j.natAbs) 8999 with
    | true => oI (i / j)
    | false => match decide (j < 0) && Nat.blt j.natAbs 1073741824 with
      | true => oI (i.fdiv j)
      | false => none
  | _, _ => none
def rDiv2 : R2 := fun x y H Q => (rI CDivW fun i j => .int (i / j)) x y H Q ∨ (rI CDivN fun i j => .int (i.fdiv j)) x y H Q
theorem op_div2 {X : Cx} : OpR X (binaryOp .FloorDiv) rDiv2 := op_fdivW.or op_fdivN
theorem g_div : G2 K dk rDiv2 gDiv := by
  intro H Z x y z v u A B Q δ on hd rx ry e q
  unfold gDiv at e
  split at e
  · rename_i i j
    cases rx
    cases ry
    cases c : decide (0 < j) && Nat.ble (Nat.log2 j.natAbs) 8999 with
    | true =>
      rw [c] at e
      simp only [oI_eq] at e
      cases e
      simp only [Bool.and_eq_true, decide_eq_true_eq] at c
      exact .inl ⟨_, _, rfl, rfl, ⟨c.1, Nat.lt_succ_of_le (Nat.le_of_ble_eq_true c.2)⟩, q.here on (.int _)⟩
    | false =>
      rw [c] at e
      cases c2 : decide (j < 0) && Nat.blt j.natAbs 1073741824 with
      | true =>
        simp only [c2, oI_eq] at e
        cases e
        simp only [Bool.and_eq_true, decide_eq_true_eq] at c2
        refine .inr ⟨_, _, rfl, rfl, ⟨by omega, ?_⟩, q.here on (.int _)⟩
        have := Nat.le_of_ble_eq_true (n := j.natAbs + 1) (m := 1073741824) c2.2
        omega
      | false => simp only [c2] at e; cases e
  · cases e
def gMod : D → D → Option D
  | .int i, .int j => match decide (0 < j) with
    | true => oI (i % j)
    | false => none
  | _, _ => none
theorem g_mod : G2 K dk (rI (fun _ j => 0 < j) fun i j => .int (i % j)) gMod := by
  intro H Z x y z v u A B Q δ on hd rx ry e q
  unfold gMod at e
  split at e
  · rename_i i j
    cases rx
    cases ry
    cases c : decide (0 < j) with
    | true =>
      rw [c] at e
      simp only [oI_eq] at e
      cases e
      exact ⟨_, _, rfl, rfl, of_decide_eq_true c, q.here on (.int _)⟩
    | false => rw [c] at e; cases e
  · cases e
/-! comparisons of ints -/
def gI (p : Int → Int → Bool) : D → D → Option D
  | .int i, .int j => oB (p i j)
  | _, _ => none
theorem g_int {p : Int → Int → Bool} : G2 K dk (rI0 fun i j => .bl (p i j)) (gI p) := by
  intro H Z x y z v u A B Q δ on hd rx ry e q
  unfold gI at e
  split at e
  · cases rx
    cases ry
    rw [oB_eq] at e
    cases e
    exact ⟨_, _, rfl, rfl, q.here on (.bl _)⟩
  · cases e
abbrev gLt := gI fun i j => decide (i < j)
abbrev gLe := gI fun i j => decide (i ≤ j)
abbrev gGt := gI fun i j => decide (j < i)
abbrev gGe := gI fun i j => decide (j ≤ i)
/-- is None, is not None; is True, is False -/
def gIs : D → D → Option D
  | .atm .non, .atm .non => some (.bl true)
  | .int _, .atm .non => some (.bl false)
  | .seq _ _, .atm .non => some (.bl false)
  | .atm (.bl _), .atm .non => some (.bl false)
  | .atm (.str _), .atm .non => some (.bl false)
  | .atm (.bl a), .atm (.bl b) => oB (decide (a = b))
  | _, _ => none
def gIsN : D → D → Option D
  | .atm .non, .atm .non => some (.bl false)
  | .int _, .atm .non => some (.bl true)
  | .seq _ _, .atm .non => some (.bl true)
  | .atm (.bl _), .atm .non => some (.bl true)
  | .atm (.str _), .atm .non => some (.bl true)
  | .atm (.bl a), .atm (.bl b) => oB (!decide (a = b))
  | _, _ => none
def rIs2 : R2 := fun x y H Q => (y = .non ∧ Q (.bl (decide (x = .non))) H) ∨ rIsB x y H Q
def rIsN2 : R2 := fun x y H Q => (y = .non ∧ Q (.bl (!decide (x = .non))) H) ∨ rNotB x y H Q
theorem op_is2 {X : Cx} : OpR X (compareOp .Is) rIs2 := op_isN.or op_isBl
theorem op_isN2 {X : Cx} : OpR X (compareOp .IsNot) rIsN2 := op_notN.or op_notBl
theorem g_is : G2 K dk rIs2 gIs := by
  intro H Z x y z v u A B Q δ on hd rx ry e q
  unfold gIs at e
  split at e
  · cases rx; cases ry; cases e; exact .inl ⟨rfl, q.here on (.bl _)⟩
  · cases rx; cases ry; cases e; exact .inl ⟨rfl, q.here on (.bl _)⟩
  · cases rx <;> (cases ry; cases e; exact .inl ⟨rfl, q.here on (.bl _)⟩)
  · cases rx; cases ry; cases e; exact .inl ⟨rfl, q.here on (.bl _)⟩
  · cases rx; cases ry; cases e; exact .inl ⟨rfl, q.here on (.bl _)⟩
  · cases rx; cases ry; rw [oB_eq] at e; cases e; exact .inr ⟨_, _, rfl, rfl, q.here on (.bl _)⟩
  · cases e
theorem g_isN : G2 K dk rIsN2 gIsN := by
  intro H Z x y z v u A B Q δ on hd rx ry e q
  unfold gIsN at e
  split at e
  · cases rx; cases ry; cases e; exact .inl ⟨rfl, q.here on (.bl _)⟩
  · cases rx; cases ry; cases e; exact .inl ⟨rfl, q.here on (.bl _)⟩
  · cases rx <;> (cases ry; cases e; exact .inl ⟨rfl, q.here on (.bl _)⟩)
  · cases rx; cases ry; cases e; exact .inl ⟨rfl, q.here on (.bl _)⟩
  · cases rx; cases ry; cases e; exact .inl ⟨rfl, q.here on (.bl _)⟩
  · cases rx; cases ry; rw [oB_eq] at e; cases e; exact .inr ⟨_, _, rfl, rfl, q.here on (.bl _)⟩
  · cases e

/-! ## == of data -/
mutual
def toPy : D → PyData
  | .int i => .int i
  | .atm .non => .none
  | .atm (.bl b) => .bool b
  | .atm (.str n) => .str (strTab n)
  | .atm _ => .dict []
  | .seq .tup xs => .tuple (toPys xs)
  | .seq .lst xs => .list (toPys xs)
  | .seq .ols xs => .list (toPys xs)
  | .seq _ _ => .dict []
def toPys : List D → List PyData
  | [] => []
  | d :: ds => toPy d :: toPys ds
end
mutual
/-- data of at most that depth -/
def okD : Nat → D → Bool
  | _, .int _ => true
  | _, .atm .non => true
  | _, .atm (.bl _) => true
  | _, .atm (.str n) => Nat.blt n 43
  | _, .atm _ => false
  | 0, .seq _ _ => false
  | n + 1, .seq .tup xs => okDs n xs
  | n + 1, .seq .lst xs => okDs n xs
  | n + 1, .seq .ols xs => okDs n xs
  | _ + 1, .seq _ _ => false
def okDs : Nat → List D → Bool
  | _, [] => true
  | n, d :: ds => match okD n d with
    | true => okDs n ds
    | false => false
end
theorem strTab_ok : ∀ n < 43, PyData.strOk (strTab n) = true := by decide +kernel
end
end Zv
namespace Zv
open PySem PySem.Spec PyProof.Rows L2
section
variable {K : PySem.W.Frag} {dk : Addr} {H : Hp} {Z : Addr → Prop}
mutual
theorem okD_lay : ∀ {n : Nat} {d : D}, okD n d = true → (toPy d).canLay0 = true ∧ (toPy d).depth ≤ n
  | n, .int i, _ => by simp [toPy, PyData.canLay0, PyData.depth]
  | n, .atm .non, _ => by simp [toPy, PyData.canLay0, PyData.depth]
  | n, .atm (.bl b), _ => by simp [toPy, PyData.canLay0, PyData.depth]
  | n, .atm (.str m), h => by
    simp only [okD] at h
    have hm : m < 43 := Nat.le_of_ble_eq_true (n := m + 1) (m := 43) h
    simp [toPy, PyData.canLay0, PyData.depth, strTab_ok m hm]
  | n, .atm .un, h => by simp [okD] at h
  | n, .atm .dk, h => by simp [okD] at h
  | 0, .seq k xs, h => by simp [okD] at h
  | n + 1, .seq .tup xs, h => by
    simp only [okD] at h
    have := okDs_lay h
    simp [toPy, PyData.canLay0, PyData.depth, this.1, this.2]
  | n + 1, .seq .lst xs, h => by
    simp only [okD] at h
    have := okDs_lay h
    simp [toPy, PyData.canLay0, PyData.depth, this.1, this.2]
  | n + 1, .seq .ols xs, h => by
    simp only [okD] at h
    have := okDs_lay h
    simp [toPy, PyData.canLay0, PyData.depth, this.1, this.2]
  | n + 1, .seq .dic xs, h => by simp [okD] at h
  | n + 1, .seq .odc xs, h => by simp [okD] at h
  | n + 1, .seq .dit xs, h => by simp [okD] at h
  | n + 1, .seq .odt xs, h => by simp [okD] at h
  | n + 1, .seq .ldc xs, h => by simp [okD] at h
  | n + 1, .seq .ldt xs, h => by simp [okD] at h
theorem okDs_lay : ∀ {n : Nat} {ds : List D}, okDs n ds = true → PyData.canLayAll0 (toPys ds) = true ∧ PyData.depthAll (toPys ds) ≤ n
  | n, [], _ => by simp [toPys, PyData.canLayAll0, PyData.depthAll]
  | n, d :: ds, h => by
    simp only [okDs] at h
    cases c : okD n d with
    | false => rw [c] at h; cases h
    | true =>
      rw [c] at h
      have h1 := okD_lay c
      have h2 := okDs_lay h
      simp only [toPys, PyData.canLayAll0, PyData.depthAll, h1.1, h2.1, Bool.and_self, true_and]
      exact Nat.max_le.mpr ⟨h1.2, h2.2⟩
end
theorem okD_shaped {n : Nat} {d : D} (h : okD n d = true) (hn : n ≤ 64) : SeqAt.shaped (toPy d) = true := by
  obtain ⟨a, b⟩ := okD_lay h
  unfold SeqAt.shaped
  rw [a, Bool.true_and]
  exact decide_eq_true (Nat.le_trans b hn)
theorem okDs_shapedL {n : Nat} {ds : List D} (h : okDs n ds = true) (hn : n + 1 ≤ 64) : SeqAt.shaped (.list (toPys ds)) = true := by
  obtain ⟨a, b⟩ := okDs_lay h
  unfold SeqAt.shaped
  simp only [PyData.canLay0, a, Bool.true_and, PyData.depth]
  exact decide_eq_true (by omega)
mutual
theorem Rep.dp : ∀ {n : Nat} {d : D} {v : V} {A : List Addr}, okD n d = true → Rep K dk H Z d v A → Dp K H v (toPy d)
  | _, _, _, _, _, .int i => by unfold toPy; exact .int i
  | _, _, _, _, _, .non => by unfold toPy; exact .non
  | _, _, _, _, _, .bl b => by unfold toPy; exact .bl b
  | _, _, _, _, _, .str n => by unfold toPy; exact .str _
  | _, _, _, _, h, .dk => by simp [okD] at h
  | 0, _, _, _, h, .tup t r => by simp [okD] at h
  | n + 1, _, _, _, h, .tup t r => by
    unfold toPy
    exact .tup t.sq (r.dps (by simpa only [okD] using h))
  | 0, _, _, _, h, .lst z n e r => by simp [okD] at h
  | n + 1, _, _, _, h, .lst z nn e r => by
    unfold toPy
    exact .lst (.inl (.inl e)) (r.dps (by simpa only [okD] using h))
  | 0, _, _, _, h, .ols n e r => by simp [okD] at h
  | n + 1, _, _, _, h, .ols nn e r => by
    unfold toPy
    exact .lst (.inl (.inl e)) (r.dps (by simpa only [okD] using h))
  | 0, _, _, _, h, .dicK z n e r => by simp [okD] at h
  | n + 1, _, _, _, h, .dicK z nn e r => by simp [okD] at h
  | 0, _, _, _, h, .odcK n e r => by simp [okD] at h
  | n + 1, _, _, _, h, .odcK nn e r => by simp [okD] at h
  | 0, _, _, _, h, .dicT z n e r => by simp [okD] at h
  | n + 1, _, _, _, h, .dicT z nn e r => by simp [okD] at h
  | 0, _, _, _, h, .odcT n e r => by simp [okD] at h
  | n + 1, _, _, _, h, .odcT nn e r => by simp [okD] at h
  | 0, _, _, _, h, .ldcK z n e r => by simp [okD] at h
  | n + 1, _, _, _, h, .ldcK z nn e r => by simp [okD] at h
  | 0, _, _, _, h, .ldcT z n e r => by simp [okD] at h
  | n + 1, _, _, _, h, .ldcT z nn e r => by simp [okD] at h
theorem Reps.dps : ∀ {n : Nat} {ds : List D} {vs : List V} {A : List Addr}, okDs n ds = true → Reps K dk H Z ds vs A → DpAll K H vs (toPys ds)
  | _, _, _, _, _, .nil => by unfold toPys; exact .nil
  | n, d :: _, _, _, h, .cons a r => by
    simp only [okDs] at h
    unfold toPys
    cases c : okD n d with
    | false => rw [c] at h; cases h
    | true =>
      rw [c] at h
      exact .cons (a.dp c) (r.dps h)
end
end
mutual
/-- equality of data; none where it is not told -/
def deq : D → D → Option Bool
  | .int i, .int j => some (decide (i = j))
  | .atm .non, .atm .non => some true
  | .atm (.bl a), .atm (.bl b) => some (a == b)
  | .atm (.str n), .atm (.str m) => match Nat.beq n m with
    | true => some true
    | false => none
  | .seq .tup xs, .seq .tup ys => deqs xs ys
  | .seq .lst xs, .seq .lst ys => deqs xs ys
  | .seq .lst xs, .seq .ols ys => deqs xs ys
  | .seq .ols xs, .seq .lst ys => deqs xs ys
  | .seq .ols xs, .seq .ols ys => deqs xs ys
  | .seq .tup _, .seq .lst _ => some false
  | .seq .tup _, .seq .ols _ => some false
  | .seq .lst _, .seq .tup _ => some false
  | .seq .ols _, .seq .tup _ => some false
  | .seq .tup _, .int _ => some false
  | .seq .lst _, .int _ => some false
  | .seq .ols _, .int _ => some false
  | .int _, .seq .tup _ => some false
  | .int _, .seq .lst _ => some false
  | .int _, .seq .ols _ => some false
  | .seq .tup _, .atm .non => some false
  | .seq .lst _, .atm .non => some false
  | .seq .ols _, .atm .non => some false
  | .atm .non, .seq .tup _ => some false
  | .atm .non, .seq .lst _ => some false
  | .atm .non, .seq .ols _ => some false
  | .int _, .atm .non => some false
  | .atm .non, .int _ => some false
  | .seq .tup _, .atm (.str _) => some false
  | .seq .lst _, .atm (.str _) => some false
  | .seq .ols _, .atm (.str _) => some false
  | .atm .non, .atm (.str _) => some false
  | _, _ => none
def deqs : List D → List D → Option Bool
  | [], [] => some true
  | x :: xs, y :: ys => match deq x y with
    | some true => deqs xs ys
    | r => r
  | [], _ :: _ => some false
  | _ :: _, [] => some false
end
mutual
theorem deq_eqv : ∀ {x y : D} {b : Bool}, deq x y = some b → PyData.eqv (toPy x) (toPy y) = b := by
  intro x y b h
  unfold deq at h
  split at h
  · cases h; simp only [toPy, PyData.eqv]; exact (Bool.beq_eq_decide_eq _ _)
  · cases h; simp only [toPy, PyData.eqv]
  · cases h; simp only [toPy, PyData.eqv]
  · rename_i n m
    cases c : Nat.beq n m with
    | false => rw [c] at h; cases h
    | true =>
      rw [c] at h
      cases h
      have e := Nat.eq_of_beq_eq_true c
      subst e
      simp only [toPy, PyData.eqv, beq_self_eq_true]
  all_goals first
    | (cases h; simp only [toPy, PyData.eqv]; done)
    | (simp only [toPy, PyData.eqv]; exact deqs_eqv h)
    | cases h
theorem deqs_eqv : ∀ {xs ys : List D} {b : Bool}, deqs xs ys = some b → PyData.eqvAll (toPys xs) (toPys ys) = b := by
  intro xs ys b h
  cases xs with
  | nil =>
    cases ys with
    | nil => unfold deqs at h; cases h; simp only [toPys, PyData.eqvAll]
    | cons y ys => unfold deqs at h; cases h; simp only [toPys, PyData.eqvAll]
  | cons x xs =>
    cases ys with
    | nil => unfold deqs at h; cases h; simp only [toPys, PyData.eqvAll]
    | cons y ys =>
      unfold deqs at h
      simp only [toPys, PyData.eqvAll]
      cases c : deq x y with
      | none => rw [c] at h; cases h
      | some b' =>
        rw [c] at h
        rw [deq_eqv c]
        cases b' with
        | false => cases h; rfl
        | true => rw [deqs_eqv h, Bool.true_and]
end

def negB (neg b : Bool) : Bool := match neg with
  | true => !b
  | false => b
def gEqB (neg : Bool) (x y : D) : Option D := match okD 60 x with
  | true => match okD 60 y with
    | true => match deq x y with
      | some b => oB (negB neg b)
      | none => none
    | false => none
  | false => none
abbrev gEq := gEqB false
abbrev gNe := gEqB true
section
variable {K : PySem.W.Frag} {dk : Addr}
theorem gEqB_some {neg : Bool} {x y z : D} (e : gEqB neg x y = some z) : okD 60 x = true ∧ okD 60 y = true ∧ ∃ b, deq x y = some b ∧ z = .bl (negB neg b) := by
  unfold gEqB at e
  cases c1 : okD 60 x with
  | false => rw [c1] at e; cases e
  | true =>
    rw [c1] at e
    cases c2 : okD 60 y with
    | false => simp only [c2] at e; cases e
    | true =>
      simp only [c2] at e
      cases c3 : deq x y with
      | none => simp only [c3] at e; cases e
      | some b =>
        simp only [c3, oB_eq] at e
        cases e
        exact ⟨rfl, rfl, b, rfl, rfl⟩
theorem g_eq : G2 K dk (rEqD K) gEq := by
  intro H Z x y z v u A B Q δ on hd rx ry e q
  obtain ⟨c1, c2, b, c3, rfl⟩ := gEqB_some e
  exact ⟨_, _, rx.dp c1, ry.dp c2, okD_shaped c1 (by decide), okD_shaped c2 (by decide), by rw [deq_eqv c3]; exact q.here on (.bl _)⟩
theorem g_ne : G2 K dk (rNeD K) gNe := by
  intro H Z x y z v u A B Q δ on hd rx ry e q
  obtain ⟨c1, c2, b, c3, rfl⟩ := gEqB_some e
  exact ⟨_, _, rx.dp c1, ry.dp c2, okD_shaped c1 (by decide), okD_shaped c2 (by decide), by rw [deq_eqv c3]; exact q.here on (.bl _)⟩
end

/-! ## in: a dict, a list, a tuple of ints -/
/-- an item equal to y -/
def dmem (y : D) : List D → Option Bool
  | [] => some false
  | x :: xs => match deq x y with
    | some true => some true
    | some false => dmem y xs
    | none => none
theorem dmem_any {y : D} : ∀ {xs : List D} {b : Bool}, dmem y xs = some b → (toPys xs).any (fun z => PyData.eqv z (toPy y)) = b
  | [], b, h => by unfold dmem at h; cases h; simp [toPys]
  | x :: xs, b, h => by
    unfold dmem at h
    cases c : deq x y with
    | none => rw [c] at h; cases h
    | some b' =>
      rw [c] at h
      simp only [toPys, List.any_cons, deq_eqv c]
      cases b' with
      | true => cases h; rfl
      | false => rw [dmem_any h, Bool.false_or]
def isI : D → Bool
  | .int _ => true
  | _ => false
def imem (y : D) : List D → Bool
  | [] => false
  | x :: xs => match x, y with
    | .int i, .int j => match decide (i = j) with
      | true => true
      | false => imem y xs
    | _, _ => false
/-- keys -/
def keq : List D → List D → Bool
  | [], [] => true
  | .int i :: xs, .int j :: ys => match decide (i = j) with
    | true => keq xs ys
    | false => false
  | _, _ => false
def isKeys : List D → Bool
  | [] => true
  | .int _ :: xs => isKeys xs
  | _ :: _ => false
/-- the value at a key: an int, a tuple of ints -/
def lookI (j : Int) : List D → Option D
  | [] => none
  | .seq .tup [.int i, d] :: es => match decide (i = j) with
    | true => some d
    | false => lookI j es
  | _ :: _ => none
def lookT (q : List D) : List D → Option D
  | [] => none
  | .seq .tup [.seq .tup k, d] :: es => match keq k q with
    | true => some d
    | false => lookT q es
  | _ :: _ => none
section
variable {K : PySem.W.Frag} {dk : Addr} {H : Hp} {Z : Addr → Prop}
theorem atKeys_int : ∀ {q : List D} {ks : List Key}, atKeys q = some ks → isKeys q = true ∧ ∀ {q' : List D} {ks' : List Key}, atKeys q' = some ks' → (keq q q' = decide (ks = ks'))
  | [], ks, h => by
    cases h
    refine ⟨rfl, fun {q' ks'} h' => ?_⟩
    cases q' with
    | nil => cases h'; rfl
    | cons d q' =>
      unfold atKeys at h'
      split at h'
      · cases h'; simp [keq]
      · cases h'
  | d :: q, ks, h => by
    unfold atKeys at h
    split at h
    · rename_i k ks1 e1 e2
      cases h
      have ih := atKeys_int e2
      cases d with
      | int i =>
        cases e1
        refine ⟨ih.1, fun {q' ks'} h' => ?_⟩
        cases q' with
        | nil => cases h'; simp [keq]
        | cons d' q' =>
          unfold atKeys at h'
          split at h'
          · rename_i k' ks1' e1' e2'
            cases h'
            cases d' with
            | int j =>
              cases e1'
              have ih2 := ih.2 e2'
              unfold keq
              by_cases hij : i = j
              · subst hij
                simp [ih2]
              · rw [decide_eq_false hij]
                simp [hij]
            | _ => cases e1'
          · cases h'
      | _ => cases e1
    · cases h
theorem isKeys_at : ∀ {q : List D}, isKeys q = true → ∃ ks, atKeys q = some ks
  | [], _ => ⟨[], rfl⟩
  | .int i :: q, h => by
    obtain ⟨ks, e⟩ := isKeys_at (q := q) h
    exact ⟨.inl i :: ks, by simp [atKeys, atKey, e]⟩
  | .atm _ :: q, h => by cases h
  | .seq _ _ :: q, h => by cases h
/-- what stands for a key tuple -/
theorem Reps.keys : ∀ {q : List D} {ks : List Key} {vs : List V} {A : List Addr}, atKeys q = some ks → Reps K dk H Z q vs A → vs = ks.map kV
  | _, ks, _, _, e, .nil => by cases e; rfl
  | d :: q, ks, _, _, e, .cons a r => by
    unfold atKeys at e
    split at e
    · rename_i k ks1 e1 e2
      cases e
      have ih := r.keys e2
      subst ih
      cases d with
      | int i => cases e1; cases a; rfl
      | _ => cases e1
    · cases e
theorem EntK.look {i : Int} : ∀ {es : List D} {kvs : List (Key × V)} {A : List Addr}, EntK K dk H Z es kvs A → (lookI i es = none ∧ valV kvs (.inl i) = none) ∨ ∃ d v B, lookI i es = some d ∧ valV kvs (.inl i) = some v ∧ Rep K dk H Z d v B ∧ ∀ a ∈ B, a ∈ A
  | _, _, _, .nil => .inl ⟨rfl, rfl⟩
  | _, _, _, .cons (k := k) e a r => by
    cases k with
    | int j =>
      cases e
      unfold lookI
      by_cases h : j = i
      · subst h
        refine .inr ⟨_, _, _, ?_, valV_pos rfl, a, fun x m => List.mem_append_left _ m⟩
        simp
      · rw [decide_eq_false h]
        rw [valV_neg (fun z => h (Sum.inl.inj z))]
        rcases r.look (i := i) with x | ⟨d, v, B, e1, e2, r2, s⟩
        · exact .inl x
        · exact .inr ⟨d, v, B, e1, e2, r2, fun x m => List.mem_append_right _ (s x m)⟩
    | _ => cases e
theorem EntT.look {q : List D} {ks : List Key} (hq : atKeys q = some ks) : ∀ {es : List D} {kvs : List (List Key × V)} {A : List Addr}, EntT K dk H Z es kvs A → (lookT q es = none ∧ valV kvs ks = none) ∨ ∃ d v B, lookT q es = some d ∧ valV kvs ks = some v ∧ Rep K dk H Z d v B ∧ ∀ a ∈ B, a ∈ A
  | _, _, _, .nil => .inl ⟨rfl, rfl⟩
  | _, _, _, .cons (k := k) (q := q') e a r => by
    unfold lookT
    have ek := (atKeys_int e).2 hq
    rw [ek]
    by_cases h : q' = ks
    · subst h
      refine .inr ⟨_, _, _, ?_, valV_pos rfl, a, fun x m => List.mem_append_left _ m⟩
      simp
    · rw [decide_eq_false h]
      rw [valV_neg h]
      rcases r.look hq with x | ⟨d, v, B, e1, e2, r2, s⟩
      · exact .inl x
      · exact .inr ⟨d, v, B, e1, e2, r2, fun x m => List.mem_append_right _ (s x m)⟩
end
/-- the value of a dict at a key: some none where it is not there -/
def dgetD (s : SK) (es : List D) (k : D) : Option (Option D) := match s, k with
  | .dic, .int i => some (lookI i es)
  | .odc, .int i => some (lookI i es)
  | .dit, .seq .tup q => match isKeys q with
    | true => some (lookT q es)
    | false => none
  | .odt, .seq .tup q => match isKeys q with
    | true => some (lookT q es)
    | false => none
  | .ldc, .int i => some (lookI i es)
  | .ldt, .seq .tup q => match isKeys q with
    | true => some (lookT q es)
    | false => none
  | _, _ => none
section
variable {K : PySem.W.Frag} {dk : Addr} {H : Hp} {Z : Addr → Prop}
def Found (K : PySem.W.Frag) (dk : Addr) (H : Hp) (Z : Addr → Prop) (A : List Addr) (r : Option D) (o : Option V) : Prop := match r with
  | none => o = none
  | some d => ∃ w C, o = some w ∧ Rep K dk H Z d w C ∧ ∀ a ∈ C, a ∈ A
/-- looking up -/
theorem Rep.dget {s : SK} {es : List D} {k : D} {r : Option D} {v u : V} {A B : List Addr} (rd : Rep K dk H Z (.seq s es) v A) (rk : Rep K dk H Z k u B) (e : dgetD s es k = some r) :
    ∃ a o, v = .ref a ∧ DGet H a u o ∧ Found K dk H Z A r o := by
  have fromK : ∀ {i : Int} {kvs : List (Key × V)} {C : List Addr}, EntK K dk H Z es kvs C → (∀ x ∈ C, x ∈ A) → Found K dk H Z A (lookI i es) (valV kvs (.inl i)) := by
    intro i kvs C ents sub
    rcases ents.look (i := i) with ⟨x1, x2⟩ | ⟨d, w, C', x1, x2, x3, x4⟩
    · rw [x1]; exact x2
    · rw [x1]; exact ⟨w, C', x2, x3, fun y m => sub y (x4 y m)⟩
  have fromT : ∀ {q : List D} {ks : List Key} {kvs : List (List Key × V)} {C : List Addr}, atKeys q = some ks → EntT K dk H Z es kvs C → (∀ x ∈ C, x ∈ A) → Found K dk H Z A (lookT q es) (valV kvs ks) := by
    intro q ks kvs C hq ents sub
    rcases ents.look hq with ⟨x1, x2⟩ | ⟨d, w, C', x1, x2, x3, x4⟩
    · rw [x1]; exact x2
    · rw [x1]; exact ⟨w, C', x2, x3, fun y m => sub y (x4 y m)⟩
  unfold dgetD at e
  split at e
  · cases e; cases rk
    cases rd with
    | dicK z n ea ents => exact ⟨_, _, rfl, (.inl ⟨_, .inl _, ea, rfl, rfl⟩), fromK ents fun _ m => m⟩
  · cases e; cases rk
    cases rd with
    | odcK n ea ents => exact ⟨_, _, rfl, (.inl ⟨_, .inl _, .inl ea, rfl, rfl⟩), fromK ents fun _ m => List.mem_cons_of_mem _ m⟩
  · rename_i q
    cases c : isKeys q with
    | false => rw [c] at e; cases e
    | true =>
      rw [c] at e; cases e
      obtain ⟨ks, hq⟩ := isKeys_at c
      obtain ⟨b, us, rfl, nb, eb, rs⟩ := rk.tupAt
      have ek := rs.keys hq
      subst ek
      cases rd with
      | dicT z n ea ents => exact ⟨_, _, rfl, (.inr ⟨_, _, _, ea, rfl, eb, rfl⟩), fromT hq ents fun _ m => m⟩
  · rename_i q
    cases c : isKeys q with
    | false => rw [c] at e; cases e
    | true =>
      rw [c] at e; cases e
      obtain ⟨ks, hq⟩ := isKeys_at c
      obtain ⟨b, us, rfl, nb, eb, rs⟩ := rk.tupAt
      have ek := rs.keys hq
      subst ek
      cases rd with
      | odcT n ea ents => exact ⟨_, _, rfl, (.inr ⟨_, _, _, .inl ea, rfl, eb, rfl⟩), fromT hq ents fun _ m => List.mem_cons_of_mem _ m⟩
  · cases e; cases rk
    cases rd with
    | ldcK z n ea ents => exact ⟨_, _, rfl, (.inl ⟨_, .inl _, .inr ⟨_, ea⟩, rfl, rfl⟩), fromK ents fun _ m => m⟩
  · rename_i q
    cases c : isKeys q with
    | false => rw [c] at e; cases e
    | true =>
      rw [c] at e; cases e
      obtain ⟨ks, hq⟩ := isKeys_at c
      obtain ⟨b, us, rfl, nb, eb, rs⟩ := rk.tupAt
      have ek := rs.keys hq
      subst ek
      cases rd with
      | ldcT z n ea ents => exact ⟨_, _, rfl, (.inr ⟨_, _, _, .inr ⟨_, ea⟩, rfl, eb, rfl⟩), fromT hq ents fun _ m => m⟩
  · cases e
end
/-- x in y -/
def gInB (neg : Bool) (x y : D) : Option D := match y with
  | .seq .tup xs => match isI x && xs.all isI with
    | true => oB (negB neg (imem x xs))
    | false => none
  | .seq .lst xs => match okD 60 x && okDs 59 xs with
    | true => match dmem x xs with
      | some b => oB (negB neg b)
      | none => none
    | false => none
  | .seq .ols xs => match okD 60 x && okDs 59 xs with
    | true => match dmem x xs with
      | some b => oB (negB neg b)
      | none => none
    | false => none
  | .seq s es => match dgetD s es x with
    | some r => oB (negB neg r.isSome)
    | none => none
  | _ => none
def rInDic (neg : Bool) : R2 := fun y x H Q => ∃ a o, x = .ref a ∧ DGet H a y o ∧ Q (.bl (negB neg o.isSome)) H
section
variable {X : Cx}
theorem op_inDic (hu : X.A.units + 1 < cLine) : OpR X (compareOp .In) (rInDic false) := by
  intro pins s σ H y x u v Q I ry rx h
  obtain ⟨a, o, rfl, g, q⟩ := h
  cases rx
  exact d_in hu I g ry fun s' J => ⟨.bl _, H, J, rfl, q⟩
theorem op_notInDic (hu : X.A.units + 1 < cLine) : OpR X (compareOp .NotIn) (rInDic true) := by
  intro pins s σ H y x u v Q I ry rx h
  obtain ⟨a, o, rfl, g, q⟩ := h
  cases rx
  exact d_notIn hu I g ry fun s' J => ⟨.bl _, H, J, rfl, q⟩
def rIn3 (K : PySem.W.Frag) : R2 := fun x y H Q => rIn K false x y H Q ∨ (rInD K x y H Q ∨ rInDic false x y H Q)
def rNotIn3 (K : PySem.W.Frag) : R2 := fun x y H Q => rIn K true x y H Q ∨ (rNotInD K x y H Q ∨ rInDic true x y H Q)
theorem op_in3 (hu : X.A.units + 65 < cLine) : OpR X (compareOp .In) (rIn3 X.K) := op_in_seq.or ((op_inD hu).or (op_inDic (by omega)))
theorem op_notIn3 (hu : X.A.units + 65 < cLine) : OpR X (compareOp .NotIn) (rNotIn3 X.K) := op_notIn_seq.or ((op_notInD hu).or (op_notInDic (by omega)))
end
section
variable {K : PySem.W.Frag} {dk : Addr} {H : Hp} {Z : Addr → Prop}
theorem isI_flat {x : D} {v : V} {A : List Addr} (h : isI x = true) (r : Rep K dk H Z x v A) : ∃ i, x = .int i ∧ v = .int i := by
  cases x with
  | int i => cases r; exact ⟨i, rfl, rfl⟩
  | _ => cases h
theorem allI_flat {j : Int} : ∀ {xs : List D} {vs : List V} {A : List Addr}, xs.all isI = true → Reps K dk H Z xs vs A → vs.all flatV = true ∧ inV (.int j) vs = imem (.int j) xs
  | _, _, _, _, .nil => ⟨rfl, rfl⟩
  | _, _, _, h, .cons a r => by
    simp only [List.all_cons, Bool.and_eq_true] at h
    obtain ⟨i, rfl, rfl⟩ := isI_flat h.1 a
    have ih := allI_flat (j := j) h.2 r
    refine ⟨?_, ?_⟩
    · rw [List.all_cons, ih.1]; rfl
    · have e2 := ih.2
      unfold inV at e2 ⊢
      rw [List.any_cons, e2]
      have e3 : ∀ ds : List D, imem (.int j) (.int i :: ds) = match decide (i = j) with | true => true | false => imem (.int j) ds := fun ds => by
        conv => lhs; unfold imem
      rw [e3]
      by_cases hij : i = j
      · subst hij; simp [eqV]
      · rw [decide_eq_false hij]; simp [eqV, hij]
theorem gInB_seq {neg : Bool} {x z : D} {xs : List D} (e : (match okD 60 x && okDs 59 xs with | true => (match dmem x xs with | some b => oB (negB neg b) | none => none) | false => none) = some z) :
    okD 60 x = true ∧ okDs 59 xs = true ∧ ∃ b, dmem x xs = some b ∧ z = .bl (negB neg b) := by
  cases c : okD 60 x && okDs 59 xs with
  | false => rw [c] at e; cases e
  | true =>
    rw [c] at e
    simp only [Bool.and_eq_true] at c
    cases c3 : dmem x xs with
    | none => simp only [c3] at e; cases e
    | some b =>
      simp only [c3, oB_eq] at e
      cases e
      exact ⟨c.1, c.2, b, rfl, rfl⟩
theorem gIn_any {neg : Bool} {x y z : D} {v u : V} {A B : List Addr} (rx : Rep K dk H Z x v A) (ry : Rep K dk H Z y u B) (e : gInB neg x y = some z) :
    ∃ b, z = .bl (negB neg b) ∧ ((∃ p xs, u = .ref p ∧ (SqL K H p xs ∨ SqT K H p xs) ∧ flatV v = true ∧ xs.all flatV = true ∧ inV v xs = b) ∨
      (∃ d ds, Dp K H v d ∧ Dp K H u (.list ds) ∧ SeqAt.shaped d = true ∧ SeqAt.shaped (.list ds) = true ∧ (ds.any fun z => PyData.eqv z d) = b) ∨ ∃ a o, u = .ref a ∧ DGet H a v o ∧ o.isSome = b) := by
  unfold gInB at e
  split at e
  · rename_i xs
    cases c : isI x && xs.all isI with
    | false => rw [c] at e; cases e
    | true =>
      rw [c, oB_eq] at e
      cases e
      simp only [Bool.and_eq_true] at c
      obtain ⟨i, rfl, rfl⟩ := isI_flat c.1 rx
      obtain ⟨b, us, rfl, nb, eb, rs⟩ := ry.tupAt
      have h := allI_flat (j := i) c.2 rs
      exact ⟨_, rfl, .inl ⟨b, us, rfl, .inr (.inl (.inl eb)), rfl, h.1, h.2⟩⟩
  · rename_i xs
    obtain ⟨c1, c2, b, c3, rfl⟩ := gInB_seq e
    refine ⟨b, rfl, .inr (.inl ⟨_, toPys xs, rx.dp c1, ?_, okD_shaped c1 (by decide), okDs_shapedL c2 (by decide), dmem_any c3⟩)⟩
    cases ry with
    | lst z n el rs => exact .lst (.inl (.inl el)) (rs.dps c2)
  · rename_i xs
    obtain ⟨c1, c2, b, c3, rfl⟩ := gInB_seq e
    refine ⟨b, rfl, .inr (.inl ⟨_, toPys xs, rx.dp c1, ?_, okD_shaped c1 (by decide), okDs_shapedL c2 (by decide), dmem_any c3⟩)⟩
    cases ry with
    | ols n el rs => exact .lst (.inl (.inl el)) (rs.dps c2)
  · rename_i s es _ _ _
    cases c : dgetD s es x with
    | none => rw [c] at e; cases e
    | some r =>
      rw [c] at e
      simp only [oB_eq] at e
      cases e
      obtain ⟨a, o, rfl, g, f⟩ := ry.dget rx c
      refine ⟨_, rfl, .inr (.inr ⟨a, o, rfl, g, ?_⟩)⟩
      cases r with
      | none => have : o = none := f; subst this; rfl
      | some d => obtain ⟨w, C, rfl, _⟩ := f; rfl
  · cases e
end
section
variable {K : PySem.W.Frag} {dk : Addr}
theorem g_in : G2 K dk (rIn3 K) (gInB false) := by
  intro H Z x y z v u A B Q δ on hd rx ry e q
  obtain ⟨b, rfl, h⟩ := gIn_any rx ry e
  have q' := q.here on (.bl _)
  rcases h with ⟨p, xs, rfl, h1, h2, h3, h4⟩ | ⟨d, ds, h1, h2, h3, h4, h5⟩ | ⟨a, o, rfl, h1, h2⟩
  · refine .inl ⟨p, xs, rfl, h1, h2, h3, ?_⟩
    rw [h4]; exact q'
  · refine .inr (.inl ⟨d, ds, h1, h2, h3, h4, ?_⟩)
    rw [h5]; exact q'
  · refine .inr (.inr ⟨a, o, rfl, h1, ?_⟩)
    rw [h2]; exact q'
theorem g_notIn : G2 K dk (rNotIn3 K) (gInB true) := by
  intro H Z x y z v u A B Q δ on hd rx ry e q
  obtain ⟨b, rfl, h⟩ := gIn_any rx ry e
  have q' := q.here on (.bl _)
  rcases h with ⟨p, xs, rfl, h1, h2, h3, h4⟩ | ⟨d, ds, h1, h2, h3, h4, h5⟩ | ⟨a, o, rfl, h1, h2⟩
  · refine .inl ⟨p, xs, rfl, h1, h2, h3, ?_⟩
    rw [h4]; exact q'
  · refine .inr (.inl ⟨d, ds, h1, h2, h3, h4, ?_⟩)
    rw [h5]; exact q'
  · refine .inr (.inr ⟨a, o, rfl, h1, ?_⟩)
    rw [h2]; exact q'
end
end Zv
namespace Zv
open PySem PySem.Spec PyProof.Rows L2

/-! ## argument lists -/
inductive RL where
  | ok (t : Bool) (ds : List D) (δ : List Int)
  | exc (c : Nat) (d : D) (δ : List Int)
  | err
abbrev AF := List D → List Int → RL
section
variable (K : PySem.W.Frag) (dk : Addr) (ca : Nat → Addr)
/-- to be read alone -/
def RAB (H : Hp) (Z : Addr → Prop) (r : RL) (Q : List V → Hp → Prop) (E : XK) : Prop := match r with
  | .ok _ ds δ' => ∀ vs H' Z' A, Grow dk H Z H' Z' → H' dk = some (deckO δ') → Reps K dk H' Z' ds vs A → Q vs H'
  | .exc c d δ' => RX K dk ca H Z c d δ' E
  | .err => False
/-- fresh -/
def RAV (H : Hp) (Z : Addr → Prop) (r : RL) (Q : List V → Hp → Prop) (E : XK) : Prop := match r with
  | .ok _ ds δ' => ∀ vs H' Z' A, Grow dk H Z H' Z' → H' dk = some (deckO δ') → Reps K dk H' Z' ds vs A → A.Nodup → (∀ a ∈ A, H a = none ∧ ¬ Z' a) → Q vs H'
  | .exc c d δ' => RX K dk ca H Z c d δ' E
  | .err => False
/-- frozen for a call; t: a list of the caller's is lent -/
def RAF (H : Hp) (Z : Addr → Prop) (r : RL) (Q : List V → Hp → Prop) (E : XK) : Prop := match r with
  | .ok t ds δ' => ∀ vs H' Z' Zt, Grow dk H Z H' Z' → H' dk = some (deckO δ') → Reps K dk H' Zt ds vs [] → (∀ a, Z' a → Zt a) → ZOn dk H' Zt → (t = false → ∀ a, Zt a → Z' a) → Q vs H'
  | .exc c d δ' => RX K dk ca H Z c d δ' E
  | .err => False
end
section
variable (X : Cx) (W : WX) (dk : Addr) (ca : Nat → Addr)
def CAB (es : List Expr) (f : AF) : Prop := ∃ t, PA X es t ∧ ∀ Z ρ δ σ H Q, Sx X.K dk Z ρ δ σ H → RAB X.K dk ca H Z (f ρ δ) Q (wx W σ) → t σ H Q
def CAV (es : List Expr) (f : AF) : Prop := ∃ t, PA X es t ∧ ∀ Z ρ δ σ H Q, Sx X.K dk Z ρ δ σ H → RAV X.K dk ca H Z (f ρ δ) Q (wx W σ) → t σ H Q
def CAF (es : List Expr) (f : AF) : Prop := ∃ t, PA X es t ∧ ∀ Z ρ δ σ H Q, Sx X.K dk Z ρ δ σ H → RAF X.K dk ca H Z (f ρ δ) Q (wx W σ) → t σ H Q
end
def aNil : AF := fun _ δ => .ok false [] δ
def aCons (f : EF) (g : AF) : AF := fun ρ δ => match f ρ δ with
  | .ok d δ1 => (match g ρ δ1 with
    | .ok t ds δ2 => .ok t (d :: ds) δ2
    | r => r)
  | .exc c d δ' => .exc c d δ'
  | .err => .err
/-- a fresh or shared value for a call -/
def aConsF (f : EF) (g : AF) : AF := fun ρ δ => match f ρ δ with
  | .ok d δ1 => (match g ρ δ1 with
    | .ok t ds δ2 => .ok t (fz d :: ds) δ2
    | r => r)
  | .exc c d δ' => .exc c d δ'
  | .err => .err
/-- a name for a call, lent if it is an own list -/
def aConsL (f : EF) (g : AF) : AF := fun ρ δ => match f ρ δ with
  | .ok d δ1 => (match g ρ δ1 with
    | .ok t ds δ2 => (match shr d with
      | true => .ok t (d :: ds) δ2
      | false => .ok true (fz d :: ds) δ2)
    | r => r)
  | .exc c d δ' => .exc c d δ'
  | .err => .err
section
variable {X : Cx} {W : WX} {dk : Addr} {ca : Nat → Addr} {e : Expr} {es : List Expr} {f : EF} {g : AF}
theorem cab_nil : CAB X W dk ca [] aNil := ⟨_, pa_nil, fun Z ρ δ σ H Q s h => h [] H Z [] (Grow.refl s.on) s.deck .nil⟩
theorem cav_nil : CAV X W dk ca [] aNil := ⟨_, pa_nil, fun Z ρ δ σ H Q s h => h [] H Z [] (Grow.refl s.on) s.deck .nil .nil fun a m => nomatch m⟩
theorem caf_nil : CAF X W dk ca [] aNil := ⟨_, pa_nil, fun Z ρ δ σ H Q s h => h [] H Z Z (Grow.refl s.on) s.deck .nil (fun _ z => z) s.on fun _ _ z => z⟩
theorem cab_cons (h1 : CB X W dk ca e f) (h2 : CAB X W dk ca es g) (hs : starEach (e :: es) X.env = (false, eval e X.env) :: starEach es X.env := by rfl) : CAB X W dk ca (e :: es) (aCons f g) := by
  obtain ⟨ta, pa, qa⟩ := h1
  obtain ⟨tb, pb, qb⟩ := h2
  refine ⟨_, pa_cons pa pb hs, fun Z ρ δ σ H Q s h => qa Z ρ δ σ H _ s ?_⟩
  unfold aCons at h
  cases e1 : f ρ δ with
  | err => rw [e1] at h; exact h
  | exc c d δ' => rw [e1] at h; exact h
  | ok d δ1 =>
    rw [e1] at h
    intro v H1 Z1 A1 g1 k1 r1
    refine qb Z1 ρ δ1 σ H1 _ (s.grow g1 k1) ?_
    cases e2 : g ρ δ1 with
    | err => simp only [e2] at h; exact h
    | exc c d δ' => simp only [e2] at h; exact RX.grow h g1
    | ok t ds δ2 =>
      simp only [e2] at h
      intro vs H2 Z2 A2 g2 k2 r2
      exact h (v :: vs) H2 Z2 (A1 ++ A2) (g1.trans g2) k2 (.cons (r1.mono g2.same g2.z) r2)
/-- what was fresh stays apart -/
theorem fresh_app {K : PySem.W.Frag} {H H1 H2 : Hp} {Z Z1 Z2 : Addr → Prop} {A1 A2 : List Addr} (g1 : Grow dk H Z H1 Z1) (g2 : Grow dk H1 Z1 H2 Z2) (on1 : ∀ a ∈ A1, a ≠ dk ∧ H1 a ≠ none) (on2 : ∀ a ∈ A2, a ≠ dk ∧ H2 a ≠ none)
    (n1 : A1.Nodup) (f1 : ∀ a ∈ A1, H a = none ∧ ¬ Z1 a) (n2 : A2.Nodup) (f2 : ∀ a ∈ A2, H1 a = none ∧ ¬ Z2 a) : (A1 ++ A2).Nodup ∧ ∀ a ∈ A1 ++ A2, H a = none ∧ ¬ Z2 a := by
  refine ⟨List.nodup_append.mpr ⟨n1, n2, fun a m b m' z => ?_⟩, fun a m => ?_⟩
  · subst z
    exact (on1 a m).2 (f2 a m').1
  · rcases List.mem_append.mp m with m | m
    · refine ⟨(f1 a m).1, fun z => ?_⟩
      rcases g2.new a z with z' | z'
      · exact (f1 a m).2 z'
      · exact (on1 a m).2 z'
    · exact ⟨g1.same.none_of (on2 a m).1 (f2 a m).1, (f2 a m).2⟩
theorem cav_cons (h1 : CE X W dk ca e f) (h2 : CAV X W dk ca es g) (hs : starEach (e :: es) X.env = (false, eval e X.env) :: starEach es X.env := by rfl) : CAV X W dk ca (e :: es) (aCons f g) := by
  obtain ⟨ta, pa, qa⟩ := h1
  obtain ⟨tb, pb, qb⟩ := h2
  refine ⟨_, pa_cons pa pb hs, fun Z ρ δ σ H Q s h => qa Z ρ δ σ H _ s ?_⟩
  unfold aCons at h
  cases e1 : f ρ δ with
  | err => rw [e1] at h; exact h
  | exc c d δ' => rw [e1] at h; exact h
  | ok d δ1 =>
    rw [e1] at h
    intro v H1 Z1 A1 g1 k1 r1 n1 f1
    refine qb Z1 ρ δ1 σ H1 _ (s.grow g1 k1) ?_
    cases e2 : g ρ δ1 with
    | err => simp only [e2] at h; exact h
    | exc c d δ' => simp only [e2] at h; exact RX.grow h g1
    | ok t ds δ2 =>
      simp only [e2] at h
      intro vs H2 Z2 A2 g2 k2 r2 n2 f2
      obtain ⟨n3, f3⟩ := fresh_app (K := X.K) g1 g2 r1.own r2.own n1 f1 n2 f2
      exact h (v :: vs) H2 Z2 (A1 ++ A2) (g1.trans g2) k2 (.cons (r1.mono g2.same g2.z) r2) n3 f3
/-- freezing what is fresh -/
theorem Grow.freeze {H H' : Hp} {Z Z' : Addr → Prop} {A : List Addr} (g : Grow dk H Z H' Z') (on : ∀ a ∈ A, a ≠ dk ∧ H' a ≠ none) (f : ∀ a ∈ A, H a = none) : Grow dk H Z H' (fun a => Z' a ∨ a ∈ A) where
  z := fun a z => .inl (g.z a z)
  new := fun a z => z.elim (g.new a) fun m => .inr (f a m)
  on := fun a z => z.elim (g.on a) (on a)
  same := g.same
theorem caf_cons (h1 : CE X W dk ca e f) (h2 : CAF X W dk ca es g) (hs : starEach (e :: es) X.env = (false, eval e X.env) :: starEach es X.env := by rfl) : CAF X W dk ca (e :: es) (aConsF f g) := by
  obtain ⟨ta, pa, qa⟩ := h1
  obtain ⟨tb, pb, qb⟩ := h2
  refine ⟨_, pa_cons pa pb hs, fun Z ρ δ σ H Q s h => qa Z ρ δ σ H _ s ?_⟩
  unfold aConsF at h
  cases e1 : f ρ δ with
  | err => rw [e1] at h; exact h
  | exc c d δ' => rw [e1] at h; exact h
  | ok d δ1 =>
    rw [e1] at h
    intro v H1 Z1 A1 g1 k1 r1 n1 f1
    have g1' := g1.freeze r1.own fun a m => (f1 a m).1
    have r1' := r1.fz (Z' := fun a => Z1 a ∨ a ∈ A1) (fun a z => .inl z) fun a m => .inr m
    refine qb _ ρ δ1 σ H1 _ (s.grow g1' k1) ?_
    cases e2 : g ρ δ1 with
    | err => simp only [e2] at h; exact h
    | exc c d δ' => simp only [e2] at h; exact RX.grow h g1'
    | ok t ds δ2 =>
      simp only [e2] at h
      intro vs H2 Z2 Zt g2 k2 r2 zt on ht
      exact h (v :: vs) H2 Z2 Zt (g1'.trans g2) k2 (.cons0 (r1'.mono g2.same fun a z => zt a (g2.z a z)) r2) zt on ht
theorem caf_lend (h1 : CB X W dk ca e f) (h2 : CAF X W dk ca es g) (hs : starEach (e :: es) X.env = (false, eval e X.env) :: starEach es X.env := by rfl) : CAF X W dk ca (e :: es) (aConsL f g) := by
  obtain ⟨ta, pa, qa⟩ := h1
  obtain ⟨tb, pb, qb⟩ := h2
  refine ⟨_, pa_cons pa pb hs, fun Z ρ δ σ H Q s h => qa Z ρ δ σ H _ s ?_⟩
  unfold aConsL at h
  cases e1 : f ρ δ with
  | err => rw [e1] at h; exact h
  | exc c d δ' => rw [e1] at h; exact h
  | ok d δ1 =>
    rw [e1] at h
    intro v H1 Z1 A1 g1 k1 r1
    refine qb _ ρ δ1 σ H1 _ (s.grow g1 k1) ?_
    cases e2 : g ρ δ1 with
    | err => simp only [e2] at h; exact h
    | exc c d δ' => simp only [e2] at h; exact RX.grow h g1
    | ok t ds δ2 =>
      simp only [e2] at h
      intro vs H2 Z2 Zt g2 k2 r2 zt on ht
      cases hs : shr d with
      | true =>
        simp only [hs] at h
        have eA := r1.noown hs
        subst eA
        exact h (v :: vs) H2 Z2 Zt (g1.trans g2) k2 (.cons0 (r1.mono g2.same fun a z => zt a (g2.z a z)) r2) zt on ht
      | false =>
        simp only [hs] at h
        have r1' := (r1.mono g2.same g2.z).fz (Z' := fun a => Zt a ∨ a ∈ A1) (fun a z => .inl (zt a z)) fun a m => .inr m
        refine h (v :: vs) H2 Z2 (fun a => Zt a ∨ a ∈ A1) (g1.trans g2) k2 (.cons0 r1' (r2.mono (SameD.refl _) fun a z => .inl z)) (fun a z => .inl (zt a z)) (fun a z => ?_) fun z => nomatch z
        rcases z with z | m
        · exact on a z
        · obtain ⟨x1, x2⟩ := r1.own a m
          refine ⟨x1, ?_⟩
          cases q : H1 a with
          | none => exact absurd q x2
          | some o => rw [g2.same a o x1 q]; exact fun z => nomatch z

/-! ## displays -/
def eTup (g : AF) : EF := fun ρ δ => match g ρ δ with
  | .ok _ ds δ' => (match szOk ds.length with
    | true => .ok (.tup (fzs ds)) δ'
    | false => .err)
  | .exc c d δ' => .exc c d δ'
  | .err => .err
def eLst (g : AF) : EF := fun ρ δ => match g ρ δ with
  | .ok _ ds δ' => (match szOk ds.length with
    | true => .ok (.ols ds) δ'
    | false => .err)
  | .exc c d δ' => .exc c d δ'
  | .err => .err
theorem fzs_len : ∀ ds : List D, (fzs ds).length = ds.length
  | [] => rfl
  | d :: ds => by unfold fzs; simp [fzs_len ds]
theorem ce_tup {x1} {pos : Pos} (h1 : CAV X W dk ca es g) : CE X W dk ca (.Tuple es x1 pos) (eTup g) := by
  obtain ⟨t, p, q⟩ := h1
  refine ⟨_, pe_tup p, fun Z ρ δ σ H Q s h => q Z ρ δ σ H _ s ?_⟩
  unfold eTup at h
  cases e1 : g ρ δ with
  | err => rw [e1] at h; exact h
  | exc c d δ' => rw [e1] at h; exact h
  | ok t ds δ1 =>
    rw [e1] at h
    intro vs H1 Z1 A1 g1 k1 r1 n1 f1
    cases c : szOk ds.length with
    | false => simp only [c] at h; exact h.elim
    | true =>
      simp only [c] at h
      refine ⟨by rw [← r1.len]; exact szOk_le c, fun p np => ?_⟩
      have g1' := g1.freeze r1.own fun a m => (f1 a m).1
      have r1' := r1.fzs (Z' := fun a => Z1 a ∨ a ∈ A1) (fun a z => .inl z) fun a m => .inr m
      have nd := ne_dk k1 np
      exact h _ _ _ [] (g1'.trans (Grow.upd g1'.on np)) ((upd_ne (Ne.symm nd)).trans k1) (.tup ⟨nd, upd_same⟩ (r1'.mono (SameD.upd np) fun _ z => z)) .nil fun a m => nomatch m
theorem ce_lst {pos : Pos} (h1 : CAV X W dk ca es g) : CE X W dk ca (.List es pos) (eLst g) := by
  obtain ⟨t, p, q⟩ := h1
  refine ⟨_, pe_lst p, fun Z ρ δ σ H Q s h => q Z ρ δ σ H _ s ?_⟩
  unfold eLst at h
  cases e1 : g ρ δ with
  | err => rw [e1] at h; exact h
  | exc c d δ' => rw [e1] at h; exact h
  | ok t ds δ1 =>
    rw [e1] at h
    intro vs H1 Z1 A1 g1 k1 r1 n1 f1
    cases c : szOk ds.length with
    | false => simp only [c] at h; exact h.elim
    | true =>
      simp only [c] at h
      refine ⟨by rw [← r1.len]; exact szOk_le c, fun p np => ?_⟩
      have nd := ne_dk k1 np
      refine h _ _ Z1 (p :: A1) (g1.trans (Grow.upd g1.on np)) ((upd_ne (Ne.symm nd)).trans k1) (.ols nd upd_same (r1.mono (SameD.upd np) fun _ z => z)) (List.nodup_cons.mpr ⟨fun m => (r1.own p m).2 np, n1⟩) fun a m => ?_
      rcases List.mem_cons.mp m with rfl | m
      · exact ⟨g1.same.none_of nd np, fun z => (g1.on _ z).2 np⟩
      · exact f1 a m
/-- an empty dict, of int keys, of tuple keys -/
theorem ce_dicK {pos : Pos} : CE X W dk ca (.Dict [] [] pos) (eC (.odc [])) := by
  refine ⟨_, pe_dnewK, fun Z ρ δ σ H Q s h p np => ?_⟩
  have nd := ne_dk s.deck np
  refine h _ _ Z [p] (Grow.upd s.on np) ((upd_ne (Ne.symm nd)).trans s.deck) (.odcK nd upd_same .nil) (by simp) fun a m => ?_
  have : a = p := by simpa using m
  subst this
  exact ⟨np, fun z => (s.on _ z).2 np⟩
theorem ce_dicT {pos : Pos} : CE X W dk ca (.Dict [] [] pos) (eC (.odt [])) := by
  refine ⟨_, pe_dnewT, fun Z ρ δ σ H Q s h p np => ?_⟩
  have nd := ne_dk s.deck np
  refine h _ _ Z [p] (Grow.upd s.on np) ((upd_ne (Ne.symm nd)).trans s.deck) (.odcT nd upd_same .nil) (by simp) fun a m => ?_
  have : a = p := by simpa using m
  subst this
  exact ⟨np, fun z => (s.on _ z).2 np⟩
end

/-! ## calls of defs -/
mutual
/-- without a frozen list in it -/
def pureD : D → Bool
  | .int _ => true
  | .atm _ => true
  | .seq .tup xs => pureDs xs
  | .seq .ols xs => pureDs xs
  | .seq .odc xs => pureDs xs
  | .seq .odt xs => pureDs xs
  | .seq _ _ => false
def pureDs : List D → Bool
  | [] => true
  | d :: ds => match pureD d with
    | true => pureDs ds
    | false => false
end
theorem pureDs_cons {d : D} {ds : List D} (h : pureDs (d :: ds) = true) : pureD d = true ∧ pureDs ds = true := by
  unfold pureDs at h
  cases c : pureD d with
  | false => rw [c] at h; cases h
  | true => rw [c] at h; exact ⟨rfl, h⟩
section
variable {K : PySem.W.Frag} {dk : Addr} {H : Hp} {Z Z' : Addr → Prop}
mutual
theorem Rep.pure : ∀ {d : D} {v : V} {A : List Addr}, pureD d = true → Rep K dk H Z d v A → Rep K dk H Z' d v A
  | _, _, _, _, .int i => .int i
  | _, _, _, _, .non => .non
  | _, _, _, _, .bl b => .bl b
  | _, _, _, _, .str x => .str x
  | _, _, _, _, .dk => .dk
  | _, _, _, h, .tup t r => .tup t (r.pure (by simpa only [pureD] using h))
  | _, _, _, h, .lst a n e r => by simp [pureD] at h
  | _, _, _, h, .ols n e r => .ols n e (r.pure (by simpa only [pureD] using h))
  | _, _, _, h, .dicK a n e r => by simp [pureD] at h
  | _, _, _, h, .odcK n e r => .odcK n e (r.pure (by simpa only [pureD] using h))
  | _, _, _, h, .dicT a n e r => by simp [pureD] at h
  | _, _, _, h, .ldcK a n e r => by simp [pureD] at h
  | _, _, _, h, .ldcT a n e r => by simp [pureD] at h
  | _, _, _, h, .odcT n e r => .odcT n e (r.pure (by simpa only [pureD] using h))
theorem Reps.pure : ∀ {d : List D} {v : List V} {A : List Addr}, pureDs d = true → Reps K dk H Z d v A → Reps K dk H Z' d v A
  | _, _, _, _, .nil => .nil
  | _, _, _, h, .cons a r => .cons (a.pure (pureDs_cons h).1) (r.pure (pureDs_cons h).2)
theorem EntK.pure : ∀ {d : List D} {v : List (Key × V)} {A : List Addr}, pureDs d = true → EntK K dk H Z d v A → EntK K dk H Z' d v A
  | _, _, _, _, .nil => .nil
  | _, _, _, h, .cons k a r => .cons k (a.pure (by
      have h1 := (pureDs_cons h).1
      simp only [pureD] at h1
      exact (pureDs_cons (pureDs_cons h1).2).1)) (r.pure (pureDs_cons h).2)
theorem EntT.pure : ∀ {d : List D} {v : List (List Key × V)} {A : List Addr}, pureDs d = true → EntT K dk H Z d v A → EntT K dk H Z' d v A
  | _, _, _, _, .nil => .nil
  | _, _, _, h, .cons k a r => .cons k (a.pure (by
      have h1 := (pureDs_cons h).1
      simp only [pureD] at h1
      exact (pureDs_cons (pureDs_cons h1).2).1)) (r.pure (pureDs_cons h).2)
end
end
abbrev FF := List D → List Int → R
/-- the promise of a def of n parameters whose function is F -/
def Prom (K : PySem.W.Frag) (ca : Nat → Addr) (n : Nat) (F : FF) : Sp := fun vs H Q E => vs.length = n ∧ ∃ dk Z ds δ, ZOn dk H Z ∧ H dk = some (deckO δ) ∧ Reps K dk H Z ds vs [] ∧ RE K dk ca H Z (F ds δ) Q E
def eCall (F : FF) (g : AF) : EF := fun ρ δ => match g ρ δ with
  | .ok t ds δ1 => (match t with
    | false => F ds δ1
    | true => (match F ds δ1 with
      | .ok d δ2 => (match pureD d with
        | true => .ok d δ2
        | false => .err)
      | .exc c d δ2 => (match pureD d with
        | true => .exc c d δ2
        | false => .err)
      | .err => .err))
  | .exc c d δ' => .exc c d δ'
  | .err => .err
section
variable {X : Cx} {W : WX} {dk : Addr} {ca : Nat → Addr} {e : Expr} {es : List Expr} {g : AF} {F : FF} {k n : Nat} {f : Addr} {fd : FuncData} {ps : List Str} {x : Str} {p pos : Pos}
theorem call_run {t : TA} {Z : Addr → Prop} {ρ : List D} {δ : List Int} {σ : L2.St} {H : Hp} {Q : VK} (hq : ∀ Z ρ δ σ H Q, Sx X.K dk Z ρ δ σ H → RAF X.K dk ca H Z (g ρ δ) Q (wx W σ) → t σ H Q)
    (hlen : ∀ ρ δ t ds δ', g ρ δ = .ok t ds δ' → ds.length = n) (s : Sx X.K dk Z ρ δ σ H) (h : RE X.K dk ca H Z (eCall F g ρ δ) Q (wx W σ)) : tCallS (Prom X.K ca n F) (WE W) t σ H Q := by
  refine hq Z ρ δ σ H _ s ?_
  unfold eCall at h
  cases e1 : g ρ δ with
  | err => rw [e1] at h; exact h
  | exc c d δ' => rw [e1] at h; exact h
  | ok t ds δ1 =>
    rw [e1] at h
    intro vs H1 Z1 Zt g1 k1 r1 zt on ht
    refine ⟨by rw [← r1.len]; exact hlen _ _ _ _ _ e1, dk, Zt, ds, δ1, on, k1, r1, ?_⟩
    cases t with
    | false =>
      have ez : Zt = Z1 := funext fun a => propext ⟨ht rfl a, zt a⟩
      subst ez
      exact RE.grow h g1
    | true =>
      simp only at h
      have back : ∀ {H2 : Hp} {Z2 : Addr → Prop}, Grow dk H1 Zt H2 Z2 → Grow dk H Z H2 Z1 := fun {H2 Z2} g2 => g1.trans ⟨fun _ z => z, fun _ z => .inl z, fun a z => by
        obtain ⟨q1, q2⟩ := g2.on a (g2.z a (zt a z))
        exact ⟨q1, q2⟩, g2.same⟩
      cases e2 : F ds δ1 with
      | err => simp only [e2] at h; exact h
      | ok d δ2 =>
        simp only [e2] at h
        intro v H2 Z2 A g2 k2 r2 n2 f2
        cases c : pureD d with
        | false => simp only [c] at h; exact h.elim
        | true =>
          simp only [c] at h
          refine h v H2 Z1 A (back g2) k2 (r2.pure c) n2 fun a m => ⟨g1.same.none_of (r2.own a m).1 (f2 a m).1, fun z => (f2 a m).2 (g2.z a (zt a z))⟩
      | exc c d δ2 =>
        simp only [e2] at h
        intro dd v H2 Z2 g2 k2 x2 r2
        cases c' : pureD d with
        | false => simp only [c'] at h; exact h.elim
        | true =>
          simp only [c'] at h
          exact h dd v H2 Z1 (back g2) k2 x2 (r2.pure c')
/-- f(e, ..) -/
theorem ce_call (tk : Takes X W) (F1 : FnOk X.prog X.w X.K X.mg X.base (L2.CX X.prog X.w) k f fd ps (Prom X.K ca n F)) (hr : Room k X.A) (hg : Gl X x) (hm : X.mg x = some (.ref f)) (hk : PySem.W.keepIn X.K (.ref f) = true) (hb : Binds X.K fd ps [])
    (ha : CAF X W dk ca (e :: es) g) (hlen : ∀ ρ δ t ds δ', g ρ δ = .ok t ds δ' → ds.length = n) (hdb : (x == ("__debug__" : Str)) = false := by decide) (he : starEach (e :: es) X.env = (false, eval e X.env) :: starEach es X.env := by rfl) (hpl : (backTo pos (starEach es X.env)).any (·.1) = false := by rfl) :
    CE X W dk ca (.Call (.Name x p) (e :: es) [] pos) (eCall F g) := by
  obtain ⟨t, pt, qt⟩ := ha
  exact ⟨_, pe_callS F1 hr hg hm hk hb (passAt tk) pt hdb he hpl, fun Z ρ δ σ H Q s h => call_run qt hlen s h⟩
theorem pe_callS0 {CX : CXT} {sp : Sp} {E : L2.St → XK} (F : FnOk X.prog X.w X.K X.mg X.base CX k f fd ps sp) (hr : Room k X.A) (hg : Gl X x) (hm : X.mg x = some (.ref f)) (hk : PySem.W.keepIn X.K (.ref f) = true) (hb : Binds X.K fd ps []) (hx : ∀ σ, PassesAt CX X σ (E σ))
    (hdb : (x == ("__debug__" : Str)) = false := by decide) : PE X (.Call (.Name x p) [] [] pos) (tCallS sp E tNil) := by
  refine ⟨fun pins s σ H Q I h => ?_⟩
  refine wpAny_Call_Name_kw (ld_glob I hg hm ?_ hdb)
  exact PySem.W.callWith_K0 I.kIn hk (run_fnS (us := []) F hr hb (hx σ) I .nil h)
/-- f() -/
theorem ce_call0 (tk : Takes X W) (F1 : FnOk X.prog X.w X.K X.mg X.base (L2.CX X.prog X.w) k f fd ps (Prom X.K ca 0 F)) (hr : Room k X.A) (hg : Gl X x) (hm : X.mg x = some (.ref f)) (hk : PySem.W.keepIn X.K (.ref f) = true) (hb : Binds X.K fd ps [])
    (hdb : (x == ("__debug__" : Str)) = false := by decide) : CE X W dk ca (.Call (.Name x p) [] [] pos) (eCall F aNil) := by
  obtain ⟨t, pt, qt⟩ := caf_nil (X := X) (W := W) (dk := dk) (ca := ca)
  refine ⟨_, pe_callS0 F1 hr hg hm hk hb (passAt tk) hdb, fun Z ρ δ σ H Q s h => call_run (t := tNil) (g := aNil) (fun Z ρ δ σ H Q s h => h [] H Z Z (Grow.refl s.on) s.deck .nil (fun _ z => z) s.on fun _ _ z => z) (fun ρ δ t ds δ' e => by cases e; rfl) s h⟩
end
theorem aLen0 : ∀ ρ δ t ds δ', aNil ρ δ = .ok t ds δ' → ds.length = 0 := fun ρ δ t ds δ' e => by cases e; rfl
theorem aLenF {f : EF} {g : AF} {n : Nat} (h : ∀ ρ δ t ds δ', g ρ δ = .ok t ds δ' → ds.length = n) : ∀ ρ δ t ds δ', aConsF f g ρ δ = .ok t ds δ' → ds.length = n + 1 := fun ρ δ t ds δ' e => by
  unfold aConsF at e
  cases e1 : f ρ δ with
  | err => rw [e1] at e; cases e
  | exc c d δ' => rw [e1] at e; cases e
  | ok d δ1 =>
    rw [e1] at e
    cases e2 : g ρ δ1 with
    | err => simp only [e2] at e; cases e
    | exc c d δ' => simp only [e2] at e; cases e
    | ok t ds δ2 =>
      simp only [e2] at e
      cases e
      simp [h _ _ _ _ _ e2]
theorem aLenL {f : EF} {g : AF} {n : Nat} (h : ∀ ρ δ t ds δ', g ρ δ = .ok t ds δ' → ds.length = n) : ∀ ρ δ t ds δ', aConsL f g ρ δ = .ok t ds δ' → ds.length = n + 1 := fun ρ δ t ds δ' e => by
  unfold aConsL at e
  cases e1 : f ρ δ with
  | err => rw [e1] at e; cases e
  | exc c d δ' => rw [e1] at e; cases e
  | ok d δ1 =>
    rw [e1] at e
    cases e2 : g ρ δ1 with
    | err => simp only [e2] at e; cases e
    | exc c d δ' => simp only [e2] at e; cases e
    | ok t ds δ2 =>
      simp only [e2] at e
      cases e3 : shr d <;> (simp only [e3] at e; cases e; simp [h _ _ _ _ _ e2])
end Zv
namespace Zv
open PySem PySem.Spec PyProof.Rows L2

/-! ## built-ins by values -/
def GC (K : PySem.W.Frag) (dk : Addr) (r : List V → Hp → VK → Prop) (g : List D → Option D) : Prop := ∀ (H : Hp) (Z : Addr → Prop) (xs : List D) (z : D) (vs : List V) (A : List Addr) (Q : VK) (δ : List Int), ZOn dk H Z → H dk = some (deckO δ) → Reps K dk H Z xs vs A → g xs = some z → Fin K dk H Z z Q → r vs H Q
def eBlt (g : List D → Option D) (f : AF) : EF := fun ρ δ => match f ρ δ with
  | .ok _ ds δ1 => (match g ds with
    | some z => .ok z δ1
    | none => .err)
  | .exc c d δ' => .exc c d δ'
  | .err => .err
section
variable {X : Cx} {W : WX} {dk : Addr} {ca : Nat → Addr} {e : Expr} {es : List Expr} {f : AF} {g : List D → Option D} {r : List V → Hp → VK → Prop} {x : Str} {id T : String} {p pos : Pos}
theorem blt_run {t : TA} {Z : Addr → Prop} {ρ : List D} {δ : List Int} {σ : L2.St} {H : Hp} {Q : VK} (hg : GC X.K dk r g) (hq : ∀ Z ρ δ σ H Q, Sx X.K dk Z ρ δ σ H → RAB X.K dk ca H Z (f ρ δ) Q (wx W σ) → t σ H Q)
    (s : Sx X.K dk Z ρ δ σ H) (h : RE X.K dk ca H Z (eBlt g f ρ δ) Q (wx W σ)) : tCB r t σ H Q := by
  refine hq Z ρ δ σ H _ s ?_
  unfold eBlt at h
  cases e1 : f ρ δ with
  | err => rw [e1] at h; exact h
  | exc c d δ' => rw [e1] at h; exact h
  | ok t ds δ1 =>
    rw [e1] at h
    intro vs H1 Z1 A1 g1 k1 r1
    cases e2 : g ds with
    | none => simp only [e2] at h; exact h.elim
    | some z =>
      simp only [e2] at h
      refine hg H1 Z1 ds z vs A1 Q δ1 g1.on k1 r1 e2 fun v H2 Z2 A2 g2 k2 r2 n2 f2 => h v H2 Z2 A2 (g1.trans g2) (k2.trans k1) r2 n2 fun a m => ⟨g1.same.none_of (r2.own a m).1 (f2 a m).1, (f2 a m).2⟩
theorem ce_blt (hc : CallR X (.builtin id) r) (hgc : GC X.K dk r g) (hg : Gl X x) (hm : X.mg x = none) (hv : bootBuiltins x = some (.builtin id)) (ha : CAB X W dk ca (e :: es) f) (hn : x ≠ "__name__" := by decide) (hdb : (x == ("__debug__" : Str)) = false := by decide)
    (he : starEach (e :: es) X.env = (false, eval e X.env) :: starEach es X.env := by rfl) (hpl : (backTo pos (starEach es X.env)).any (·.1) = false := by rfl) : CE X W dk ca (.Call (.Name x p) (e :: es) [] pos) (eBlt g f) := by
  obtain ⟨t, pt, qt⟩ := ha
  exact ⟨_, pe_callB hc hg hm hv pt hn hdb he hpl, fun Z ρ δ σ H Q s h => blt_run hgc qt s h⟩
theorem ce_ty (hc : CallR X (.type T) r) (hgc : GC X.K dk r g) (hg : Gl X x) (hm : X.mg x = none) (hv : bootBuiltins x = some (.type T)) (ha : CAB X W dk ca (e :: es) f) (hn : x ≠ "__name__" := by decide) (hdb : (x == ("__debug__" : Str)) = false := by decide)
    (he : starEach (e :: es) X.env = (false, eval e X.env) :: starEach es X.env := by rfl) (hpl : (backTo pos (starEach es X.env)).any (·.1) = false := by rfl) : CE X W dk ca (.Call (.Name x p) (e :: es) [] pos) (eBlt g f) := by
  obtain ⟨t, pt, qt⟩ := ha
  exact ⟨_, pe_callTy hc hg hm hv pt hn hdb he hpl, fun Z ρ δ σ H Q s h => blt_run hgc qt s h⟩
end
section
variable {X : Cx}
theorem call_len_dK : CallR X (.builtin "len") (fun xs H Q => ∃ a kvs, xs = [V.ref a] ∧ Rd H a (.dK kvs) ∧ Q (.int kvs.length) H) := by
  intro pins s σ H xs us Q I r h
  obtain ⟨a, kvs, rfl, e, q⟩ := h
  rw [Vals.ref1 r]
  exact d_len I e fun t s' J => ⟨.int _, H, J, ⟨_, rfl⟩, q⟩
def rLenTr : List V → Hp → VK → Prop := fun xs H Q => ∃ (p : Addr) (kvs : List (List Key × V)), xs = [.ref p] ∧ Rd H p (.dT kvs) ∧ Q (.int ((kvs.length : Nat) : Int)) H
theorem call_len_dTr : CallR X (.builtin "len") rLenTr := by
  intro pins s σ H xs us Q I r h
  obtain ⟨p, kvs, rfl, hp, q⟩ := h
  obtain ⟨u, rfl, rx⟩ := vals1 r
  obtain rfl : u = .ref p := rx
  obtain ⟨z, hd, ys, rel, dd⟩ := dt_rd I.hok hp
  have hl : kvs.length = ys.length := Paired.length rel
  refine call_len_dictH hd dd (by rw [← hl]; rw [sizeLine_eq] at z; omega) ?_
  rw [← hl]
  exact ⟨.int _, H, I.tok _, ⟨_, rfl⟩, q⟩
def rLen4 (K : PySem.W.Frag) : List V → Hp → VK → Prop := fun xs H Q => (∃ p ys, xs = [.ref p] ∧ (SqL K H p ys ∨ SqT K H p ys) ∧ Q (.int ys.length) H) ∨ ((∃ a kvs, xs = [V.ref a] ∧ Rd H a (.dK kvs) ∧ Q (.int kvs.length) H) ∨ rLenTr xs H Q)
theorem call_len4 : CallR X (.builtin "len") (rLen4 X.K) := call_len_seq.or (call_len_dK.or call_len_dTr)
end
theorem Reps.single {K : PySem.W.Frag} {dk : Addr} {H : Hp} {Z : Addr → Prop} {d : D} {vs : List V} {A : List Addr} (r : Reps K dk H Z [d] vs A) : ∃ v, vs = [v] ∧ Rep K dk H Z d v A := by
  cases r with
  | cons a t =>
    cases t
    rename_i v A
    refine ⟨v, rfl, ?_⟩
    rw [List.append_nil]
    exact a
theorem Reps.two {K : PySem.W.Frag} {dk : Addr} {H : Hp} {Z : Addr → Prop} {d e : D} {vs : List V} {A : List Addr} (r : Reps K dk H Z [d, e] vs A) : ∃ v u B C, vs = [v, u] ∧ Rep K dk H Z d v B ∧ Rep K dk H Z e u C := by
  cases r with
  | cons a t =>
    obtain ⟨u, rfl, b⟩ := t.single
    exact ⟨_, u, _, _, rfl, a, b⟩
theorem EntK.len {K : PySem.W.Frag} {dk : Addr} {H : Hp} {Z : Addr → Prop} : ∀ {es : List D} {kvs : List (Key × V)} {A : List Addr}, EntK K dk H Z es kvs A → es.length = kvs.length
  | _, _, _, .nil => rfl
  | _, _, _, .cons _ _ r => by simp [r.len]
theorem EntT.len {K : PySem.W.Frag} {dk : Addr} {H : Hp} {Z : Addr → Prop} : ∀ {es : List D} {kvs : List (List Key × V)} {A : List Addr}, EntT K dk H Z es kvs A → es.length = kvs.length
  | _, _, _, .nil => rfl
  | _, _, _, .cons _ _ r => by simp [r.len]
/-- len -/
def gLen : List D → Option D
  | [.seq _ xs] => some (.int xs.length)
  | _ => none
section
variable {K : PySem.W.Frag} {dk : Addr}
theorem g_len : GC K dk (rLen4 K) gLen := by
  intro H Z xs z vs A Q δ on hd r e q
  unfold gLen at e
  split at e
  · rename_i k ys
    cases e
    obtain ⟨v, rfl, r1⟩ := r.single
    have q' := q.here on (.int _)
    cases r1 with
    | tup t rs => exact .inl ⟨_, _, rfl, .inr t.sq, by rw [← rs.len]; exact q'⟩
    | lst z n e rs => exact .inl ⟨_, _, rfl, .inl (.inl (.inl e)), by rw [← rs.len]; exact q'⟩
    | ols n e rs => exact .inl ⟨_, _, rfl, .inl (.inl (.inl e)), by rw [← rs.len]; exact q'⟩
    | dicK z n e rs => exact .inr (.inl ⟨_, _, rfl, e, by rw [← rs.len]; exact q'⟩)
    | odcK n e rs => exact .inr (.inl ⟨_, _, rfl, .inl e, by rw [← rs.len]; exact q'⟩)
    | dicT z n e rs => exact .inr (.inr ⟨_, _, rfl, e, by rw [← rs.len]; exact q'⟩)
    | odcT n e rs => exact .inr (.inr ⟨_, _, rfl, .inl e, by rw [← rs.len]; exact q'⟩)
    | ldcK z n e rs => exact .inr (.inl ⟨_, _, rfl, .inr ⟨_, e⟩, by rw [← rs.len]; exact q'⟩)
    | ldcT z n e rs => exact .inr (.inr ⟨_, _, rfl, .inr ⟨_, e⟩, by rw [← rs.len]; exact q'⟩)
  · cases e
/-- int(n), int(flag) -/
def gInt : List D → Option D
  | [.int i] => some (.int i)
  | [.atm (.bl b)] => match b with
    | true => some (.int 1)
    | false => some (.int 0)
  | _ => none
theorem g_int1 : GC K dk (fun xs H Q => (∃ i, xs = [.int i] ∧ Q (.int i) H) ∨ ∃ k, xs = [.bl k] ∧ Q (.int (if k then 1 else 0)) H) gInt := by
  intro H Z xs z vs A Q δ on hd r e q
  unfold gInt at e
  split at e
  · cases e
    obtain ⟨v, rfl, r1⟩ := r.single
    cases r1
    exact .inl ⟨_, rfl, q.here on (.int _)⟩
  · rename_i b
    obtain ⟨v, rfl, r1⟩ := r.single
    cases r1
    cases b <;> (cases e; exact .inr ⟨_, rfl, q.here on (.int _)⟩)
  · cases e
def gAbs : List D → Option D
  | [.int i] => oI (match decide (i < 0) with | true => -i | false => i)
  | _ => none
theorem g_abs : GC K dk (fun xs H Q => ∃ i, xs = [.int i] ∧ Q (.int (if i < 0 then -i else i)) H) gAbs := by
  intro H Z xs z vs A Q δ on hd r e q
  unfold gAbs at e
  split at e
  · rename_i i
    rw [oI_eq] at e
    cases e
    obtain ⟨v, rfl, r1⟩ := r.single
    cases r1
    refine ⟨_, rfl, ?_⟩
    have q' := q.here on (.int _)
    by_cases h : i < 0
    · rw [if_pos h]; simpa only [decide_eq_true h] using q'
    · rw [if_neg h]; simpa only [decide_eq_false h] using q'
  · cases e
/-- list(xs), tuple(xs) -/
def gList : List D → Option D
  | [.seq k xs] => match k with
    | .tup => some (.ols xs)
    | .lst => some (.ols xs)
    | .ols => match xs.all shr with
      | true => some (.ols xs)
      | false => none
    | _ => none
  | _ => none
def gTuple : List D → Option D
  | [.seq k xs] => match k with
    | .tup => some (.tup xs)
    | .lst => some (.tup xs)
    | .ols => match xs.all shr with
      | true => some (.tup xs)
      | false => none
    | _ => none
  | _ => none
theorem g_list : GC K dk (fun xs H Q => ∃ p ys, xs = [.ref p] ∧ (SqL K H p ys ∨ SqT K H p ys) ∧ ∀ l, H l = none → Q (.ref l) (upd H l (.lst ys))) gList := by
  intro H Z xs z vs A Q δ on hd r e q
  unfold gList at e
  split at e
  · rename_i k ys
    obtain ⟨v, rfl, r1⟩ := r.single
    cases k with
    | tup => cases e; obtain ⟨a, vs, rfl, n, ea, rs⟩ := r1.tupAt; exact ⟨a, vs, rfl, .inr (.inl (.inl ea)), q.ols on hd rs⟩
    | lst =>
      cases e
      cases r1 with
      | lst z n ea rs => exact ⟨_, _, rfl, .inl (.inl (.inl ea)), q.ols on hd rs⟩
    | ols =>
      cases c : ys.all shr with
      | false => simp only [c] at e; cases e
      | true =>
        simp only [c] at e
        cases e
        cases r1 with
        | ols n ea rs =>
          have := rs.noown c
          subst this
          exact ⟨_, _, rfl, .inl (.inl (.inl ea)), q.ols on hd rs⟩
    | _ => cases e
  · cases e
theorem g_tuple : GC K dk (fun xs H Q => ∃ p ys, xs = [.ref p] ∧ ((SqL K H p ys ∧ ∀ l, H l = none → Q (.ref l) (upd H l (.tup ys))) ∨ (SqT K H p ys ∧ Q (.ref p) H))) gTuple := by
  intro H Z xs z vs A Q δ on hd r e q
  unfold gTuple at e
  split at e
  · rename_i k ys
    obtain ⟨v, rfl, r1⟩ := r.single
    cases k with
    | tup => cases e; obtain ⟨a, vs, rfl, n, ea, rs⟩ := r1.tupAt; exact ⟨a, vs, rfl, .inr ⟨.inl (.inl ea), q.here on (.tup ⟨n, ea⟩ rs)⟩⟩
    | lst =>
      cases e
      cases r1 with
      | lst z n ea rs => exact ⟨_, _, rfl, .inl ⟨.inl (.inl ea), q.tup on hd rs⟩⟩
    | ols =>
      cases c : ys.all shr with
      | false => simp only [c] at e; cases e
      | true =>
        simp only [c] at e
        cases e
        cases r1 with
        | ols n ea rs =>
          have := rs.noown c
          subst this
          exact ⟨_, _, rfl, .inl ⟨.inl (.inl ea), q.tup on hd rs⟩⟩
    | _ => cases e
  · cases e
/-- all(bools), any(bools) of a list -/
def bls : List D → Option (List Bool)
  | [] => some []
  | d :: ds => match d, bls ds with
    | .atm (.bl b), some bs => some (b :: bs)
    | _, _ => none
def gAll : List D → Option D
  | [.seq .lst xs] => match bls xs with
    | some bs => oB (bs.all id)
    | none => none
  | [.seq .ols xs] => match bls xs with
    | some bs => oB (bs.all id)
    | none => none
  | _ => none
def gAny : List D → Option D
  | [.seq .lst xs] => match bls xs with
    | some bs => oB (bs.any id)
    | none => none
  | [.seq .ols xs] => match bls xs with
    | some bs => oB (bs.any id)
    | none => none
  | _ => none
theorem bls_vals {H : Hp} {Z : Addr → Prop} : ∀ {xs : List D} {bs : List Bool} {vs : List V} {A : List Addr}, bls xs = some bs → Reps K dk H Z xs vs A → vs = bs.map V.bl
  | _, _, _, _, e, .nil => by cases e; rfl
  | d :: ds, bs, _, _, e, .cons a r => by
    unfold bls at e
    split at e
    · rename_i b bs' c
      cases e
      cases a
      rw [bls_vals c r]
      rfl
    · cases e
theorem Rep.anyL {H : Hp} {Z : Addr → Prop} {k : SK} {xs : List D} {v : V} {A : List Addr} (r : Rep K dk H Z (.seq k xs) v A) (hk : k = .lst ∨ k = .ols) : ∃ a vs A', v = .ref a ∧ SqL K H a vs ∧ Reps K dk H Z xs vs A' := by
  obtain ⟨a, vs, A', e, n, ea, rs⟩ := r.lstAt hk
  exact ⟨a, vs, A', e, .inl (.inl ea), rs⟩
theorem g_all : GC K dk (rAll K) gAll := by
  intro H Z xs z vs A Q δ on hd r e q
  unfold gAll at e
  split at e
  · rename_i ys
    obtain ⟨v, rfl, r1⟩ := r.single
    obtain ⟨a, us, A', rfl, hs, rs⟩ := r1.anyL (.inl rfl)
    cases c : bls ys with
    | none => simp only [c] at e; cases e
    | some bs =>
      simp only [c, oB_eq] at e
      cases e
      have := bls_vals c rs
      subst this
      exact ⟨a, bs, rfl, hs, q.here on (.bl _)⟩
  · rename_i ys
    obtain ⟨v, rfl, r1⟩ := r.single
    obtain ⟨a, us, A', rfl, hs, rs⟩ := r1.anyL (.inr rfl)
    cases c : bls ys with
    | none => simp only [c] at e; cases e
    | some bs =>
      simp only [c, oB_eq] at e
      cases e
      have := bls_vals c rs
      subst this
      exact ⟨a, bs, rfl, hs, q.here on (.bl _)⟩
  · cases e
theorem g_any : GC K dk (rAny K) gAny := by
  intro H Z xs z vs A Q δ on hd r e q
  unfold gAny at e
  split at e
  · rename_i ys
    obtain ⟨v, rfl, r1⟩ := r.single
    obtain ⟨a, us, A', rfl, hs, rs⟩ := r1.anyL (.inl rfl)
    cases c : bls ys with
    | none => simp only [c] at e; cases e
    | some bs =>
      simp only [c, oB_eq] at e
      cases e
      have := bls_vals c rs
      subst this
      exact ⟨a, bs, rfl, hs, q.here on (.bl _)⟩
  · rename_i ys
    obtain ⟨v, rfl, r1⟩ := r.single
    obtain ⟨a, us, A', rfl, hs, rs⟩ := r1.anyL (.inr rfl)
    cases c : bls ys with
    | none => simp only [c] at e; cases e
    | some bs =>
      simp only [c, oB_eq] at e
      cases e
      have := bls_vals c rs
      subst this
      exact ⟨a, bs, rfl, hs, q.here on (.bl _)⟩
  · cases e
end

/-! ## subscripts -/
/-- the place an index means -/
def ixD (n : Nat) (i : Int) : Option Nat := match i with
  | .ofNat k => match Nat.blt k n with
    | true => some k
    | false => none
  | .negSucc k => match Nat.blt k n with
    | true => some (Nat.sub n (Nat.succ k))
    | false => none
theorem ixD_eq {n : Nat} {i : Int} {j : Nat} (h : ixD n i = some j) : ixN n i = some j := by
  unfold ixD at h
  unfold ixN
  split at h
  · rename_i k
    cases c : Nat.blt k n with
    | false => rw [c] at h; cases h
    | true =>
      rw [c] at h
      have hk : k < n := Nat.le_of_ble_eq_true (n := k + 1) (m := n) c
      cases h
      rw [if_pos (show (0 : Int) ≤ Int.ofNat j from Int.natCast_nonneg j), if_pos (show Int.ofNat j < (n : Int) from Int.ofNat_lt.mpr hk)]
      rfl
  · rename_i k
    cases c : Nat.blt k n with
    | false => rw [c] at h; cases h
    | true =>
      rw [c] at h
      have hk : k < n := Nat.le_of_ble_eq_true (n := k + 1) (m := n) c
      cases h
      have e : (Int.negSucc k) = -((k : Int) + 1) := Int.negSucc_eq k
      rw [e, if_neg (by omega), if_pos (by omega)]
      congr 1
      show _ = n - (k + 1)
      omega
def nth : List D → Nat → Option D
  | [], _ => none
  | d :: _, 0 => some d
  | _ :: ds, n + 1 => nth ds n
theorem nth_eq : ∀ (ds : List D) (n : Nat), nth ds n = ds[n]?
  | [], _ => by simp [nth]
  | d :: _, 0 => by simp [nth]
  | _ :: ds, n + 1 => by simp [nth, nth_eq ds n]
def gIxL (xs : List D) (i : Int) : Option D := match ixD xs.length i with
  | some j => nth xs j
  | none => none
def gIx : D → D → Option D
  | .seq .tup xs, .int i => gIxL xs i
  | .seq .lst xs, .int i => gIxL xs i
  | .seq .ols xs, .int i => gIxL xs i
  | .seq s es, y => match dgetD s es y with
    | some (some z) => some z
    | _ => none
  | _, _ => none
def rIxDic : R2 := fun x y H Q => ∃ a v, x = .ref a ∧ DGet H a y (some v) ∧ Q v H
def rIx2 (K : PySem.W.Frag) : R2 := fun x y H Q => (rIxL K x y H Q ∨ rIxT K x y H Q) ∨ rIxDic x y H Q
section
variable {X : Cx}
theorem ix_dic (hu : X.A.units + 1 < cLine) : IxR X rIxDic := by
  intro value slice pins s σ H x y v u Q I rx ry h hs
  obtain ⟨a, w', rfl, g, q⟩ := h
  cases rx
  exact tail_any (dict_typeIs I g) PySem.F.slot_dict_getitem.lookup (d_getItem hu I g ry fun w2 s3 J r => ⟨w', H, J, r, q⟩) hs
theorem ix_all (hu : X.A.units + 1 < cLine) : IxR X (rIx2 X.K) := (ix_list.or ix_tup).or (ix_dic hu)
end
section
variable {K : PySem.W.Frag} {dk : Addr} {H : Hp} {Z : Addr → Prop}
theorem gIxL_at {xs : List D} {vs : List V} {A : List Addr} {i : Int} {z : D} (r : Reps K dk H Z xs vs A) (e : gIxL xs i = some z) : ∃ v B, atI vs i = some v ∧ Rep K dk H Z z v B ∧ ∀ a ∈ B, a ∈ A := by
  unfold gIxL at e
  cases c : ixD xs.length i with
  | none => rw [c] at e; cases e
  | some j =>
    rw [c] at e
    have e' : xs[j]? = some z := by rw [← nth_eq]; exact e
    obtain ⟨v, B, e1, r1, s⟩ := r.get e'
    refine ⟨v, B, ?_, r1, s⟩
    have h := ixD_eq c
    rw [r.len] at h
    unfold atI
    rw [h]
    exact e1
/-- what a subscript reads -/
theorem gIx_at {x y z : D} {v u : V} {A B : List Addr} {Q : VK} (rx : Rep K dk H Z x v A) (ry : Rep K dk H Z y u B) (e : gIx x y = some z) (q : ∀ w C, Rep K dk H Z z w C → (∀ a ∈ C, a ∈ A) → Q w H) : rIx2 K v u H Q := by
  have dic : ∀ {s : SK} {es : List D}, Rep K dk H Z (.seq s es) v A → dgetD s es y = some (some z) → rIxDic v u H Q := fun rd ed => by
    obtain ⟨a, o, rfl, g, f⟩ := rd.dget ry ed
    obtain ⟨w, C, rfl, rw', s'⟩ := f
    exact ⟨a, w, rfl, g, q w C rw' s'⟩
  unfold gIx at e
  split at e
  · obtain ⟨a, vs, rfl, n, ea, rs⟩ := rx.tupAt
    cases ry
    obtain ⟨w, C, e1, r1, s⟩ := gIxL_at rs e
    exact .inl (.inr ⟨a, vs, _, w, rfl, rfl, .inl (.inl ea), e1, q w C r1 fun a m => (by simpa using s a m)⟩)
  · cases rx with
    | lst z n ea rs =>
      cases ry
      obtain ⟨w, C, e1, r1, s⟩ := gIxL_at rs e
      exact .inl (.inl ⟨_, _, _, w, rfl, rfl, .inl (.inl ea), e1, q w C r1 fun a m => (by simpa using s a m)⟩)
  · cases rx with
    | ols n ea rs =>
      cases ry
      obtain ⟨w, C, e1, r1, s⟩ := gIxL_at rs e
      exact .inl (.inl ⟨_, _, _, w, rfl, rfl, .inl (.inl ea), e1, q w C r1 fun a m => List.mem_cons_of_mem _ (s a m)⟩)
  · rename_i s es y h1 h2 h3
    split at e
    · rename_i z' heq
      cases e
      exact .inr (dic rx heq)
    · cases e
  · cases e
end
/-- a subscript whose value is shared -/
def gIxV (x y : D) : Option D := match gIx x y with
  | some z => match shr z with
    | true => some z
    | false => none
  | none => none
section
variable {K : PySem.W.Frag} {dk : Addr}
theorem g_ixV : G2 K dk (rIx2 K) gIxV := by
  intro H Z x y z v u A B Q δ on hd rx ry e q
  unfold gIxV at e
  cases c : gIx x y with
  | none => rw [c] at e; cases e
  | some z' =>
    rw [c] at e
    cases c2 : shr z' with
    | false => simp only [c2] at e; cases e
    | true =>
      simp only [c2] at e
      cases e
      refine gIx_at rx ry c fun w C r s => ?_
      have := r.noown c2
      subst this
      exact q.here on r
end
section
variable {X : Cx} {W : WX} {dk : Addr} {ca : Nat → Addr} {a b : Expr} {fa fb : EF} {pos : Pos}
theorem ce_ix (hu : X.A.units + 1 < cLine) (ha : CB X W dk ca a fa) (hb : CB X W dk ca b fb) (hs : PlainIx b) : CE X W dk ca (.Subscript a b pos) (eOp2 gIxV fa fb) := by
  obtain ⟨ta, pa, qa⟩ := ha
  obtain ⟨tb, pb, qb⟩ := hb
  exact ⟨_, pe_ix (ix_all hu) pa pb hs, fun Z ρ δ σ H Q s h => eOp2_run (E := wx W σ) g_ixV qa qb s h⟩
theorem cb_ix (hu : X.A.units + 1 < cLine) (ha : CB X W dk ca a fa) (hb : CB X W dk ca b fb) (hs : PlainIx b) : CB X W dk ca (.Subscript a b pos) (eOp2 gIx fa fb) := by
  obtain ⟨ta, pa, qa⟩ := ha
  obtain ⟨tb, pb, qb⟩ := hb
  refine ⟨_, pe_ix (ix_all hu) pa pb hs, fun Z ρ δ σ H Q s h => ?_⟩
  unfold eOp2 at h
  refine qa Z ρ δ σ H _ s ?_
  cases ea : fa ρ δ with
  | err => rw [ea] at h; exact h
  | exc c d δ' => rw [ea] at h; exact h
  | ok x δ1 =>
    rw [ea] at h
    intro v H1 Z1 A1 g1 k1 r1
    refine qb Z1 ρ δ1 σ H1 _ (s.grow g1 k1) ?_
    cases eb : fb ρ δ1 with
    | err => simp only [eb] at h; exact h
    | exc c d δ' => simp only [eb] at h; exact RX.grow h g1
    | ok y δ2 =>
      simp only [eb] at h
      intro u H2 Z2 A2 g2 k2 r2
      cases ez : gIx x y with
      | none => simp only [ez] at h; exact h.elim
      | some z =>
        simp only [ez] at h
        exact gIx_at (r1.mono g2.same g2.z) r2 ez fun w C r _ => h w H2 Z2 C (g1.trans g2) k2 r
end

/-! ## slices -/
def sIxD (n d : Nat) : Option Int → Nat
  | none => d
  | some (.ofNat k) => match Nat.ble k n with
    | true => k
    | false => n
  | some (.negSucc k) => Nat.sub n (Nat.succ k)
theorem sIxD_eq (n d : Nat) (o : Option Int) : sIxD n d o = HT.sIx n d o := by
  unfold sIxD
  split
  · rfl
  · rename_i k
    rw [show (Int.ofNat k) = ((k : Nat) : Int) from rfl, HT.sIx_nat]
    cases c : Nat.ble k n with
    | true =>
      have := Nat.le_of_ble_eq_true c
      show k = _
      omega
    | false =>
      have h : ¬ k ≤ n := fun z => by rw [Nat.ble_eq_true_of_le z] at c; cases c
      show n = _
      omega
  · rename_i k
    have h := HT.clip_eq (Int.negSucc k) n d
    have e : (Int.negSucc k) = -((k : Int) + 1) := Int.negSucc_eq k
    rw [if_pos (by omega)] at h
    show n - (k + 1) = _
    omega
def cutD (xs : List D) (lo hi : Option Int) : List D := (xs.drop (sIxD xs.length 0 lo)).take (Nat.sub (sIxD xs.length xs.length hi) (sIxD xs.length 0 lo))
theorem Reps.drop {K : PySem.W.Frag} {dk : Addr} {H : Hp} {Z : Addr → Prop} : ∀ {ds : List D} {vs : List V} (n : Nat), Reps K dk H Z ds vs [] → Reps K dk H Z (ds.drop n) (vs.drop n) []
  | _, _, 0, r => r
  | [], _, n + 1, r => by cases r; exact .nil
  | d :: ds, v :: vs, n + 1, r => (r.un0.2).drop n
theorem Reps.take {K : PySem.W.Frag} {dk : Addr} {H : Hp} {Z : Addr → Prop} : ∀ {ds : List D} {vs : List V} (n : Nat), Reps K dk H Z ds vs [] → Reps K dk H Z (ds.take n) (vs.take n) []
  | _, _, 0, r => .nil
  | [], _, n + 1, r => by cases r; exact .nil
  | d :: ds, v :: vs, n + 1, r => .cons0 r.un0.1 (r.un0.2.take n)
theorem Reps.cut {K : PySem.W.Frag} {dk : Addr} {H : Hp} {Z : Addr → Prop} {ds : List D} {vs : List V} (r : Reps K dk H Z ds vs []) (lo hi : Option Int) : Reps K dk H Z (cutD ds lo hi) (cutV vs lo hi) [] := by
  unfold cutD cutV
  rw [sIxD_eq, sIxD_eq, r.len]
  exact (r.drop _).take _
/-- an optional part: None, or an int -/
def oV : V → Option Int → Prop
  | .non, o => o = none
  | .int i, o => o = some i
  | _, _ => False
def CO (X : Cx) (W : WX) (dk : Addr) (ca : Nat → Addr) (e : Option Expr) (f : EF) : Prop := ∃ t, PO X e t ∧ ∀ Z ρ δ σ H (Q : Option Int → Hp → Prop), Sx X.K dk Z ρ δ σ H →
  RB X.K dk ca H Z (f ρ δ) (fun v H' => ∃ o, oV v o ∧ Q o H') (wx W σ) → t σ H Q
def partD : D → Option (Option Int)
  | .int i => some (some i)
  | .atm .non => some none
  | _ => none
def gSl (x : D) (lo hi : Option Int) : Option D := match x with
  | .seq .tup xs => some (.tup (cutD xs lo hi))
  | .seq .lst xs => some (.ols (cutD xs lo hi))
  | .seq .ols xs => match xs.all shr with
    | true => some (.ols (cutD xs lo hi))
    | false => none
  | _ => none
/-- an int alone -/
def eIntOnly (f : EF) : EF := fun ρ δ => match f ρ δ with
  | .ok (.int i) δ' => .ok (.int i) δ'
  | .ok _ _ => .err
  | r => r
def eSl (f lo hi : EF) : EF := fun ρ δ => match f ρ δ with
  | .ok x δ1 => (match lo ρ δ1 with
    | .ok l δ2 => (match partD l with
      | some l' => (match hi ρ δ2 with
        | .ok h δ3 => (match partD h with
          | some h' => (match gSl x l' h' with
            | some z => .ok z δ3
            | none => .err)
          | none => .err)
        | r => r)
      | none => .err)
    | r => r)
  | r => r
def rSl3 (K : PySem.W.Frag) : V → Option Int → Option Int → Hp → VK → Prop := fun x lo hi H Q => rSlA K x lo hi H Q ∨ rSlL K x lo hi H Q
section
variable {X : Cx} {W : WX} {dk : Addr} {ca : Nat → Addr} {e : Expr} {lo hi : Option Expr} {f fl fh : EF} {pos p2 : Pos}
theorem co_none : CO X W dk ca none (eC .non) := ⟨_, po_none, fun Z ρ δ σ H Q s h => by
  obtain ⟨o, e, q⟩ := h _ H Z [] (Grow.refl s.on) s.deck .non
  cases e
  exact q⟩
theorem RB.imp {K : PySem.W.Frag} {H : Hp} {Z : Addr → Prop} {r : R} {Q Q' : VK} {E : XK} (h : RB K dk ca H Z r Q E) (i : ∀ v H', Q v H' → Q' v H') : RB K dk ca H Z r Q' E := by
  cases r with
  | ok d δ' => exact fun v H' Z' A g k r => i _ _ (h v H' Z' A g k r)
  | exc c d δ' => exact h
  | err => exact h
theorem co_some (h : CB X W dk ca e f) : CO X W dk ca (some e) (eIntOnly f) := by
  obtain ⟨t, p, q⟩ := h
  refine ⟨_, po_some p, fun Z ρ δ σ H Q s h => q Z ρ δ σ H _ s ?_⟩
  unfold eIntOnly at h
  cases e1 : f ρ δ with
  | err => rw [e1] at h; exact h
  | exc c d δ' => rw [e1] at h; exact h
  | ok d δ' =>
    rw [e1] at h
    intro v H' Z' A g k r
    cases d with
    | int i =>
      cases r
      obtain ⟨o, eo, q⟩ := h _ H' Z' [] g k (.int i)
      cases eo
      exact ⟨i, rfl, q⟩
    | atm a => exact h.elim
    | seq k xs => exact h.elim
theorem partD_o {K : PySem.W.Frag} {H : Hp} {Z : Addr → Prop} {d : D} {v : V} {A : List Addr} {o : Option Int} (r : Rep K dk H Z d v A) (h : partD d = some o) : oV v o := by
  cases r <;> (cases h; try rfl)
theorem gSl_ok {K : PySem.W.Frag} {H : Hp} {Z : Addr → Prop} {x z : D} {v : V} {A : List Addr} {lo hi : Option Int} {Q : VK} {δ : List Int} (on : ZOn dk H Z) (hd : H dk = some (deckO δ)) (r : Rep K dk H Z x v A) (e : gSl x lo hi = some z) (q : Fin K dk H Z z Q) : rSl3 K v lo hi H Q := by
  unfold gSl at e
  split at e
  · rename_i xs
    cases e
    obtain ⟨a, vs, rfl, n, ea, rs⟩ := r.tupAt
    refine .inl ⟨a, vs, rfl, .inl (.inl ea), fun w => ?_, fun _ => q.tup on hd (rs.cut lo hi)⟩
    have ec : cutD xs lo hi = xs := by
      unfold cutD
      rw [sIxD_eq, sIxD_eq, rs.len, w.1, w.2]
      show (xs.drop 0).take (vs.length - 0) = xs
      rw [List.drop_zero, Nat.sub_zero, ← rs.len, List.take_length]
    rw [ec] at q
    exact q.here on (.tup ⟨n, ea⟩ rs)
  · cases e
    cases r with
    | lst z n ea rs => exact .inr ⟨_, _, rfl, .inl (.inl ea), q.ols on hd (rs.cut lo hi)⟩
  · rename_i xs
    cases c : xs.all shr with
    | false => rw [c] at e; cases e
    | true =>
      rw [c] at e
      cases e
      cases r with
      | ols n ea rs =>
        have := rs.noown c
        subst this
        exact .inr ⟨_, _, rfl, .inl (.inl ea), q.ols on hd (rs.cut lo hi)⟩
  · cases e
theorem ce_slice (he : CB X W dk ca e f) (hl : CO X W dk ca lo fl) (hh : CO X W dk ca hi fh) : CE X W dk ca (.Subscript e (.Slice lo hi none p2) pos) (eSl f fl fh) := by
  obtain ⟨te, pe, qe⟩ := he
  obtain ⟨tl, pl, ql⟩ := hl
  obtain ⟨th, ph, qh⟩ := hh
  refine ⟨_, pe_slice (r := rSl3 X.K) (sl_tupA.or sl_list) pe pl ph, fun Z ρ δ σ H Q s h => qe Z ρ δ σ H _ s ?_⟩
  unfold eSl at h
  cases e1 : f ρ δ with
  | err => rw [e1] at h; exact h
  | exc c d δ' => rw [e1] at h; exact h
  | ok x δ1 =>
    rw [e1] at h
    intro v H1 Z1 A1 g1 k1 r1
    have s1 := s.grow g1 k1
    refine ql Z1 ρ δ1 σ H1 _ s1 ?_
    cases e2 : fl ρ δ1 with
    | err => simp only [e2] at h; exact h
    | exc c d δ' => simp only [e2] at h; exact RX.grow h g1
    | ok l δ2 =>
      simp only [e2] at h
      intro vl H2 Z2 A2 g2 k2 r2
      cases e3 : partD l with
      | none => simp only [e3] at h; exact h.elim
      | some l' =>
        simp only [e3] at h
        refine ⟨l', partD_o r2 e3, qh Z2 ρ δ2 σ H2 _ (s1.grow g2 k2) ?_⟩
        cases e4 : fh ρ δ2 with
        | err => simp only [e4] at h; exact h
        | exc c d δ' => simp only [e4] at h; exact RX.grow h (g1.trans g2)
        | ok hh δ3 =>
          simp only [e4] at h
          intro vh H3 Z3 A3 g3 k3 r3
          cases e5 : partD hh with
          | none => simp only [e5] at h; exact h.elim
          | some h' =>
            simp only [e5] at h
            refine ⟨h', partD_o r3 e5, ?_⟩
            cases e6 : gSl x l' h' with
            | none => simp only [e6] at h; exact h.elim
            | some z =>
              simp only [e6] at h
              have g23 := g2.trans g3
              have g := g1.trans g23
              exact gSl_ok g.on k3 (r1.mono g23.same g23.z) e6 fun w H4 Z4 A4 g4 k4 r4 n4 f4 => h w H4 Z4 A4 (g.trans g4) (k4.trans k3) r4 n4 fun a m => ⟨g.same.none_of (r4.own a m).1 (f4 a m).1, (f4 a m).2⟩
/-- xs[::-1] of a list -/
def eRevL (f : EF) : EF := fun ρ δ => match f ρ δ with
  | .ok (.seq .lst xs) δ1 => .ok (.ols xs.reverse) δ1
  | .ok (.seq .ols xs) δ1 => (match xs.all shr with
    | true => .ok (.ols xs.reverse) δ1
    | false => .err)
  | .ok _ _ => .err
  | r => r
theorem Reps.reverse {K : PySem.W.Frag} {H : Hp} {Z : Addr → Prop} : ∀ {ds : List D} {vs : List V}, Reps K dk H Z ds vs [] → Reps K dk H Z ds.reverse vs.reverse []
  | [], _, r => by cases r; exact .nil
  | d :: ds, v :: vs, r => by
    rw [List.reverse_cons, List.reverse_cons]
    exact (Reps.reverse r.un0.2).append0 (.one r.un0.1)
theorem ce_revL {k : Nat} {p1 p2 p3 : Pos} (he : CB X W dk ca e f) : CE X W dk ca (.Subscript e (.Slice none none (some (.UnaryOp .USub (.Constant (.int 1) k p1) p2)) p3) pos) (eRevL f) := by
  obtain ⟨te, pe, qe⟩ := he
  refine ⟨_, pe_revL pe, fun Z ρ δ σ H Q s h => qe Z ρ δ σ H _ s ?_⟩
  unfold eRevL at h
  cases e1 : f ρ δ with
  | err => rw [e1] at h; exact h
  | exc c d δ' => rw [e1] at h; exact h
  | ok x δ1 =>
    rw [e1] at h
    intro v H1 Z1 A1 g1 k1 r1
    have fin : ∀ {ys : List D} {vs : List V}, RE X.K dk ca H Z (.ok (.ols ys) δ1) Q (wx W σ) → Reps X.K dk H1 Z1 ys vs [] → ∀ p, H1 p = none → Q (.ref p) (upd H1 p (.lst vs)) := fun {ys vs} h rs =>
      Fin.ols (K := X.K) (Z := Z1) (ds := ys) (fun w H4 Z4 A4 g4 k4 r4 n4 f4 => h w H4 Z4 A4 (g1.trans g4) (k4.trans k1) r4 n4 fun a m => ⟨g1.same.none_of (r4.own a m).1 (f4 a m).1, (f4 a m).2⟩) g1.on k1 rs
    split at h
    · rename_i xs δ1' heq
      cases heq
      cases r1 with
      | lst z n ea rs => exact ⟨_, _, rfl, .inl (.inl ea), fin h rs.reverse⟩
    · rename_i xs δ1' heq
      cases heq
      cases c : xs.all shr with
      | false => simp only [c] at h; exact h.elim
      | true =>
        simp only [c] at h
        cases r1 with
        | ols n ea rs =>
          have := rs.noown c
          subst this
          exact ⟨_, _, rfl, .inl (.inl ea), fin h rs.reverse⟩
    · exact h.elim
    · rename_i hn hn2 hn3
      exact absurd rfl (hn3 _ _)
end
end Zv
namespace Zv
open PySem PySem.Spec PyProof.Rows L2
section
variable {K : PySem.W.Frag} {dk : Addr} {H H' H'' : Hp} {Z Z' Z'' B : Addr → Prop}
theorem Grow.keep (g : Grow dk H Z H' Z') : Keep dk H Z B H' Z' := ⟨g.z, fun a o _ n e => g.same a o n e, fun a vs n e => g.same a _ n e, g.on⟩
theorem Keep.trans {B' : Addr → Prop} (k : Keep dk H Z B H' Z') (k' : Keep dk H' Z' B' H'' Z'') (hb : ∀ a, B a → B' a) : Keep dk H Z B H'' Z'' :=
  ⟨fun a z => k'.z a (k.z a z), fun a o m n e => k'.keep a o (m.elim (fun z => .inl (k.z a z)) fun b => .inr (hb a b)) n (k.keep a o m n e), fun a vs n e => k'.tups a vs n (k.tups a vs n e), k'.on⟩
end

/-! ## what is walked -/
section
variable (K : PySem.W.Frag) (dk : Addr) (ca : Nat → Addr)
/-- the iterator gives the items, while the frozen things, those at B and the tuples stay -/
def ItOk (J : It) (items : List D) (H' : Hp) (Z' B : Addr → Prop) : Prop := ∀ i H'' Z'', Keep dk H' Z' B H'' Z'' → (∃ δ, H'' dk = some (deckO δ)) →
  (items.length ≤ i → J.stop i H'') ∧ ∀ d, items[i]? = some d → J.go i H'' ∧ ∀ x H3, J.yld i H'' x H3 → Grow dk H'' Z'' H3 Z'' ∧ H3 dk = H'' dk ∧ Rep K dk H3 Z'' d x []
def RI (H : Hp) (Z : Addr → Prop) (r : RL) (R : It → Hp → Prop) (E : XK) : Prop := match r with
  | .ok t items δ' => ∀ J H' Z' B, Grow dk H Z H' Z' → H' dk = some (deckO δ') → ItOk K dk J items H' Z' B → (∀ a, B a → a ≠ dk ∧ H' a ≠ none) → (t = false → ∀ a, ¬ B a) → R J H'
  | .exc c d δ' => RX K dk ca H Z c d δ' E
  | .err => False
def tI (W : WX) (f : AF) : TI := fun σ H R => ∃ Z ρ δ, Sx K dk Z ρ δ σ H ∧ RI K dk ca H Z (f ρ δ) R (wx W σ)
def tE (W : WX) (f : EF) : TE := fun σ H Q => ∃ Z ρ δ, Sx K dk Z ρ δ σ H ∧ RE K dk ca H Z (f ρ δ) Q (wx W σ)
def tT (W : WX) (f : EF) : TT := fun σ H Q => ∃ Z ρ δ, Sx K dk Z ρ δ σ H ∧ RT K dk ca H Z (f ρ δ) Q (wx W σ)
end
theorem CE.can {X : Cx} {W : WX} {dk : Addr} {ca : Nat → Addr} {e : Expr} {f : EF} (h : CE X W dk ca e f) : PE X e (tE X.K dk ca W f) := by
  obtain ⟨t, p, q⟩ := h
  exact ⟨fun pins s σ H Q I ⟨Z, ρ, δ, sx, r⟩ => p.run pins s σ H Q I (q Z ρ δ σ H Q sx r)⟩
theorem CT.can {X : Cx} {W : WX} {dk : Addr} {ca : Nat → Addr} {e : Expr} {f : EF} (h : CT X W dk ca e f) : PT X e (tT X.K dk ca W f) := by
  obtain ⟨t, p, q⟩ := h
  exact ⟨fun pins s σ H Q I ⟨Z, ρ, δ, sx, r⟩ => p.run pins s σ H Q I (q Z ρ δ σ H Q sx r)⟩
def CI (X : Cx) (W : WX) (dk : Addr) (ca : Nat → Addr) (tg iter : Expr) (f : AF) : Prop := ∃ wi, PI X tg iter wi ∧ ∀ Z ρ δ σ H R, Sx X.K dk Z ρ δ σ H → RI X.K dk ca H Z (f ρ δ) R (wx W σ) → wi σ H R
theorem CI.can {X : Cx} {W : WX} {dk : Addr} {ca : Nat → Addr} {tg iter : Expr} {f : AF} (h : CI X W dk ca tg iter f) : PI X tg iter (tI X.K dk ca W f) := by
  obtain ⟨t, p, q⟩ := h
  exact ⟨fun pins s σ H Q I ⟨Z, ρ, δ, sx, r⟩ => p.run pins s σ H Q I (q Z ρ δ σ H Q sx r)⟩

section
variable {K : PySem.W.Frag} {dk : Addr} {H : Hp} {Z B : Addr → Prop}
theorem getn_of {xs : List D} {i : Nat} (h : xs.length ≤ i) : xs[i]? = none := List.getElem?_eq_none_iff.mpr h
/-- a list that stays -/
theorem itOk_list {a : Addr} {xs : List D} {vs : List V} (n : a ≠ dk) (e : H a = some (.lst vs)) (m : Z a ∨ B a) (r : Reps K dk H Z xs vs []) : ItOk K dk (Itl K a) xs H Z B := by
  intro i H'' Z'' k hk
  have e' : H'' a = some (.lst vs) := k.keep a _ m n e
  have r' := r.keep k (fun a m => nomatch m)
  refine ⟨fun h => ⟨vs, .inl (.inl e'), by rw [← r.len]; exact h⟩, fun d hd => ?_⟩
  obtain ⟨v, hv, rv⟩ := r'.get0 hd
  refine ⟨⟨vs, v, .inl (.inl e'), hv⟩, fun x H3 y => ?_⟩
  obtain ⟨eh, y⟩ := y
  subst eh
  have hx : vs[i]? = some x := y vs (.inl (.inl e'))
  rw [hv] at hx
  cases hx
  exact ⟨Grow.refl k.on, rfl, rv⟩
theorem itOk_tup {a : Addr} {xs : List D} {vs : List V} (n : a ≠ dk) (e : H a = some (.tup vs)) (r : Reps K dk H Z xs vs []) : ItOk K dk (Itt K a) xs H Z B := by
  intro i H'' Z'' k hk
  have e' : H'' a = some (.tup vs) := k.tups a _ n e
  have r' := r.keep k (fun a m => nomatch m)
  refine ⟨fun h => ⟨vs, .inl (.inl e'), by rw [← r.len]; exact h⟩, fun d hd => ?_⟩
  obtain ⟨v, hv, rv⟩ := r'.get0 hd
  refine ⟨⟨vs, v, .inl (.inl e'), hv⟩, fun x H3 y => ?_⟩
  obtain ⟨eh, y⟩ := y
  subst eh
  have hx : vs[i]? = some x := y vs (.inl (.inl e'))
  rw [hv] at hx
  cases hx
  exact ⟨Grow.refl k.on, rfl, rv⟩
/-- lo, lo + 1, .. -/
def rangeD (lo : Int) : Nat → List D
  | 0 => []
  | n + 1 => forceI lo fun i => .int i :: rangeD (i + 1) n
theorem rangeD_succ (lo : Int) (n : Nat) : rangeD lo (n + 1) = .int lo :: rangeD (lo + 1) n := by
  rw [rangeD, forceI_eq]
theorem rangeD_len : ∀ (n : Nat) (lo : Int), (rangeD lo n).length = n
  | 0, lo => rfl
  | n + 1, lo => by rw [rangeD_succ, List.length_cons, rangeD_len n]
theorem rangeD_get : ∀ (n : Nat) (lo : Int) (i : Nat) (d : D), (rangeD lo n)[i]? = some d → d = .int (lo + i) ∧ i < n
  | 0, lo, i, d, h => by simp [rangeD] at h
  | n + 1, lo, 0, d, h => by rw [rangeD_succ] at h; simp at h; subst h; simp
  | n + 1, lo, i + 1, d, h => by
    rw [rangeD_succ] at h
    obtain ⟨e, l⟩ := rangeD_get n (lo + 1) i d (by simpa using h)
    refine ⟨?_, by omega⟩
    rw [e]
    congr 1
    omega
theorem itOk_range {lo : Int} {n : Nat} : ItOk K dk (Itr lo n) (rangeD lo n) H Z B := by
  intro i H'' Z'' k hk
  refine ⟨fun h => by rw [rangeD_len] at h; exact h, fun d hd => ?_⟩
  obtain ⟨e, l⟩ := rangeD_get n lo i d hd
  subst e
  refine ⟨l, fun x H3 y => ?_⟩
  obtain ⟨eh, y⟩ := y
  subst eh y
  exact ⟨Grow.refl k.on, rfl, .int _⟩
end

/-- over a list or a tuple -/
def iSeq (f : EF) : AF := fun ρ δ => match f ρ δ with
  | .ok (.seq .tup xs) δ1 => .ok false xs δ1
  | .ok (.seq .lst xs) δ1 => .ok false xs δ1
  | .ok (.seq .ols xs) δ1 => (match xs.all shr with
    | true => .ok true xs δ1
    | false => .err)
  | .ok _ _ => .err
  | .exc c d δ' => .exc c d δ'
  | .err => .err
def rg2 : D → D → Option (List D)
  | .int i, .int j => match decide (-4611686018427387904 ≤ i) && decide (i < 4611686018427387904) && decide (-4611686018427387904 ≤ j) && decide (j < 4611686018427387904) with
    | true => some (rangeD i (j - i).toNat)
    | false => none
  | _, _ => none
def iRange1 (f : EF) : AF := fun ρ δ => match f ρ δ with
  | .ok j δ1 => (match rg2 (.int 0) j with
    | some xs => .ok false xs δ1
    | none => .err)
  | .exc c d δ' => .exc c d δ'
  | .err => .err
def iRange2 (f g : EF) : AF := fun ρ δ => match f ρ δ with
  | .ok i δ1 => (match g ρ δ1 with
    | .ok j δ2 => (match rg2 i j with
      | some xs => .ok false xs δ2
      | none => .err)
    | .exc c d δ' => .exc c d δ'
    | .err => .err)
  | .exc c d δ' => .exc c d δ'
  | .err => .err
section
variable {X : Cx} {W : WX} {dk : Addr} {ca : Nat → Addr} {tg a b : Expr} {f g : EF} {p pos : Pos}
def wSeq (K : PySem.W.Frag) (tl : TE) : TI := fun σ H R => tl σ H fun x H1 => ∃ a, x = .ref a ∧ (((∃ xs, SqL K H1 a xs) ∧ R (Itl K a) H1) ∨ ((∃ xs, SqT K H1 a xs) ∧ R (Itt K a) H1))
theorem pi_seq {l : Expr} {tl : TE} (hl : PE X l tl) : PI X tg l (wSeq X.K tl) := by
  refine ⟨fun pins s σ H R I h => ?_⟩
  refine thn (hl.run pins s σ H _ I h) fun v s1 ⟨x, H1, I1, r1, q1⟩ => ?_
  obtain ⟨a, e, q⟩ := q1
  subst e
  cases r1
  rcases q with ⟨⟨xs, hq⟩, q⟩ | ⟨⟨xs, hq⟩, q⟩
  · obtain ⟨its, rv, p, hz⟩ := I1.list hq
    refine wpAny_pyIter_list p.isList ?_
    refine ⟨s1.heap.objs.size, [s1.heap.objs.size], _, _, H1, rfl, I1.kept (t' := s1.toks) fun b o e => Heap.get?_push_of_some _ e, turn_list a _, ⟨_, Heap.get?_push_size _ rfl, rfl, rfl⟩, fun b hb => ?_, q⟩
    have e : b = s1.heap.objs.size := by simpa using hb
    subst e
    exact I1.fpOk (Nat.le_refl _) (I1.hok.fresh (Nat.le_refl _))
  · obtain ⟨its, rv, p, hz⟩ := I1.tuple hq
    refine wpAny_pyIter_tuple (show s1.heap.IsTuple a its.toArray from p) ?_
    refine ⟨s1.heap.objs.size, [s1.heap.objs.size], _, _, H1, rfl, I1.kept (t' := s1.toks) fun b o e => Heap.get?_push_of_some _ e, turn_tuple a _, ⟨_, Heap.get?_push_size _ rfl, rfl, rfl⟩, fun b hb => ?_, q⟩
    have e : b = s1.heap.objs.size := by simpa using hb
    subst e
    exact I1.fpOk (Nat.le_refl _) (I1.hok.fresh (Nat.le_refl _))
theorem ci_seq (h1 : CB X W dk ca a f) : CI X W dk ca tg a (iSeq f) := by
  obtain ⟨t, p, q⟩ := h1
  refine ⟨_, pi_seq p, fun Z ρ δ σ H R s h => q Z ρ δ σ H _ s ?_⟩
  unfold iSeq at h
  cases e1 : f ρ δ with
  | err => rw [e1] at h; exact h
  | exc c d δ' => rw [e1] at h; exact h
  | ok d δ1 =>
    rw [e1] at h
    intro v H1 Z1 A1 g1 k1 r1
    split at h
    · rename_i xs δ2 heq
      cases heq
      obtain ⟨a, vs, rfl, n, ea, rs⟩ := r1.tupAt
      exact ⟨a, rfl, .inr ⟨⟨vs, .inl (.inl ea)⟩, h _ H1 Z1 (fun _ => False) g1 k1 (itOk_tup n ea rs) (fun a z => z.elim) fun _ a z => z⟩⟩
    · rename_i xs δ2 heq
      cases heq
      cases r1 with
      | lst z n ea rs => exact ⟨_, rfl, .inl ⟨⟨_, .inl (.inl ea)⟩, h _ H1 Z1 (fun _ => False) g1 k1 (itOk_list n ea (.inl z) rs) (fun a z => z.elim) fun _ a z => z⟩⟩
    · rename_i xs δ2 heq
      cases heq
      cases c : xs.all shr with
      | false => simp only [c] at h; exact h.elim
      | true =>
        simp only [c] at h
        cases r1 with
        | ols n ea rs =>
          rename_i a vs A
          have := rs.noown c
          subst this
          exact ⟨_, rfl, .inl ⟨⟨_, .inl (.inl ea)⟩, h _ H1 Z1 (fun b => b = a) g1 k1 (itOk_list n ea (.inr rfl) rs) (fun b z => by subst z; exact ⟨n, by rw [ea]; exact fun z => nomatch z⟩) fun z => nomatch z⟩⟩
    · exact h.elim
    · rename_i h1 h2 h3 heq
      cases heq
    · rename_i heq
      cases heq
/-- a fresh list is frozen, then walked -/
def iSeqF (f : EF) : AF := fun ρ δ => match f ρ δ with
  | .ok (.seq .tup xs) δ1 => .ok false xs δ1
  | .ok (.seq .lst xs) δ1 => .ok false xs δ1
  | .ok (.seq .ols xs) δ1 => .ok false (fzs xs) δ1
  | .ok _ _ => .err
  | .exc c d δ' => .exc c d δ'
  | .err => .err
theorem ci_seqF (h1 : CE X W dk ca a f) : CI X W dk ca tg a (iSeqF f) := by
  obtain ⟨t, p, q⟩ := h1
  refine ⟨_, pi_seq p, fun Z ρ δ σ H R s h => q Z ρ δ σ H _ s ?_⟩
  unfold iSeqF at h
  cases e1 : f ρ δ with
  | err => rw [e1] at h; exact h
  | exc c d δ' => rw [e1] at h; exact h
  | ok d δ1 =>
    rw [e1] at h
    intro v H1 Z1 A1 g1 k1 r1 n1 f1
    split at h
    · rename_i xs δ2 heq
      cases heq
      obtain ⟨a, vs, rfl, n, ea, rs⟩ := r1.tupAt
      exact ⟨a, rfl, .inr ⟨⟨vs, .inl (.inl ea)⟩, h _ H1 Z1 (fun _ => False) g1 k1 (itOk_tup n ea rs) (fun a z => z.elim) fun _ a z => z⟩⟩
    · rename_i xs δ2 heq
      cases heq
      cases r1 with
      | lst z n ea rs => exact ⟨_, rfl, .inl ⟨⟨_, .inl (.inl ea)⟩, h _ H1 Z1 (fun _ => False) g1 k1 (itOk_list n ea (.inl z) rs) (fun a z => z.elim) fun _ a z => z⟩⟩
    · rename_i xs δ2 heq
      cases heq
      have g1' := g1.freeze r1.own fun a m => (f1 a m).1
      cases r1 with
      | ols n ea rs =>
        rename_i a vs A
        have rs' := rs.fzs (Z' := fun b => Z1 b ∨ b ∈ a :: A) (fun a z => .inl z) fun b m => .inr (List.mem_cons_of_mem _ m)
        exact ⟨_, rfl, .inl ⟨⟨_, .inl (.inl ea)⟩, h _ H1 _ (fun _ => False) g1' k1 (itOk_list n ea (.inl (.inr List.mem_cons_self)) rs') (fun a z => z.elim) fun _ a z => z⟩⟩
    · exact h.elim
    · rename_i h1 h2 h3 heq
      cases heq
    · rename_i heq
      cases heq
theorem rg2_int {x y : D} {xs : List D} (h : rg2 x y = some xs) : (∃ i, x = .int i) ∧ ∃ j, y = .int j := by
  unfold rg2 at h
  split at h
  · exact ⟨⟨_, rfl⟩, ⟨_, rfl⟩⟩
  · cases h
theorem rg2_ok {i j : Int} {xs : List D} (h : rg2 (.int i) (.int j) = some xs) : xs = rangeD i (j - i).toNat ∧ -(2 ^ 62) ≤ i ∧ i < 2 ^ 62 ∧ -(2 ^ 62) ≤ j ∧ j < 2 ^ 62 := by
  simp only [rg2] at h
  cases c : decide (-4611686018427387904 ≤ i) && decide (i < 4611686018427387904) && decide (-4611686018427387904 ≤ j) && decide (j < 4611686018427387904) with
  | false => rw [c] at h; cases h
  | true =>
    rw [c] at h
    cases h
    simp only [Bool.and_eq_true, decide_eq_true_eq] at c
    refine ⟨rfl, ?_⟩
    have : ((2 : Int) ^ 62) = 4611686018427387904 := by decide
    omega
theorem ci_range1 (hg : Gl X "range") (hm : X.mg "range" = none) (h1 : CB X W dk ca a f) (hs : starEach [a] X.env = [(false, eval a X.env)] := by rfl) : CI X W dk ca tg (.Call (.Name "range" p) [a] [] pos) (iRange1 f) := by
  obtain ⟨t, pt, q⟩ := h1
  refine ⟨_, pi_range1 hg hm (pa_cons pt pa_nil (hs.trans rfl)) hs, fun Z ρ δ σ H R s h => q Z ρ δ σ H _ s ?_⟩
  unfold iRange1 at h
  cases e1 : f ρ δ with
  | err => rw [e1] at h; exact h
  | exc c d δ' => rw [e1] at h; exact h
  | ok d δ1 =>
    rw [e1] at h
    intro v H1 Z1 A1 g1 k1 r1
    cases e2 : rg2 (.int 0) d with
    | none => simp only [e2] at h; exact h.elim
    | some xs =>
      simp only [e2] at h
      obtain ⟨_, j, ej⟩ := rg2_int e2
      subst ej
      cases r1 with
      | int j =>
        obtain ⟨e, h1, h2, h3, h4⟩ := rg2_ok e2
        subst e
        refine ⟨j, rfl, h3, h4, h _ H1 Z1 (fun _ => False) g1 k1 ?_ (fun a z => z.elim) fun _ a z => z⟩
        have : (j - 0).toNat = j.toNat := by rw [Int.sub_zero]
        rw [this]
        exact itOk_range
theorem ci_range2 (hg : Gl X "range") (hm : X.mg "range" = none) (h1 : CB X W dk ca a f) (h2 : CB X W dk ca b g) (hs : starEach [a, b] X.env = [(false, eval a X.env), (false, eval b X.env)] := by rfl) (hs2 : starEach [b] X.env = [(false, eval b X.env)] := by rfl) :
    CI X W dk ca tg (.Call (.Name "range" p) [a, b] [] pos) (iRange2 f g) := by
  obtain ⟨t, pt, q⟩ := h1
  obtain ⟨t2, pt2, q2⟩ := h2
  refine ⟨_, pi_range2 hg hm (pa_cons pt (pa_cons pt2 pa_nil (hs2.trans rfl)) (by rw [hs, hs2])) hs hs2, fun Z ρ δ σ H R s h => q Z ρ δ σ H _ s ?_⟩
  unfold iRange2 at h
  cases e1 : f ρ δ with
  | err => rw [e1] at h; exact h
  | exc c d δ' => rw [e1] at h; exact h
  | ok d δ1 =>
    rw [e1] at h
    intro v H1 Z1 A1 g1 k1 r1
    refine q2 Z1 ρ δ1 σ H1 _ (s.grow g1 k1) ?_
    cases e2 : g ρ δ1 with
    | err => simp only [e2] at h; exact h
    | exc c d δ' => simp only [e2] at h; exact RX.grow h g1
    | ok d2 δ2 =>
      simp only [e2] at h
      intro u H2 Z2 A2 g2 k2 r2
      cases e3 : rg2 d d2 with
      | none => simp only [e3] at h; exact h.elim
      | some xs =>
        simp only [e3] at h
        obtain ⟨⟨i, ei⟩, j, ej⟩ := rg2_int e3
        subst ei ej
        cases r1 with
        | int i =>
          cases r2 with
          | int j =>
            obtain ⟨e, h1, h2, h3, h4⟩ := rg2_ok e3
            subst e
            exact ⟨i, j, rfl, ⟨h1, h2, h3, h4⟩, h _ H2 Z2 (fun _ => False) (g1.trans g2) k2 itOk_range (fun a z => z.elim) fun _ a z => z⟩
end
end Zv
namespace Zv
open PySem PySem.Spec PyProof.Rows L2

/-! ## targets -/
def stD : List D → Nat → D → List D
  | [], _, _ => []
  | _ :: ds, 0, d => d :: ds
  | x :: ds, n + 1, d => x :: stD ds n d
def wipeD (ρ : List D) : List Nat → List D
  | [] => ρ
  | i :: is => stD (wipeD ρ is) i .un
theorem wipe_set1 (σ : L2.St) (i : Nat) (x y : Option V) : ∀ vs : List Nat, (wipe (σ.set i x) vs).set i y = (wipe σ vs).set i y
  | [] => by
    show (σ.set i x).set i y = σ.set i y
    exact List.set_set ..
  | v :: vs => by
    show ((wipe (σ.set i x) vs).set v none).set i y = ((wipe σ vs).set v none).set i y
    by_cases h : v = i
    · subst h
      rw [List.set_set, List.set_set]
      exact wipe_set1 σ v x y vs
    · rw [List.set_comm none y h, wipe_set1 σ i x y vs, List.set_comm y none (Ne.symm h)]
theorem wipe_set (σ : L2.St) (i : Nat) (x : Option V) : ∀ {vs : List Nat}, i ∈ vs → wipe (σ.set i x) vs = wipe σ vs
  | v :: vs, h => by
    show (wipe (σ.set i x) vs).set v none = (wipe σ vs).set v none
    by_cases e : i = v
    · subst e
      exact wipe_set1 σ i x none vs
    · rw [wipe_set σ i x (by simpa [e] using h)]
section
variable {K : PySem.W.Frag} {dk : Addr} {H : Hp} {Z : Addr → Prop}
theorem stD_len : ∀ (ρ : List D) (i : Nat) (d : D), (stD ρ i d).length = ρ.length
  | [], _, _ => rfl
  | _ :: _, 0, _ => rfl
  | x :: ds, n + 1, d => by simp [stD, stD_len ds n d]
/-- a slot is set -/
theorem Slots.set : ∀ {ρ : List D} {σ : L2.St} {A B : List Addr} {i : Nat} {d : D} {v : V}, Slots K dk H Z ρ σ A → Rep K dk H Z d v B → ∃ A', Slots K dk H Z (stD ρ i d) (σ.set i (some v)) A' ∧ (∀ a ∈ A', a ∈ A ∨ a ∈ B) ∧ (A.Nodup → B.Nodup → (∀ a ∈ B, a ∉ A) → A'.Nodup)
  | _, _, _, _, _, _, _, .nil, r => ⟨[], .nil, fun a m => .inl m, fun h _ _ => h⟩
  | _, _, A, B, 0, d, v, .un s, r => ⟨B ++ A, .cons r s, fun a m => (List.mem_append.mp m).symm, fun h1 h2 h3 => List.nodup_append.mpr ⟨h2, h1, fun a m b m' e => h3 a m (e ▸ m')⟩⟩
  | _, _, _, B, 0, d, v, .cons (A := A1) (B := A2) a s, r => ⟨B ++ A2, .cons r s, fun a m => (List.mem_append.mp m).elim .inr fun m => .inl (List.mem_append_right _ m), fun h1 h2 h3 => List.nodup_append.mpr ⟨h2, (List.nodup_append.mp h1).2.1, fun a m b m' e => h3 a m (List.mem_append_right _ (e ▸ m'))⟩⟩
  | _, _, _, B, i + 1, d, v, .un s, r => by
    obtain ⟨A', s', h1, h2⟩ := s.set (i := i) r
    exact ⟨A', .un s', h1, h2⟩
  | _, _, _, B, i + 1, d, v, .cons (A := A1) (B := A2) a s, r => by
    obtain ⟨A', s', h1, h2⟩ := s.set (i := i) r
    refine ⟨A1 ++ A', .cons a s', fun x m => ?_, fun n1 n2 n3 => ?_⟩
    · rcases List.mem_append.mp m with m | m
      · exact .inl (List.mem_append_left _ m)
      · exact (h1 x m).imp (List.mem_append_right _) id
    · obtain ⟨q1, q2, q3⟩ := List.nodup_append.mp n1
      refine List.nodup_append.mpr ⟨q1, h2 q2 n2 fun x m m' => n3 x m (List.mem_append_right _ m'), fun x m y m' e => ?_⟩
      subst e
      rcases h1 x m' with z | z
      · exact q3 x m x z rfl
      · exact n3 x z (List.mem_append_left _ m)
/-- a slot is forgotten -/
theorem Slots.drop : ∀ {ρ : List D} {σ : L2.St} {A : List Addr} {i : Nat} {x : Option V}, Slots K dk H Z ρ σ A → ∃ A', Slots K dk H Z (stD ρ i .un) (σ.set i x) A' ∧ (∀ a ∈ A', a ∈ A) ∧ (A.Nodup → A'.Nodup)
  | _, _, _, _, _, .nil => ⟨[], .nil, fun a m => m, fun h => h⟩
  | _, _, A, 0, x, .un s => ⟨A, .un s, fun a m => m, fun h => h⟩
  | _, _, _, 0, x, .cons (A := A1) (B := A2) a s => ⟨A2, .un s, fun a m => List.mem_append_right _ m, fun h => (List.nodup_append.mp h).2.1⟩
  | _, _, _, i + 1, x, .un s => by
    obtain ⟨A', s', h1, h2⟩ := s.drop (i := i) (x := x)
    exact ⟨A', .un s', h1, h2⟩
  | _, _, _, i + 1, x, .cons (A := A1) (B := A2) a s => by
    obtain ⟨A', s', h1, h2⟩ := s.drop (i := i) (x := x)
    refine ⟨A1 ++ A', .cons a s', fun y m => ?_, fun n => ?_⟩
    · rcases List.mem_append.mp m with m | m
      · exact List.mem_append_left _ m
      · exact List.mem_append_right _ (h1 y m)
    · obtain ⟨q1, q2, q3⟩ := List.nodup_append.mp n
      exact List.nodup_append.mpr ⟨q1, h2 q2, fun x m y m' e => q3 x m y (h1 y m') e⟩
theorem Slots.wipe : ∀ {vs : List Nat} {ρ : List D} {σ : L2.St} {A : List Addr}, Slots K dk H Z ρ σ A → ∃ A', Slots K dk H Z (wipeD ρ vs) (L2.wipe σ vs) A' ∧ (∀ a ∈ A', a ∈ A) ∧ (A.Nodup → A'.Nodup)
  | [], _, _, A, s => ⟨A, s, fun _ m => m, fun h => h⟩
  | v :: vs, _, _, A, s => by
    obtain ⟨A1, s1, h1, h2⟩ := s.wipe (vs := vs)
    obtain ⟨A2, s2, h3, h4⟩ := s1.drop (i := v) (x := none)
    exact ⟨A2, s2, fun a m => h1 a (h3 a m), fun h => h4 (h2 h)⟩
end
def CG (X : Cx) (dk : Addr) (tg : Expr) (is : List Nat) (g : D → List D → Option (List D)) : Prop := ∃ t, PG X tg t ∧ ∀ d v ρ ρ' σ H Z A (Q : L2.St → Hp → Prop), Rep X.K dk H Z d v [] → Slots X.K dk H Z ρ σ A → g d ρ = some ρ' →
  (∀ σ' A', Slots X.K dk H Z ρ' σ' A' → (A.Nodup → A'.Nodup) → (∀ a ∈ A', a ∈ A) → (∀ vs : List Nat, (∀ i ∈ is, i ∈ vs) → wipe σ' vs = wipe σ vs) → Q σ' H) → t v σ H Q
def CGs (X : Cx) (dk : Addr) (tg : List Expr) (is : List Nat) (g : List D → List D → Option (List D)) : Prop := ∃ t, PGs X tg t ∧ ∀ d v ρ ρ' σ H Z A (Q : L2.St → Hp → Prop), Reps X.K dk H Z d v [] → Slots X.K dk H Z ρ σ A → g d ρ = some ρ' →
  (∀ σ' A', Slots X.K dk H Z ρ' σ' A' → (A.Nodup → A'.Nodup) → (∀ a ∈ A', a ∈ A) → (∀ vs : List Nat, (∀ i ∈ is, i ∈ vs) → wipe σ' vs = wipe σ vs) → Q σ' H) → t v σ H Q
def tgN (i : Nat) : D → List D → Option (List D) := fun d ρ => match shr d with
  | true => some (stD ρ i d)
  | false => none
def tgNil : List D → List D → Option (List D) := fun ds ρ => match ds with
  | [] => some ρ
  | _ :: _ => none
def tgCons (g : D → List D → Option (List D)) (h : List D → List D → Option (List D)) : List D → List D → Option (List D) := fun ds ρ => match ds with
  | [] => none
  | d :: ds => match g d ρ with
    | some ρ1 => h ds ρ1
    | none => none
def tgT (n : Nat) (h : List D → List D → Option (List D)) : D → List D → Option (List D) := fun d ρ => match d with
  | .seq .tup xs => match Nat.beq xs.length n with
    | true => h xs ρ
    | false => none
  | _ => none
section
variable {X : Cx} {dk : Addr} {pos : Pos}
theorem cg_name {x : Str} (i : Nat) (hN : X.N.Nodup) (hi : X.N[i]? = some x := by rfl) (hx : Loc X.env.scope x := by first | exact Or.inl rfl | exact Or.inr rfl) (hf : X.fn x = true ∨ X.env.scope.names.lookup x = some .local := by first | exact .inl rfl | exact .inr rfl | assumption) : CG X dk (.Name x pos) [i] (tgN i) := by
  refine ⟨_, pg_name hN hi hx hf, fun d v ρ ρ' σ H Z A Q r s e q => ?_⟩
  unfold tgN at e
  cases c : shr d with
  | false => rw [c] at e; cases e
  | true =>
    rw [c] at e
    cases e
    obtain ⟨A', s', h1, h2⟩ := s.set (i := i) r
    exact q _ A' s' (fun n => h2 n .nil fun a m => nomatch m) (fun a m => (h1 a m).elim id fun z => nomatch z) fun vs hv => wipe_set _ _ _ (hv i List.mem_cons_self)
theorem cgs_nil : CGs X dk [] [] tgNil := by
  refine ⟨_, pgs_nil, fun d v ρ ρ' σ H Z A Q r s e q => ?_⟩
  unfold tgNil at e
  split at e
  · cases e
    cases r
    exact ⟨rfl, q _ A s id (fun a m => m) fun vs _ => rfl⟩
  · cases e
theorem Reps.cut1 {K : PySem.W.Frag} {H : Hp} {Z : Addr → Prop} {d : D} {ds : List D} {vs : List V} {A : List Addr} (r : Reps K dk H Z (d :: ds) vs A) (ha : A = []) : ∃ v us, vs = v :: us ∧ Rep K dk H Z d v [] ∧ Reps K dk H Z ds us [] := by
  cases r with
  | cons a r =>
    obtain ⟨ea1, ea2⟩ := List.append_eq_nil_iff.mp ha
    subst ea1 ea2
    exact ⟨_, _, rfl, a, r⟩
theorem cgs_cons {e : Expr} {es : List Expr} {is js : List Nat} {g : D → List D → Option (List D)} {h : List D → List D → Option (List D)} (h1 : CG X dk e is g) (h2 : CGs X dk es js h)
    (hs : (assignEach (e :: es) X.env).map (·.2) = assign e X.env :: (assignEach es X.env).map (·.2) := by rfl) : CGs X dk (e :: es) (is ++ js) (tgCons g h) := by
  obtain ⟨t1, p1, q1⟩ := h1
  obtain ⟨t2, p2, q2⟩ := h2
  refine ⟨_, pgs_cons p1 p2 hs, fun d v ρ ρ' σ H Z A Q r s e q => ?_⟩
  unfold tgCons at e
  split at e
  · cases e
  · rename_i d1 ds1
    cases e1 : g d1 ρ with
    | none => rw [e1] at e; cases e
    | some ρ1 =>
      rw [e1] at e
      have e : h ds1 ρ1 = some ρ' := e
      obtain ⟨v1, vs1, ev, ra, rr⟩ := r.cut1 rfl
      refine ⟨v1, vs1, ev, q1 _ _ ρ ρ1 σ H Z A _ ra s e1 fun σ1 A1 s1 n1 m1 w1 => ?_⟩
      refine q2 _ _ ρ1 ρ' σ1 H Z A1 _ rr s1 e fun σ2 A2 s2 n2 m2 w2 => ?_
      exact q σ2 A2 s2 (fun n => n2 (n1 n)) (fun a m => m1 a (m2 a m)) fun vs hv => (w2 vs fun i m => hv i (List.mem_append_right _ m)).trans (w1 vs fun i m => hv i (List.mem_append_left _ m))
theorem cg_tup {es : List Expr} {k n : Nat} {is : List Nat} {h : List D → List D → Option (List D)} (hc : X.calm = true) (h1 : CGs X dk es is h) (hn : (assignEach es X.env).length = n := by rfl) (hst : (assignEach es X.env).findIdx? (·.1) = none := by rfl) :
    CG X dk (.Tuple es k pos) is (tgT n h) := by
  obtain ⟨t1, p1, q1⟩ := h1
  refine ⟨_, pg_tup hc p1 hn hst, fun d v ρ ρ' σ H Z A Q r s e q => ?_⟩
  unfold tgT at e
  split at e
  · rename_i xs
    cases c : Nat.beq xs.length n with
    | false => rw [c] at e; cases e
    | true =>
      rw [c] at e
      have e : h xs ρ = some ρ' := e
      obtain ⟨a, vs, rfl, na, ea, rs⟩ := r.tupAt
      refine ⟨a, vs, rfl, .inl (.inl ea), ?_, q1 _ _ ρ ρ' σ H Z A _ rs s e q⟩
      rw [← rs.len]
      exact Nat.eq_of_beq_eq_true c
  · cases e
end
end Zv
namespace Zv
open PySem PySem.Spec PyProof.Rows L2

/-! ## list comprehensions of any number of clauses -/
theorem compTurn_in (elt t1 i1 : Expr) (ifs1 : List Expr) (gens : List Comprehension) (k : Nat) (scope : Scope) (pos : Pos) (it acc : Value) (env : Env) (h1 : gens[k]? = some ⟨t1, i1, ifs1, 0⟩) (h2 : gens[k + 1]? = none) :
    compTurn (.ListComp elt gens scope pos) k it acc env = (do
      standAt i1.pos
      match ← pyNext it with
      | none => pure (.done .next)
      | some v =>
        letOwnedTupleGo t1 it v
        assign t1 env v
        let mut ok := true
        for c in ifs1 do
          if ok then ok ← isTrue c env (eval c env)
        if ok then
          (do let _ ← call (.builtin "list.append") [acc, ← eval elt env])
        again (.compLoop (.ListComp elt gens scope pos) k it acc env)) := by
  simp only [compTurn, h1, h2]
  rfl
theorem compTurn_out (elt t0 i0 t1 i1 : Expr) (ifs0 ifs1 : List Expr) (gens : List Comprehension) (k : Nat) (scope : Scope) (pos : Pos) (it acc : Value) (env : Env) (h1 : gens[k]? = some ⟨t0, i0, ifs0, 0⟩) (h2 : gens[k + 1]? = some ⟨t1, i1, ifs1, 0⟩) :
    compTurn (.ListComp elt gens scope pos) k it acc env = (do
      standAt i0.pos
      match ← pyNext it with
      | none => pure (.done .next)
      | some v =>
        letOwnedTupleGo t0 it v
        assign t0 env v
        let mut ok := true
        for c in ifs0 do
          if ok then ok ← isTrue c env (eval c env)
        if ok then
          let x ← eval i1 env
          standAt i1.pos
          let x ← foldedSetIterable i1 env x
          let _ ← runOwn (.compStart (.ListComp elt gens scope pos) (k + 1) (← holding [x] (pyIter x)) acc env) env
        again (.compLoop (.ListComp elt gens scope pos) k it acc env)) := by
  simp only [compTurn, h1, h2]
  rfl
abbrev NoX : Value → Shared → Prop := fun _ _ => False
section
variable {prog : Program} {w : World} {A : Around} {s : Shared} {elt tg iter : Expr} {ifs : List Expr} {gens : List Comprehension} {k : Nat} {scope : Scope} {pos : Pos} {it acc : Value} {env : Env}
/-- how the loop of a clause is walked when its turn's body does Bd -/
def LoopRule (prog : Program) (w : World) (A : Around) (elt : Expr) (gens : List Comprehension) (scope : Scope) (pos : Pos) (k : Nat) (tg : Expr) (ifs : List Expr) (it acc : Value) (env : Env) (Bd : (Shared → Prop) → Shared → Prop) : Prop :=
  ∀ (R : Result → Shared → Prop) (I : Nat → Shared → Prop), (∀ n s, I n s → wpAny (model prog w) A (pyNext it) (fun r s₁ => match r with
      | none => R (.ok .next) s₁
      | some v => wpAny (model prog w) A (letOwnedTupleGo tg it v) (fun _ s₁' => wpAny (model prog w) A (assign tg env v) (fun _ s₂ =>
          wpAny (model prog w) A (forIn ifs true fun c r => if r = true then do let ok ← isTrue c env (eval c env); pure (ForInStep.yield ok) else pure (ForInStep.yield r)) (fun ok s₃ =>
            if ok = true then Bd (fun s' => ∃ m, m < n ∧ I m s') s₃ else ∃ m, m < n ∧ I m s₃) NoX s₂) NoX s₁') NoX s₁) NoX s) →
    ∀ n s, I n s → codeAny (model prog w) A (.compLoop (.ListComp elt gens scope pos) k it acc env) R s
def BodyIn (prog : Program) (w : World) (A : Around) (elt : Expr) (acc : Value) (env : Env) (P : Shared → Prop) (s : Shared) : Prop :=
  wpAny (model prog w) A (eval elt env) (fun x s₄ => wpAny (model prog w) A (call (.builtin "list.append") [acc, x]) (fun _ s₅ => P s₅) NoX s₄) NoX s
def BodyOut (prog : Program) (w : World) (A : Around) (elt : Expr) (gens : List Comprehension) (scope : Scope) (pos : Pos) (k : Nat) (i1 : Expr) (acc : Value) (env : Env) (P : Shared → Prop) (s : Shared) : Prop :=
  wpAny (model prog w) A (eval i1 env) (fun x s₄ => wpAny (model prog w) A (pyIter x) (fun it1 s₅ =>
    codeAny (model prog w) A (.compStart (.ListComp elt gens scope pos) (k + 1) it1 acc env) (fun r s' => match r with
      | .ok _ => P s'
      | .error _ => False) s₅) NoX s₄) NoX s
theorem noN {α : Type} {t : Sem α} {Q : α → Shared → Prop} {M : Model} {A : Around} {E : Value → Shared → Prop} {s : Shared} (h : wpAny M A t Q NoX s) : wpAny M A t Q E s := wpAny_mono h (fun _ _ q => q) fun _ _ z => False.elim z
theorem loop_in (h1 : gens[k]? = some ⟨tg, iter, ifs, 0⟩) (h2 : gens[k + 1]? = none) : LoopRule prog w A elt gens scope pos k tg ifs it acc env (BodyIn prog w A elt acc env) := by
  intro R I turn n s h
  refine codeAny_loop rfl I (fun n s hI => ?_) n h
  show wpAny _ A ((compTurn (.ListComp elt gens scope pos) k it acc env).onRaise (fun x => do noteFrame x env; theTreesLotGoes x)) _ _ s
  refine wpAny_noted ?_
  rw [compTurn_in elt tg iter ifs gens k scope pos it acc env h1 h2]
  refine wpAny_bind (wpAny_standAt (wpAny_bind (thnF (turn n s hI) fun r s₁ h₁ => ?_)))
  cases r with
  | none => exact wpAny_pure h₁
  | some v =>
    refine wpAny_bind (thnF h₁ fun _ s₁' h₁' => ?_)
    refine wpAny_bind (thnF h₁' fun _ s₂ h₂ => wpAny_bind (thnF h₂ fun ok s₃ h₃ => ?_))
    cases ok with
    | false => exact wpAny_pure ⟨rfl, h₃⟩
    | true =>
      simp only [if_true] at h₃
      exact wpAny_bind (wpAny_bind (thnF h₃ fun x s₄ h₄ => wpAny_bind (thnF h₄ fun _ s₅ h₅ => wpAny_pure (wpAny_pure ⟨rfl, h₅⟩))))
theorem loop_out {t1 i1 : Expr} {ifs1 : List Expr} (h1 : gens[k]? = some ⟨tg, iter, ifs, 0⟩) (h2 : gens[k + 1]? = some ⟨t1, i1, ifs1, 0⟩) (hs : ∀ x, foldedSetIterable i1 env x = pure x) :
    LoopRule prog w A elt gens scope pos k tg ifs it acc env (BodyOut prog w A elt gens scope pos k i1 acc env) := by
  intro R I turn n s h
  refine codeAny_loop rfl I (fun n s hI => ?_) n h
  show wpAny _ A ((compTurn (.ListComp elt gens scope pos) k it acc env).onRaise (fun x => do noteFrame x env; theTreesLotGoes x)) _ _ s
  refine wpAny_noted ?_
  rw [compTurn_out elt tg iter t1 i1 ifs ifs1 gens k scope pos it acc env h1 h2]
  refine wpAny_bind (wpAny_standAt (wpAny_bind (thnF (turn n s hI) fun r s₁ h₁ => ?_)))
  cases r with
  | none => exact wpAny_pure h₁
  | some v =>
    refine wpAny_bind (thnF h₁ fun _ s₁' h₁' => ?_)
    refine wpAny_bind (thnF h₁' fun _ s₂ h₂ => wpAny_bind (thnF h₂ fun ok s₃ h₃ => ?_))
    cases ok with
    | false => exact wpAny_pure ⟨rfl, h₃⟩
    | true =>
      simp only [if_true] at h₃
      refine wpAny_bind (thnF h₃ fun x s₄ h₄ => ?_)
      refine wpAny_bind (wpAny_standAt (wpAny_bind (wpAny_of_eq (hs x) (wpAny_bind (wpAny_holding (thnF h₄ fun it1 s₅ h₅ => ?_))))))
      refine wpAny_bind (wpAny_runOwn ?_)
      rw [Around.mark_none]
      refine codeAny_mono h₅ fun r s' hr => ?_
      cases r with
      | ok f =>
        first
          | exact wpAny_pure ⟨rfl, hr⟩
          | exact wpAny_bind (wpAny_pure (wpAny_pure ⟨rfl, hr⟩))
      | error e => exact hr.elim
theorem compStart_ok {R : Result → Shared → Prop} (h1 : gens[k]? = some ⟨tg, iter, ifs, 0⟩) (h0 : codeAny (model prog w) A (.compLoop (.ListComp elt gens scope pos) k it acc env) R s)
    (h : wpAny (model prog w) A (pyIter it) (fun it' s' => codeAny (model prog w) A (.compLoop (.ListComp elt gens scope pos) k it' acc env) R s') NoX s) :
    codeAny (model prog w) A (.compStart (.ListComp elt gens scope pos) k it acc env) R s := by
  refine codeAny_of_tree ?_
  show wpAny _ _ ((compStart (.ListComp elt gens scope pos) k it acc env).onRaise (fun x => do noteFrame x env; standAt theWindowsPlace)) _ _ s
  refine wpAny_notedAt ?_
  simp only [compStart, clausesOf, h1]
  show wpAny _ _ (ask >>= _) _ _ s
  refine wpAny_bind (wpAny_askSetting (wpAny_ite ?_))
  split
  · first
      | exact wpAny_bind (wpAny_pure (wpAny_pure (And.intro rfl h0)))
      | exact wpAny_pure (And.intro rfl h0)
  · first
      | exact wpAny_bind (wpAny_rule (wpAny_bind (wpAny_standAt (wpAny_bind (thnF h fun it' s' h' => wpAny_pure (And.intro rfl h'))))))
      | (refine wpAny_bind (wpAny_rule ?_); show wpAny _ _ (standAt iter.pos >>= _) _ _ s; exact wpAny_bind (wpAny_standAt (wpAny_bind (thnF h fun it' s' h' => wpAny_pure (And.intro rfl h')))))
end
end Zv
namespace Zv
open PySem PySem.Spec PyProof.Rows L2

/-! ## comprehensions by value -/
inductive RC where
  | ok (n : Nat) (acc : List D) (δ : List Int)
  | err
abbrev CF := List D → Nat → List D → List Int → RC
def cElt (f : EF) : CF := fun ρ n acc δ => match f ρ δ with
  | .ok d δ' => (match n with
    | .zero => .err
    | .succ m => .ok m (d :: acc) δ')
  | _ => .err
def cLoop (g : D → List D → Option (List D)) (tt : EF) (fb : CF) (ρ : List D) : List D → Nat → List D → List Int → RC
  | [], n, acc, δ => .ok n acc δ
  | x :: xs, n, acc, δ => match g x ρ with
    | none => .err
    | some ρ1 => match tt ρ1 δ with
      | .ok (.atm (.bl b)) δ1 => (match b with
        | true => (match fb ρ1 n acc δ1 with
          | .ok n' acc' δ' => cLoop g tt fb ρ xs n' acc' δ'
          | .err => .err)
        | false => cLoop g tt fb ρ xs n acc δ1)
      | _ => .err
def cFor (f : AF) (g : D → List D → Option (List D)) (tt : EF) (vs : List Nat) (fb : CF) : CF := fun ρ n acc δ => match f ρ δ with
  | .ok t items δ1 => (match t with
    | false => cLoop g tt fb (wipeD ρ vs) items n acc δ1
    | true => .err)
  | _ => .err
def gas0 : Nat := 1000000
def eComp (f : AF) (g : D → List D → Option (List D)) (tt : EF) (vs : List Nat) (fb : CF) : EF := fun ρ δ => match f ρ δ with
  | .ok _ items δ1 => (match cLoop g tt fb (wipeD ρ vs) items gas0 [] δ1 with
    | .ok _ acc δ2 => .ok (.ols acc.reverse) δ2
    | .err => .err)
  | .exc c d δ' => .exc c d δ'
  | .err => .err

section
variable {K : PySem.W.Frag} {dk L : Addr} {Hb H H' H'' : Hp} {Z Z' Z'' : Addr → Prop}
structure GrowX (dk L : Addr) (H : Hp) (Z : Addr → Prop) (H' : Hp) (Z' : Addr → Prop) : Prop where
  z : ∀ a, Z a → Z' a
  new : ∀ a, Z' a → Z a ∨ H a = none
  on : ∀ a, Z' a → a ≠ dk ∧ H' a ≠ none
  same : ∀ b o, b ≠ dk → b ≠ L → H b = some o → H' b = some o
theorem GrowX.refl (h : ZOn dk H Z) : GrowX dk L H Z H Z := ⟨fun _ h => h, fun _ h => .inl h, h, fun _ _ _ _ h => h⟩
theorem GrowX.nn (g : GrowX dk L H Z H' Z') {a : Addr} (h1 : a ≠ dk) (h2 : a ≠ L) (e : H' a = none) : H a = none := by
  cases h : H a with
  | none => rfl
  | some o => rw [g.same a o h1 h2 h] at e; cases e
theorem GrowX.trans (g : GrowX dk L H Z H' Z') (g' : GrowX dk L H' Z' H'' Z'') (hD : H' L ≠ none) : GrowX dk L H Z H'' Z'' where
  z := fun a h => g'.z a (g.z a h)
  new := fun a h => by
    rcases g'.new a h with h' | h'
    · exact g.new a h'
    · exact .inr (g.nn (g'.on a h).1 (fun e => hD (e ▸ h')) h')
  on := g'.on
  same := fun b o n1 n2 e => g'.same b o n1 n2 (g.same b o n1 n2 e)
theorem Grow.growX (g : Grow dk H Z H' Z') : GrowX dk L H Z H' Z' := ⟨g.z, g.new, g.on, fun b o n _ e => g.same b o n e⟩
/-- the list that grows -/
structure AcOk (K : PySem.W.Frag) (dk L : Addr) (Hb H : Hp) (Z : Addr → Prop) (n : Nat) (acc : List D) : Prop where
  nd : L ≠ dk
  nz : ¬ Z L
  bD : Hb L = none
  old : ∀ a, H a = none → Hb a = none
  ac : ∃ vs AD, H L = some (.lst vs) ∧ Reps K dk H Z acc.reverse vs AD ∧ AD.Nodup ∧ L ∉ AD ∧ (∀ a ∈ AD, ¬ Z a ∧ Hb a = none) ∧ vs.length + n ≤ gas0
structure CPre (K : PySem.W.Frag) (dk L : Addr) (Hb H : Hp) (Z : Addr → Prop) (ρ : List D) (δ : List Int) (σ : Sg) (n : Nat) (acc : List D) : Prop where
  sl : ∃ A, Slots K dk H Z ρ σ A ∧ L ∉ A ∧ A.Nodup ∧ ∀ a ∈ A, ¬ Z a
  on : ZOn dk H Z
  deck : H dk = some (deckO δ)
  ac : AcOk K dk L Hb H Z n acc
def RBd (K : PySem.W.Frag) (dk L : Addr) (Hb H : Hp) (Z : Addr → Prop) (r : RC) (Q : Hp → Prop) : Prop := match r with
  | .ok n acc δ => ∀ H' Z', GrowX dk L H Z H' Z' → H' dk = some (deckO δ) → AcOk K dk L Hb H' Z' n acc → Q H'
  | .err => False
theorem AcOk.there {n : Nat} {acc : List D} (h : AcOk K dk L Hb H Z n acc) : H L ≠ none := by
  obtain ⟨vs, AD, e, _⟩ := h.ac
  rw [e]
  exact fun z => nomatch z
theorem CPre.sx {ρ : List D} {δ : List Int} {σ : Sg} {n : Nat} {acc : List D} (h : CPre K dk L Hb H Z ρ δ σ n acc) : Sx K dk Z ρ δ σ H := ⟨h.sl.elim fun A h => ⟨A, h.1, h.2.2⟩, h.on, h.deck⟩
theorem RBd.grow {r : RC} {Q : Hp → Prop} (h : RBd K dk L Hb H Z r Q) (g : GrowX dk L H Z H' Z') (hD : H' L ≠ none) : RBd K dk L Hb H' Z' r Q := by
  cases r with
  | ok n acc δ => exact fun H'' Z'' g' e a => h H'' Z'' (g.trans g' hD) e a
  | err => exact h
/-- an evaluation leaves the growing list -/
theorem AcOk.grow {n : Nat} {acc : List D} (h : AcOk K dk L Hb H Z n acc) (g : Grow dk H Z H' Z') (hk : H dk ≠ none) (hk' : H' dk ≠ none) : AcOk K dk L Hb H' Z' n acc := by
  obtain ⟨vs, AD, e, r, n1, n2, n3, n4⟩ := h.ac
  have nz : ∀ a, ¬ Z a → H a ≠ none → ¬ Z' a := fun a z1 z2 z3 => (g.new a z3).elim z1 z2
  refine ⟨h.nd, nz L h.nz h.there, h.bD, fun a ha => h.old a ?_, vs, AD, g.same _ _ h.nd e, r.mono g.same g.z, n1, n2, fun a m => ⟨nz a (n3 a m).1 (r.own a m).2, (n3 a m).2⟩, n4⟩
  by_cases hd : a = dk
  · subst hd
    exact absurd ha hk'
  · exact g.same.none_of hd ha
theorem Slots.growX {ρ : List D} {σ : Sg} {A : List Addr} {vs : List V} (s : Slots K dk H Z ρ σ A) (hA : L ∉ A) (nz : ¬ Z L) (hD : H L = some (.lst vs)) (g : GrowX dk L H Z H' Z') : Slots K dk H' Z' ρ σ A := by
  have s1 : Slots K dk H' Z ρ σ A := s.off (B := [L]) (fun b o n1 n2 e => g.same b o n1 (fun z => n2 (by rw [z]; exact List.mem_cons_self)) e) (fun b us m e => by
    have : b = L := by simpa using m
    subst this
    rw [hD] at e
    cases e) (fun a z m => by
    have : a = L := by simpa using m
    subst this
    exact nz z) fun a m m' => by
    have : a = L := by simpa using m'
    subst this
    exact hA m
  exact s1.mono (SameD.refl _) g.z
theorem CPre.grow {ρ : List D} {δ δ' : List Int} {σ : Sg} {n n' : Nat} {acc acc' : List D} (h : CPre K dk L Hb H Z ρ δ σ n acc) (g : GrowX dk L H Z H' Z') (e : H' dk = some (deckO δ')) (a : AcOk K dk L Hb H' Z' n' acc') : CPre K dk L Hb H' Z' ρ δ' σ n' acc' := by
  obtain ⟨A, s, hA, nA, zA⟩ := h.sl
  obtain ⟨vs, AD, hD, _⟩ := h.ac.ac
  exact ⟨⟨A, s.growX hA h.ac.nz hD g, hA, nA, fun a m z => (g.new a z).elim (zA a m) (s.own a m).2⟩, g.on, e, a⟩
theorem GrowX.keep {B : Addr → Prop} {vs : List V} (g : GrowX dk L H Z H' Z') (nz : ¬ Z L) (hB : ¬ B L) (hD : H L = some (.lst vs)) : Keep dk H Z B H' Z' where
  z := g.z
  keep := fun a o m n e => g.same a o n (fun z => by
    subst z
    exact m.elim nz hB) e
  tups := fun a us n e => g.same a _ n (fun z => by
    subst z
    rw [hD] at e
    cases e) e
  on := g.on
/-- an element is laid behind -/
theorem AcOk.push {n m : Nat} {acc : List D} {d : D} {v : V} {A : List Addr} (h : AcOk K dk L Hb H Z n acc) (g : Grow dk H Z H' Z') (hk : H dk ≠ none) (hk' : H' dk ≠ none) (r : Rep K dk H' Z' d v A) (nA : A.Nodup) (fA : ∀ a ∈ A, H a = none ∧ ¬ Z' a) (hn : n = m + 1) :
    ∃ vs, H' L = some (.lst vs) ∧ vs.length < sizeLine ∧ GrowX dk L H Z (upd H' L (.lst (vs ++ [v]))) Z' ∧ AcOk K dk L Hb (upd H' L (.lst (vs ++ [v]))) Z' m (d :: acc) := by
  have h' := h.grow g hk hk'
  obtain ⟨vs, AD, e, ra, n1, n2, n3, n4⟩ := h.ac
  have e' := g.same _ _ h.nd e
  have dA : L ∉ A := fun z => h.there (fA L z).1
  refine ⟨vs, e', ?_, ⟨g.z, g.new, fun a z => ⟨(g.on a z).1, ?_⟩, fun b o b1 b2 b3 => (upd_ne b2).trans (g.same b o b1 b3)⟩, h.nd, h'.nz, h.bD, fun a ha => h'.old a ?_, vs ++ [v], AD ++ A, upd_same, ?_, ?_, ?_, ?_, ?_⟩
  · have : gas0 < sizeLine := by unfold gas0 sizeLine; omega
    omega
  · by_cases z' : a = L
    · subst z'
      exact absurd z h'.nz
    · rw [upd_ne z']
      exact (g.on a z).2
  · by_cases z' : a = L
    · subst z'
      rw [upd_same] at ha
      cases ha
    · rw [upd_ne z'] at ha
      exact ha
  · rw [List.reverse_cons]
    have off : ∀ b o, b ≠ dk → b ∉ [L] → H' b = some o → upd H' L (.lst (vs ++ [v])) b = some o := fun b o _ hb q => by
      rw [upd_ne (by simpa using hb)]
      exact q
    have nt : ∀ b us, b ∈ [L] → H' b ≠ some (.tup us) := fun b us hb q => by
      have : b = L := by simpa using hb
      subst this
      rw [e'] at q
      cases q
    have nz : ∀ a, Z' a → a ∉ [L] := fun a z hb => by
      have : a = L := by simpa using hb
      subst this
      exact h'.nz z
    refine ((ra.mono g.same g.z).off off nt nz fun a ma mb => ?_).append (.one (r.off off nt nz fun a ma mb => ?_))
    · have : a = L := by simpa using mb
      subst this
      exact n2 ma
    · have : a = L := by simpa using mb
      subst this
      exact dA ma
  · refine List.nodup_append.mpr ⟨n1, nA, fun a ma b mb eab => ?_⟩
    subst eab
    exact (ra.own a ma).2 (fA a mb).1
  · exact fun m => (List.mem_append.mp m).elim n2 dA
  · intro a ma
    rcases List.mem_append.mp ma with ma | ma
    · obtain ⟨z1, z2⟩ := n3 a ma
      exact ⟨fun z => (g.new a z).elim z1 (ra.own a ma).2, z2⟩
    · exact ⟨(fA a ma).2, h.old a (fA a ma).1⟩
  · rw [List.length_append, List.length_singleton]
    omega
end

abbrev W0 : WX := fun _ _ _ _ => False
/-- what a turn's body does, by value -/
def BodyOk (Y : Cx) (dk L : Addr) (Hb : Hp) (vs : List Nat) (Bd : (Shared → Prop) → Shared → Prop) (f : CF) : Prop :=
  ∀ pins s σ H Z ρ δ n acc (P : Shared → Prop) (Q : Hp → Prop), Inv Y pins σ H s → CPre Y.K dk L Hb H Z ρ δ σ n acc → RBd Y.K dk L Hb H Z (f ρ n acc δ) Q →
    (∀ s' H', Inv Y pins (wipe σ vs) H' s' → Q H' → P s') → Bd P s
section
variable {Y : Cx} {dk L : Addr} {ca : Nat → Addr} {Hb : Hp} {elt tg iter : Expr} {ifs : List Expr} {gens : List Comprehension} {k : Nat} {scope : Scope} {pos : Pos}
theorem deck_some {H : Hp} {dk : Addr} {δ : List Int} (e : H dk = some (deckO δ)) : H dk ≠ none := by rw [e]; exact fun z => nomatch z
theorem body_in {f : EF} (he : CE Y W0 dk ca elt f) (hx : Y.xe = fun _ _ => False) : BodyOk Y dk L Hb [] (BodyIn Y.prog Y.w Y.A elt (.ref L) Y.env) (cElt f) := by
  intro pins s σ H Z ρ δ n acc P Q I c h hP
  obtain ⟨t, p, q⟩ := he
  unfold cElt at h
  have hr := p.run pins s σ H (fun y H4 => ∃ accv, H4 L = some (.lst accv) ∧ accv.length < sizeLine ∧ Q (upd H4 L (.lst (accv ++ [y])))) I (q Z ρ δ σ H _ c.sx ?_)
  · rw [hx] at hr
    refine thnF hr fun v s1 ⟨y, H1, I1, r1, accv, e1, l1, q1⟩ => ?_
    exact app_ok I1 e1 l1 r1 fun s2 I2 => hP _ _ I2 q1
  · cases e : f ρ δ with
    | err => rw [e] at h; exact h.elim
    | exc c d δ' => rw [e] at h; exact h.elim
    | ok d δ' =>
      rw [e] at h
      intro v H1 Z1 A1 g1 k1 r1 n1 f1
      cases n with
      | zero => exact h.elim
      | succ m =>
        obtain ⟨vs, e1, l1, gx, ac⟩ := c.ac.push g1 (deck_some c.deck) (deck_some k1) r1 n1 f1 rfl
        exact ⟨vs, e1, l1, h _ _ gx ((upd_ne (Ne.symm c.ac.nd)).trans k1) ac⟩
def CTs (X : Cx) (W : WX) (dk : Addr) (ca : Nat → Addr) (ifs : List Expr) (f : EF) : Prop := ∃ t, PTs X ifs t ∧ ∀ Z ρ δ σ H Q, Sx X.K dk Z ρ δ σ H → RT X.K dk ca H Z (f ρ δ) Q (wx W σ) → t σ H Q
theorem cts_nil {X : Cx} {W : WX} : CTs X W dk ca [] (eC (.bl true)) := ⟨_, pts_nil, fun Z ρ δ σ H Q s h => h H Z (Grow.refl s.on) s.deck⟩
theorem cts_one {X : Cx} {W : WX} {c : Expr} {f : EF} (h : CT X W dk ca c f) : CTs X W dk ca [c] f := by
  obtain ⟨t, p, q⟩ := h
  exact ⟨t, pts_one p, q⟩
theorem loop_run {g : D → List D → Option (List D)} {tt : EF} {fb : CF} {is vs vs2 : List Nat} {Bd : (Shared → Prop) → Shared → Prop} {J : It} {fp : List Addr} {it : Addr} {tn : Nat → Heap → Prop} (hc : Y.calm = true) (hx : Y.xe = fun _ _ => False)
    (hr : LoopRule Y.prog Y.w Y.A elt gens scope pos k tg ifs (.ref it) (.ref L) Y.env Bd) (cg : CG Y dk tg is g) (ct : CTs Y W0 dk ca ifs tt) (hb : BodyOk Y dk L Hb vs2 Bd fb) (hs : ∀ i ∈ is, i ∈ vs) (hv : ∀ i ∈ vs2, i ∈ vs) (T : Turn Y.prog Y.w Y.K tg J fp it tn)
    {pins : List (Addr × Obj)} {s : Shared} {σ : Sg} {H : Hp} {Z B : Addr → Prop} {ρ items : List D} {n : Nat} {acc : List D} {δ : List Int} {P : Shared → Prop} {Q : Hp → Prop} (I : Inv Y pins (wipe σ vs) H s) (st : tn 0 s.heap) (hf : ∀ b ∈ fp, FpOk Y pins H b) (hi : ItOk Y.K dk J items H Z B) (hB : ¬ B L)
    (c : CPre Y.K dk L Hb H Z ρ δ (wipe σ vs) n acc) (h : RBd Y.K dk L Hb H Z (cLoop g tt fb ρ items n acc δ) Q) (hP : ∀ s' H', Inv Y pins (wipe σ vs) H' s' → Q H' → P s') :
    codeAny (model Y.prog Y.w) Y.A (.compLoop (.ListComp elt gens scope pos) k (.ref it) (.ref L) Y.env) (fun r s' => match r with | .ok fl => fl = .next ∧ P s' | .error _ => False) s := by
  obtain ⟨t1, pg, qg⟩ := cg
  obtain ⟨t2, pt, qt⟩ := ct
  obtain ⟨vs0, AD0, hD0, _⟩ := c.ac.ac
  have stat : ∀ {H' : Hp}, (∀ b ∈ fp, H' b = none) → ∀ b ∈ fp, FpOk Y pins H' b := fun hn b hb => ⟨hn b hb, (hf b hb).2⟩
  refine hr _ (fun m s' => ∃ i H' Z' n' acc' δ', m = items.length - i ∧ i ≤ items.length ∧ Inv Y pins (wipe σ vs) H' s' ∧ tn i s'.heap ∧ (∀ b ∈ fp, H' b = none) ∧ GrowX dk L H Z H' Z' ∧ CPre Y.K dk L Hb H' Z' ρ δ' (wipe σ vs) n' acc' ∧ RBd Y.K dk L Hb H' Z' (cLoop g tt fb ρ (items.drop i) n' acc' δ') Q) ?_ items.length s
    ⟨0, H, Z, n, acc, δ, by simp, Nat.zero_le _, I, st, fun b hb => (hf b hb).1, GrowX.refl c.on, c, by rw [List.drop_zero]; exact h⟩
  rintro m s5 ⟨i, H5, Z5, n5, acc5, δ5, rfl, hi5, I5, st5, nf5, g5, c5, h5⟩
  obtain ⟨vs5, AD5, hD5, _⟩ := c5.ac.ac
  have it5 := hi i H5 Z5 (g5.keep c.ac.nz hB hD0) ⟨_, c5.deck⟩
  by_cases hlt : i < items.length
  · have ed : items.drop i = items[i] :: items.drop (i + 1) := List.drop_eq_getElem_cons hlt
    rw [ed] at h5
    obtain ⟨go, yl⟩ := it5.2 items[i] (by simp [hlt])
    generalize items[i] = x at h5 yl
    have ti := T.item Y rfl rfl rfl hc i pins s5 _ H5 NoX I5 (stat nf5) st5 go
    refine thnF ti fun r s6 ⟨u, hr6, h6⟩ => ?_
    subst hr6
    refine thnF h6 fun _ s7 ⟨xv, H7, I7, r7, y7, st7, n7⟩ => ?_
    have I7' := I7.pinned (stat n7) (T.obj _ _ st7)
    obtain ⟨g7, k7, rx⟩ := yl xv H7 y7
    have k7' : H7 dk = some (deckO δ5) := k7.trans c5.deck
    have ac7 := c5.ac.grow g7 (deck_some c5.deck) (deck_some k7')
    have c7 := c5.grow g7.growX k7' ac7
    have h7 := h5.grow g7.growX ac7.there
    obtain ⟨A7, s7', dA7, nA7, zA7⟩ := c7.sl
    unfold cLoop at h7
    cases e1 : g x ρ with
    | none => rw [e1] at h7; exact h7.elim
    | some ρ1 =>
      rw [e1] at h7
      have hpg := pg.run _ s7 _ H7 xv u _ I7' r7 (qg x xv ρ ρ1 _ H7 Z5 A7 (fun σ8 H8 => H8 = H7 ∧ wipe σ8 vs = wipe (wipe σ vs) vs ∧ CPre Y.K dk L Hb H7 Z5 ρ1 δ5 σ8 n5 acc5) rx s7' e1 fun σ' A' sl' nn m' w' => ⟨rfl, w' vs hs, ⟨A', sl', (fun z => dA7 (m' L z)), nn nA7, fun a m => zA7 a (m' a m)⟩, c7.on, k7', ac7⟩)
      rw [hx] at hpg
      refine thnF hpg fun _ s8 ⟨σ8, H8, I8, eH, w8, c8⟩ => ?_
      subst eH
      have len8 : σ8.length = (wipe σ vs).length := by
        have z := congrArg List.length w8
        rw [wipe_length, wipe_length] at z
        exact z
      have keep8 : ∀ (j : Nat) v, (wipe σ vs)[j]? = some (some v) → σ8[j]? = some (some v) ∧ j ∉ vs := fun j v e => by
        have nj := (wipe_some e).2
        have z : (wipe σ8 vs)[j]? = some (some v) := by
          rw [w8, wipe_out nj]
          exact e
        exact ⟨(wipe_some z).1, nj⟩
      -- the end of a turn
      have fin : ∀ {σ9 : Sg} {s' : Shared} {H' : Hp} {Z' : Addr → Prop} {n' : Nat} {acc' : List D} {δ' : List Int}, Inv Y (pins ++ pinsAt fp s7.heap) σ9 H' s' → σ9.length = σ8.length → (∀ (j : Nat) v, (wipe σ vs)[j]? = some (some v) → σ9[j]? = some (some v)) → GrowX dk L H8 Z5 H' Z' → H' dk = some (deckO δ') → AcOk Y.K dk L Hb H' Z' n' acc' →
          RBd Y.K dk L Hb H' Z' (cLoop g tt fb ρ (items.drop (i + 1)) n' acc' δ') Q → ∃ m, m < items.length - i ∧ ∃ i H' Z' n' acc' δ', m = items.length - i ∧ i ≤ items.length ∧ Inv Y pins (wipe σ vs) H' s' ∧ tn i s'.heap ∧ (∀ b ∈ fp, H' b = none) ∧ GrowX dk L H Z H' Z' ∧ CPre Y.K dk L Hb H' Z' ρ δ' (wipe σ vs) n' acc' ∧ RBd Y.K dk L Hb H' Z' (cLoop g tt fb ρ (items.drop i) n' acc' δ') Q := fun {σ9 s' H' Z' n' acc' δ'} I' hl hk gx kx ax hx => by
        have pin' : ∀ b ∈ fp, ∀ o, s7.heap.get? b = some o → s'.heap.get? b = some o ∧ H' b = none := fun b hb o e =>
          let z := I'.pin (b, o) (List.mem_append_right _ (List.mem_append_right _ (mem_pinsAt hb e)))
          ⟨z.1, z.2.1⟩
        refine ⟨items.length - (i + 1), by omega, i + 1, H', Z', n', acc', δ', rfl, hlt, (I'.unpinned (pins := pins)).weak (len8.symm.trans hl.symm) hk, T.keep _ _ _ st7 fun b hb o e => (pin' b hb o e).1, fun b hb => ?_, ((g5.trans g7.growX c5.ac.there).trans gx ac7.there), c7.grow gx kx ax, hx⟩
        obtain ⟨o, e, _⟩ := T.obj _ _ st7 b hb
        exact (pin' b hb o e).2
      cases e2 : tt ρ1 δ5 with
      | err => simp only [e2] at h7; exact h7.elim
      | exc c d δ' => simp only [e2] at h7; exact h7.elim
      | ok d δ6 =>
        simp only [e2] at h7
        cases d with
        | int i => exact h7.elim
        | seq k xs => exact h7.elim
        | atm a =>
          cases a with
          | un => exact h7.elim
          | non => exact h7.elim
          | str x => exact h7.elim
          | dk => exact h7.elim
          | bl b =>
            have hpt := pt.run _ s8 σ8 H8 (fun b' H9 => b' = b ∧ ∃ Z9, Grow dk H8 Z5 H9 Z9 ∧ H9 dk = some (deckO δ6)) I8 (qt Z5 ρ1 δ5 σ8 H8 _ c8.sx (by rw [e2]; exact fun H9 Z9 g9 k9 => ⟨rfl, Z9, g9, k9⟩))
            rw [hx] at hpt
            refine thnF hpt fun b' s9 ⟨H9, I9, eb, Z9, g9, k9⟩ => ?_
            subst eb
            have ac9 := c8.ac.grow g9 (deck_some c8.deck) (deck_some k9)
            have c9 := c8.grow g9.growX k9 ac9
            cases b' with
            | false =>
              simp only [Bool.false_eq_true, if_false]
              simp only at h7
              exact fin I9 rfl (fun j v e => (keep8 j v e).1) g9.growX k9 ac9 (h7.grow g9.growX ac9.there)
            | true =>
              simp only [if_true]
              simp only at h7
              refine hb _ s9 σ8 H9 Z9 ρ1 δ6 n5 acc5 _ (fun H' => ∃ Z' n' acc' δ', GrowX dk L H8 Z5 H' Z' ∧ H' dk = some (deckO δ') ∧ AcOk Y.K dk L Hb H' Z' n' acc' ∧ RBd Y.K dk L Hb H' Z' (cLoop g tt fb ρ (items.drop (i + 1)) n' acc' δ') Q) I9 c9 ?_ fun s' H' I' ⟨Z', n', acc', δ', gx, kx, ax, hx⟩ => ?_
              · cases e3 : fb ρ1 n5 acc5 δ6 with
                | err => simp only [e3] at h7; exact h7.elim
                | ok n' acc' δ' =>
                  simp only [e3] at h7
                  intro H' Z' gx kx ax
                  have gx' := g9.growX.trans gx ac9.there
                  exact ⟨Z', n', acc', δ', gx', kx, ax, h7.grow gx' ax.there⟩
              · refine fin I' (wipe_length _ _) (fun j v e => ?_) gx kx ax hx
                obtain ⟨z1, z2⟩ := keep8 j v e
                rw [wipe_out fun z => z2 (hv j z)]
                exact z1
  · have e : i = items.length := by omega
    subst e
    have stop := it5.1 (Nat.le_refl _)
    refine thnF (T.done Y rfl rfl rfl hc items.length pins s5 _ H5 NoX I5 (stat nf5) st5 stop) fun r s6 ⟨hr6, I6⟩ => ?_
    subst hr6
    rw [List.drop_length] at h5
    exact ⟨rfl, hP s6 H5 I6 (h5 H5 Z5 (GrowX.refl c5.on) c5.deck c5.ac)⟩
end
end Zv
namespace Zv
open PySem PySem.Spec PyProof.Rows L2

section
variable {Y : Cx} {dk : Addr} {ca : Nat → Addr} {elt tg iter tg1 i1 : Expr} {ifs ifs1 : List Expr} {gens : List Comprehension} {k : Nat} {scope : Scope} {pos : Pos}
def subN (is vs : List Nat) : Bool := is.all fun i => vs.contains i
theorem subN_ok {is vs : List Nat} (h : subN is vs = true) : ∀ i ∈ is, i ∈ vs := fun i m => by
  have := List.all_eq_true.mp h i m
  simpa using this
/-- the clause k and those behind it -/
def ClOk (Y : Cx) (dk : Addr) (ca : Nat → Addr) (elt : Expr) (gens : List Comprehension) (scope : Scope) (pos : Pos) (k : Nat) (vs : List Nat) (g : D → List D → Option (List D)) (tt : EF) (fb : CF) : Prop :=
  ∃ tg iter ifs is vs2, gens[k]? = some ⟨tg, iter, ifs, 0⟩ ∧ CG Y dk tg is g ∧ CTs Y W0 dk ca ifs tt ∧ (∀ i ∈ is, i ∈ vs) ∧ (∀ i ∈ vs2, i ∈ vs) ∧
    ∀ (L : Addr) (Hb : Hp) (it : Addr), ∃ Bd, LoopRule Y.prog Y.w Y.A elt gens scope pos k tg ifs (.ref it) (.ref L) Y.env Bd ∧ BodyOk Y dk L Hb vs2 Bd fb
theorem cl_last {g : D → List D → Option (List D)} {tt f : EF} {is vs : List Nat} (hx : Y.xe = fun _ _ => False) (h1 : gens[k]? = some ⟨tg, iter, ifs, 0⟩) (h2 : gens[k + 1]? = none) (cg : CG Y dk tg is g) (ct : CTs Y W0 dk ca ifs tt) (he : CE Y W0 dk ca elt f) (hs : subN is vs = true) :
    ClOk Y dk ca elt gens scope pos k vs g tt (cElt f) := ⟨tg, iter, ifs, is, [], h1, cg, ct, subN_ok hs, (fun i m => nomatch m), fun L Hb it => ⟨_, loop_in h1 h2, body_in he hx⟩⟩
theorem body_out {g : D → List D → Option (List D)} {tt : EF} {f : AF} {fb : CF} {vs : List Nat} {L : Addr} {Hb : Hp} (hc : Y.calm = true) (hx : Y.xe = fun _ _ => False) (ci : CI Y W0 dk ca tg1 i1 f) (h1 : gens[k + 1]? = some ⟨tg1, i1, ifs1, 0⟩) (cl : ClOk Y dk ca elt gens scope pos (k + 1) vs g tt fb) :
    BodyOk Y dk L Hb vs (BodyOut Y.prog Y.w Y.A elt gens scope pos k i1 (.ref L) Y.env) (cFor f g tt vs fb) := by
  intro pins s σ H Z ρ δ n acc P Q I c h hP
  obtain ⟨tg', iter', ifs', is, vs2, e1, cg, ct, m1, m2, hl⟩ := cl
  rw [h1] at e1
  cases e1
  obtain ⟨wi, pi, qi⟩ := ci
  unfold cFor at h
  have hr := pi.run pins s σ H (fun J H1 => ∃ Z1 items δ1, Grow dk H Z H1 Z1 ∧ H1 dk = some (deckO δ1) ∧ ItOk Y.K dk J items H1 Z1 (fun _ => False) ∧ RBd Y.K dk L Hb H1 Z1 (cLoop g tt fb (wipeD ρ vs) items n acc δ1) Q) I (qi Z ρ δ σ H _ c.sx ?_)
  · rw [hx] at hr
    refine thnF hr fun v s1 h1' => thnF h1' fun itv s2 h2 => ?_
    obtain ⟨it, fp, tn, J, H1, e, I2, T, st2, f2, Z1, items, δ1, g1, k1, it1, q1⟩ := h2
    subst e
    obtain ⟨Bd, hr, hb⟩ := hl L Hb it
    have ac1 := c.ac.grow g1 (deck_some c.deck) (deck_some k1)
    have c1 := c.grow g1.growX k1 ac1
    obtain ⟨A1, sl1, dA1, nA1, zA1⟩ := c1.sl
    obtain ⟨A2, sl2, m3, m4⟩ := sl1.wipe (vs := vs)
    have c2 : CPre Y.K dk L Hb H1 Z1 (wipeD ρ vs) δ1 (wipe σ vs) n acc := ⟨⟨A2, sl2, (fun z => dA1 (m3 _ z)), m4 nA1, fun a m => zA1 a (m3 a m)⟩, c1.on, c1.deck, ac1⟩
    have lp := loop_run hc hx hr cg ct hb m1 m2 T (I2.weak (wipe_length σ vs) fun j v e => (wipe_some e).1) st2 f2 it1 (fun z => z) c2 q1 hP
    have lp' : codeAny (model Y.prog Y.w) Y.A (.compLoop (.ListComp elt gens scope pos) (k + 1) (.ref it) (.ref L) Y.env) (fun r s' => match r with | .ok _ => P s' | .error _ => False) s2 := codeAny_mono lp fun r s' q => by
      cases r with
      | ok fl => exact q.2
      | error e => exact q
    exact compStart_ok h1 lp' (T.self Y.A 0 _ _ _ st2 lp')
  · cases e : f ρ δ with
    | err => rw [e] at h; exact h.elim
    | exc c d δ' => rw [e] at h; exact h.elim
    | ok t items δ1 =>
      rw [e] at h
      cases t with
      | true => exact h.elim
      | false =>
        intro J H1 Z1 B g1 k1 it1 hB hB'
        have eB : B = fun _ => False := funext fun a => propext ⟨hB' rfl a, fun z => z.elim⟩
        subst eB
        have ac1 := c.ac.grow g1 (deck_some c.deck) (deck_some k1)
        exact ⟨Z1, items, δ1, g1, k1, it1, RBd.grow h g1.growX ac1.there⟩
theorem cl_more {g g1 : D → List D → Option (List D)} {tt tt1 : EF} {f1 : AF} {fb1 : CF} {is vs vs2 : List Nat} (hc : Y.calm = true) (hx : Y.xe = fun _ _ => False) (h1 : gens[k]? = some ⟨tg, iter, ifs, 0⟩) (h2 : gens[k + 1]? = some ⟨tg1, i1, ifs1, 0⟩) (hs : ∀ x, foldedSetIterable i1 Y.env x = pure x)
    (cg : CG Y dk tg is g) (ct : CTs Y W0 dk ca ifs tt) (ci : CI Y W0 dk ca tg1 i1 f1) (cl : ClOk Y dk ca elt gens scope pos (k + 1) vs2 g1 tt1 fb1) (hi : subN is vs = true) (hv : subN vs2 vs = true) :
    ClOk Y dk ca elt gens scope pos k vs g tt (cFor f1 g1 tt1 vs2 fb1) := ⟨tg, iter, ifs, is, vs2, h1, cg, ct, subN_ok hi, subN_ok hv, fun L Hb it => ⟨_, loop_out h1 h2 hs, body_out hc hx ci h2 cl⟩⟩
end

section
variable {X : Cx} {W : WX} {dk : Addr} {ca : Nat → Addr} {elt tg iter : Expr} {ifs : List Expr} {rest : List Comprehension} {scope : Scope} {own : List (Str × Nat)} {pos : Pos} {f : AF} {g : D → List D → Option (List D)} {tt : EF} {fb : CF}
theorem comp_core {pins : List (Addr × Obj)} {s : Shared} {σ : Sg} {H : Hp} {Z : Addr → Prop} {ρ : List D} {δ : List Int} {Q : VK} {pos' : Pos} {use : Option (Value → Sem Unit)} {Qf : Value → Shared → Prop} (hc : X.calm = true) (hN : X.N.Nodup) (I : Inv X pins σ H s) (ci : CI X W dk ca tg iter f) (ok : BlkOk X.N X.env.scope scope own)
    (hcl : ∀ (s : Shared) (H : Hp) (C : Addr) (cl : List (Str × Addr)) (fp : List Addr), ClOk (X.blk s H scope (compEnvC scope cl C X.env) fp) dk ca elt (⟨tg, iter, ifs, 0⟩ :: rest) scope pos 0 (own.map (·.2)) g tt fb) (hs : ∀ x, foldedSetIterable iter X.env x = pure x)
    (sx : Sx X.K dk Z ρ δ σ H) (h : RE X.K dk ca H Z (eComp f g tt (own.map (·.2)) fb ρ δ) Q (wx W σ))
    (hRR : ∀ D C s' m H', Inv X pins σ H' s' → Q (.ref D) H' → s'.heap.Ns C m → FpOk X pins H' C → compPost (model X.prog X.w) X.A X.xe use Qf (.ref D) C (.ok .next) s') :
    wpAny (model X.prog X.w) X.A (comprehension (.ListComp elt (⟨tg, iter, ifs, 0⟩ :: rest) scope pos) scope X.env pos' (newList []) false (eval iter X.env) use) Qf X.xe s := by
  have hfree : ∀ y ∈ scope.names, y.2 = .free → ∃ c, X.env.cells.lookup y.1 = some c := fun y hy e => by
    rcases ok.free y hy e with k | k
    · exact I.ok.has _ (.inl k)
    · exact I.ok.has _ (.inr k)
  obtain ⟨wi, pi, qi⟩ := ci
  have hr := pi.run pins s σ H (fun J H1 => ∃ Z1 B items δ1, Grow dk H Z H1 Z1 ∧ H1 dk = some (deckO δ1) ∧ ItOk X.K dk J items H1 Z1 B ∧ (∀ a, B a → H1 a ≠ none) ∧
      (match cLoop g tt fb (wipeD ρ (own.map (·.2))) items gas0 [] δ1 with
        | .ok _ acc δ2 => RE X.K dk ca H Z (.ok (.ols acc.reverse) δ2) Q (wx W σ)
        | .err => False)) I (qi Z ρ δ σ H _ sx (by
    unfold eComp at h
    cases e : f ρ δ with
    | err => rw [e] at h; exact h.elim
    | exc c d δ' => rw [e] at h; exact h
    | ok t items δ1 =>
      rw [e] at h
      intro J H1 Z1 B g1 k1 it1 hB hB'
      refine ⟨Z1, B, items, δ1, g1, k1, it1, fun a b => (hB a b).2, ?_⟩
      cases e2 : cLoop g tt fb (wipeD ρ (own.map (·.2))) items gas0 [] δ1 with
      | err => simp only [e2] at h; exact h.elim
      | ok n acc δ2 => simp only [e2] at h; exact h))
  refine wpAny_comprehension_free (use := use) rfl hs (closure_ok hfree) ok.kind (fun y hy e => by rw [ok.uniq y hy, e])
    (thn hr fun xv s1 hx => thn hx fun itv s2 h2 => ?_)
  obtain ⟨it, fp, tn, J, H2, e, I2, T, st2, f2, Z1, B, items, δ1, g1, k1, it1, hB, hq⟩ := h2
  subst e
  refine wpAny_newObj_type (newEnv_comp ?_) (by show 0 ≤ sizeLine; decide)
  generalize hD : s2.heap.objs.size = D
  have hDn : H2 D = none := I2.hok.fresh (Nat.le_of_eq hD)
  -- the new list
  generalize hs3 : ({ s2 with heap := s2.heap.push { cls := .type "list", data := .seq ([] : List Value).toArray } } : Shared) = s3
  have I3 : Inv X pins σ (upd H2 D (.lst [])) s3 := by
    rw [← hs3]
    refine I2.laid (t' := s2.toks) (fun b o e => Heap.get?_push_of_some _ e) (Nat.le_of_eq hD) ⟨Nat.zero_le _, [], 0, .nil, ?_⟩
    rw [← hD]
    exact Heap.get?_push_size _ rfl
  have h3 : s3.heap = s2.heap.push { cls := .type "list", data := .seq ([] : List Value).toArray } := by rw [← hs3]
  have sz : ∀ b ∈ fp, b < s2.heap.objs.size := fun b hb => by
    obtain ⟨o, e, _⟩ := T.obj _ _ st2 b hb
    exact Heap.lt_size e
  have f3 : ∀ b ∈ fp, FpOk X pins (upd H2 D (.lst [])) b ∧ b < s3.heap.objs.size := fun b hb => by
    have hlt := sz b hb
    refine ⟨⟨?_, (f2 b hb).2⟩, by rw [h3, Heap.size_push]; exact Nat.lt_succ_of_lt hlt⟩
    rw [upd_ne (by rw [← hD]; exact Nat.ne_of_lt hlt)]
    exact (f2 b hb).1
  have st3 : tn 0 s3.heap := T.keep _ _ _ st2 fun b _ o e => by rw [h3]; exact Heap.get?_push_of_some _ e
  have I4 := block_start I3 ok hN f3
  have hc4 := hcl s3 (upd H2 D (.lst [])) s3.heap.objs.size (cellsFrom (s3.heap.objs.size + 1) scope.names (cloFrom X.env.cells scope.names [])) fp
  show codeAny _ _ (.compStart (.ListComp elt (⟨tg, iter, ifs, 0⟩ :: rest) scope pos) 0 (.ref it) (.ref D) (compEnvC scope (cellsFrom (s3.heap.objs.size + 1) scope.names (cloFrom X.env.cells scope.names [])) s3.heap.objs.size X.env)) (compPost (model X.prog X.w) X.A X.xe use Qf (.ref D) s3.heap.objs.size) { s3 with heap := pushCells (s3.heap.push { cls := .type "dict", data := .dict #[] }) scope.names }
  have nfp : ∀ b ∈ fp, (upd H2 D (.lst [])) b = none := fun b hb => (f3 b hb).1.1
  generalize hce : compEnvC scope (cellsFrom (s3.heap.objs.size + 1) scope.names (cloFrom X.env.cells scope.names [])) s3.heap.objs.size X.env = ce at I4 hc4 ⊢
  have cL : ce.locals = s3.heap.objs.size := by subst hce; rfl
  generalize hs4 : ({ s3 with heap := pushCells (s3.heap.push { cls := .type "dict", data := .dict #[] }) scope.names } : Shared) = s4 at I4 ⊢
  have st4 : tn 0 s4.heap := T.keep _ _ _ st3 fun b _ o e => by rw [← hs4]; exact pushCells_keeps _ _ _ _ (Heap.get?_push_of_some _ e)
  have stat : ∀ b ∈ fp, FpOk (X.blk s3 (upd H2 D (.lst [])) scope ce fp) [] (upd H2 D (.lst [])) b := fun b hb =>
    ⟨nfp b hb, (I4.ok.exf b hb).1, I4.ok.exfs b hb, .inl hb, fun x c e => (I4.ok.exf b hb).2 x c e, fun p hp => absurd (show p ∈ ([] : List (Addr × Obj)) ++ [] from hp) (by simp)⟩
  obtain ⟨tg', iter', ifs', is, vs2, e1, cg, ct, m1, m2, hl⟩ := hc4
  cases e1
  obtain ⟨Bd, hr, hb⟩ := hl D H2 it
  have nd := ne_dk k1 hDn
  have gD : Grow dk H2 Z1 (upd H2 D (.lst [])) Z1 := Grow.upd g1.on hDn
  have kD : (upd H2 D (.lst [])) dk = some (deckO δ1) := (upd_ne (Ne.symm nd)).trans k1
  obtain ⟨A1, sl1, nA1, zA1⟩ := sx.sl
  have ownA : ∀ a ∈ A1, H2 a ≠ none := by
    intro a m
    obtain ⟨z1, z2⟩ := sl1.own a m
    cases q : H a with
    | none => exact absurd q z2
    | some o => rw [g1.same a o z1 q]; exact fun z => nomatch z
  obtain ⟨A2, sl2, m3, m4⟩ := ((sl1.mono g1.same g1.z).mono gD.same gD.z).wipe (vs := own.map (·.2))
  have nzD : ¬ Z1 D := fun z => (g1.on D z).2 hDn
  have hBD : ¬ B D := fun z => hB D z hDn
  have ac : AcOk X.K dk D H2 (upd H2 D (.lst [])) Z1 gas0 [] := ⟨nd, nzD, hDn, fun a ha => by
    by_cases z : a = D
    · subst z
      exact hDn
    · rw [upd_ne z] at ha
      exact ha, [], [], upd_same, .nil, .nil, (fun m => nomatch m), (fun a m => nomatch m), Nat.le_of_eq (Nat.zero_add _)⟩
  have c4 : CPre X.K dk D H2 (upd H2 D (.lst [])) Z1 (wipeD ρ (own.map (·.2))) δ1 (wipe σ (own.map (·.2))) gas0 [] := ⟨⟨A2, sl2, (fun z => ownA D (m3 D z) hDn), m4 nA1, fun a m z => (g1.new a z).elim (zA1 a (m3 a m)) (sl1.own a (m3 a m)).2⟩, gD.on, kD, ac⟩
  have itD : ItOk X.K dk J items (upd H2 D (.lst [])) Z1 B := fun i H'' Z'' kp hd => it1 i H'' Z'' (gD.keep.trans kp fun a b => b) hd
  have lp := loop_run (Y := X.blk s3 (upd H2 D (.lst [])) scope ce fp) (dk := dk) (L := D) (Hb := H2) (ca := ca) (Q := fun H' => ∃ Z' acc δ2, RE X.K dk ca H Z (.ok (.ols acc.reverse) δ2) Q (wx W σ) ∧ GrowX dk D (upd H2 D (.lst [])) Z1 H' Z' ∧ H' dk = some (deckO δ2) ∧ ∃ n, AcOk X.K dk D H2 H' Z' n acc)
    (P := fun s' => ∃ H', Inv (X.blk s3 (upd H2 D (.lst [])) scope ce fp) [] (wipe σ (own.map (·.2))) H' s' ∧ ∃ Z' acc δ2, RE X.K dk ca H Z (.ok (.ols acc.reverse) δ2) Q (wx W σ) ∧ GrowX dk D (upd H2 D (.lst [])) Z1 H' Z' ∧ H' dk = some (deckO δ2) ∧ ∃ n, AcOk X.K dk D H2 H' Z' n acc)
    (ρ := wipeD ρ (own.map (·.2))) (items := items) (n := gas0) (acc := []) (δ := δ1) (B := B) (Z := Z1) (g := g) (tt := tt) (fb := fb) hc rfl hr cg ct hb m1 m2 T I4 st4 stat itD hBD c4 (by
      cases e2 : cLoop g tt fb (wipeD ρ (own.map (·.2))) items gas0 [] δ1 with
      | err => simp only [e2] at hq
      | ok n acc δ2 =>
        simp only [e2] at hq
        exact fun H' Z' gx kx ax => ⟨Z', acc, δ2, hq, gx, kx, n, ax⟩) fun s' H' I' q => ⟨H', I', q⟩
  have lp' : codeAny (model X.prog X.w) X.A (.compLoop (.ListComp elt (⟨tg, iter, ifs, 0⟩ :: rest) scope pos) 0 (.ref it) (.ref D) ce) (compPost (model X.prog X.w) X.A X.xe use Qf (.ref D) s3.heap.objs.size) s4 := codeAny_mono lp fun r s6 q => by
    cases r with
    | error e => exact q.elim
    | ok fl =>
      obtain ⟨q0, H5, I6, Z', acc, δ2, hq, gx, kx, n, ax⟩ := q
      subst q0
      have I7 : Inv X pins σ H5 s6 := I3.call' (ch := fp) I6.os I6.base I6.hok I6.bare fun b hb => ⟨(f3 b hb).1.2.2.2.1, (f3 b hb).1.2.1, (f3 b hb).1.2.2.2.2.1, (f3 b hb).1.2.2.2.2.2⟩
      have nC : H5 s3.heap.objs.size = none := by
        have z : H5 ce.locals = none := I6.free
        rw [cL] at z
        exact z
      obtain ⟨m, hn, _⟩ := I6.loc
      have hn : s6.heap.Ns ce.locals m := hn
      rw [cL] at hn
      refine hRR D s3.heap.objs.size s6 m H5 I7 ?_ hn (I3.fpOk (Nat.le_refl _) nC)
      -- the value
      obtain ⟨vs, AD, e5, r5, n5, d5, fr5, _⟩ := ax.ac
      have gg : Grow dk H2 Z1 H5 Z' := ⟨gx.z, fun a z => by
        rcases gx.new a z with z' | z'
        · exact .inl z'
        · refine .inr ?_
          by_cases zz : a = D
          · subst zz
            rw [upd_same] at z'
            cases z'
          · rw [upd_ne zz] at z'
            exact z', gx.on, fun b o b1 b2 => by
        have bD : b ≠ D := fun z => by
          subst z
          rw [hDn] at b2
          cases b2
        exact gx.same b o b1 bD ((upd_ne bD).trans b2)⟩
      refine hq (.ref D) H5 Z' (D :: AD) (g1.trans gg) kx (.ols nd e5 r5) (List.nodup_cons.mpr ⟨d5, n5⟩) fun a m => ?_
      rcases List.mem_cons.mp m with rfl | m
      · exact ⟨g1.same.none_of nd hDn, ax.nz⟩
      · refine ⟨g1.same.none_of (r5.own a m).1 (fr5 a m).2, (fr5 a m).1⟩
  exact compStart_ok (env := ce) rfl lp' (T.self X.A 0 _ _ _ st4 lp')
/-- [..] as a value -/
theorem ce_comp (hc : X.calm = true) (hN : X.N.Nodup) (ci : CI X W dk ca tg iter f) (ok : BlkOk X.N X.env.scope scope own)
    (hcl : ∀ (s : Shared) (H : Hp) (C : Addr) (cl : List (Str × Addr)) (fp : List Addr), ClOk (X.blk s H scope (compEnvC scope cl C X.env) fp) dk ca elt (⟨tg, iter, ifs, 0⟩ :: rest) scope pos 0 (own.map (·.2)) g tt fb) (hs : ∀ x, foldedSetIterable iter X.env x = pure x := by intro _; rfl) :
    CE X W dk ca (.ListComp elt (⟨tg, iter, ifs, 0⟩ :: rest) scope pos) (eComp f g tt (own.map (·.2)) fb) := by
  refine ⟨tE X.K dk ca W (eComp f g tt (own.map (·.2)) fb), ⟨fun pins s σ H Q I ⟨Z, ρ, δ, sx, h⟩ => ?_⟩, fun Z ρ δ σ H Q s h => ⟨Z, ρ, δ, s, h⟩⟩
  rw [eval_ListComp]
  refine comp_core hc hN I ci ok hcl hs sx h fun D C s' m H' I' q hn f => ⟨m, hn, fun h'' sb => ?_⟩
  obtain ⟨f0, f1, f2, f3, f4, f5⟩ := f
  exact ⟨.ref D, H', I'.turned (t' := s'.toks) (fun b o hb e => (sb.2 b hb).trans e) f0 f1 f3 f4 f5, rfl, q⟩
/-- name = [..] on one line, the name a local -/
theorem ps_comp {i : Nat} {y : Str} {py spos : Pos} (hc : X.calm = true) (hN : X.N.Nodup) (hy : X.N[i]? = some y) (hyl : X.env.scope.names.lookup y = some .local)
    (hsw : swapsWith (.ListComp elt (⟨tg, iter, ifs, 0⟩ :: rest) scope pos) (some (.Name y py)) spos.line X.env = pure true) (ci : CI X W dk ca tg iter f) (ok : BlkOk X.N X.env.scope scope own)
    (hcl : ∀ (s : Shared) (H : Hp) (C : Addr) (cl : List (Str × Addr)) (fp : List Addr), ClOk (X.blk s H scope (compEnvC scope cl C X.env) fp) dk ca elt (⟨tg, iter, ifs, 0⟩ :: rest) scope pos 0 (own.map (·.2)) g tt fb) (hs : ∀ x, foldedSetIterable iter X.env x = pure x := by intro _; rfl) :
    PS X (.Assign [.Name y py] (.ListComp elt (⟨tg, iter, ifs, 0⟩ :: rest) scope pos) spos) (tAsg (tE X.K dk ca W (eComp f g tt (own.map (·.2)) fb)) (gName i)) := by
  refine ⟨fun pins s σ H D I h => ?_⟩
  rw [exec_Assign_Name_used _ _ _ _ hsw]
  refine wpAny_bind (wpAny_standAt (wpAny_bind ?_))
  show wpAny _ X.A (do let _ ← comprehension (.ListComp elt (⟨tg, iter, ifs, 0⟩ :: rest) scope pos) scope X.env (firstIterPos (⟨tg, iter, ifs, 0⟩ :: rest) pos) (newList []) false (eval iter X.env) (some (assign (.Name y py) X.env))) _ _ s
  obtain ⟨Z, ρ, δ, sx, h⟩ := h
  refine wpAny_bind (thn (comp_core (Qf := fun _ s' => SP X pins D .next s') hc hN I ci ok hcl hs sx h fun L C s' m H' I' q hn f => ?_) fun _ s' hq => wpAny_pure (wpAny_pure hq))
  show wpAny _ _ (assign (.Name y py) X.env (.ref L)) _ _ _
  refine wpAny_assign_Name (store_ok2 (v := V.ref L) I' hN hy (.inl hyl) rfl (fun s2 I2 ⟨a, sb, ha⟩ => ?_) (.inr hyl))
  obtain ⟨f0, f1, f2, f3, f4, f5⟩ := f
  have haC : C ≠ a := by
    rcases ha with z | z
    · rw [z]; exact f1
    · exact fun e => f4 y a z e.symm
  refine ⟨m, hn.sameBut sb haC, fun h3 sb3 => ?_⟩
  exact ⟨_, H', I2.turned (t' := s2.toks) (fun b o hb e => (sb3.2 b hb).trans e) f0 f1 f3 f4 f5, q⟩
end
end Zv
namespace Zv
open PySem PySem.Spec PyProof.Rows L2 RZ

/-! ## zip; the keys of a locked dict -/
def zipD : List D → List D → List D
  | x :: xs, y :: ys => .tup [x, y] :: zipD xs ys
  | _, _ => []
def iZip (f : AF) : AF := fun ρ δ => match f ρ δ with
  | .ok _ [.seq .tup xs, .seq .tup ys] δ1 => .ok false (zipD xs ys) δ1
  | .ok _ [.seq j xs, .seq k ys] δ1 => (match j, k with
    | .lst, .lst => .ok false (zipD xs ys) δ1
    | .lst, .ols => (match ys.all shr with | true => .ok true (zipD xs ys) δ1 | false => .err)
    | .ols, .lst => (match xs.all shr with | true => .ok true (zipD xs ys) δ1 | false => .err)
    | .ols, .ols => (match xs.all shr && ys.all shr with | true => .ok true (zipD xs ys) δ1 | false => .err)
    | _, _ => .err)
  | .ok _ _ _ => .err
  | .exc c d δ' => .exc c d δ'
  | .err => .err
section
variable {K : PySem.W.Frag} {dk : Addr} {H : Hp} {Z B : Addr → Prop}
theorem zipD_get : ∀ {xs ys : List D} {i : Nat} {d : D}, (zipD xs ys)[i]? = some d → ∃ x y, xs[i]? = some x ∧ ys[i]? = some y ∧ d = .tup [x, y]
  | x :: xs, y :: ys, 0, d, h => by
    simp [zipD] at h
    exact ⟨x, y, rfl, rfl, h.symm⟩
  | x :: xs, y :: ys, i + 1, d, h => by
    obtain ⟨a, b, h1, h2, h3⟩ := zipD_get (xs := xs) (ys := ys) (i := i) (by simpa [zipD] using h)
    exact ⟨a, b, by simpa using h1, by simpa using h2, h3⟩
  | [], _, i, d, h => by simp [zipD] at h
  | _ :: _, [], i, d, h => by simp [zipD] at h
theorem zipD_len : ∀ {xs ys : List D}, (zipD xs ys).length = min xs.length ys.length
  | x :: xs, y :: ys => by simp [zipD, zipD_len (xs := xs) (ys := ys)]
  | [], _ => by simp [zipD]
  | _ :: _, [] => by simp [zipD]
theorem itOk_zip {a b : Addr} {xs ys : List D} {vs us : List V} (n : a ≠ dk) (e : H a = some (.lst vs)) (m : Z a ∨ B a) (r : Reps K dk H Z xs vs []) (n2 : b ≠ dk) (e2 : H b = some (.lst us)) (m2 : Z b ∨ B b) (r2 : Reps K dk H Z ys us []) : ItOk K dk (Itz K a b) (zipD xs ys) H Z B := by
  intro i H'' Z'' k hk
  have e' : H'' a = some (.lst vs) := k.keep a _ m n e
  have e2' : H'' b = some (.lst us) := k.keep b _ m2 n2 e2
  have r' := r.keep k (fun a m => nomatch m)
  have r2' := r2.keep k (fun a m => nomatch m)
  refine ⟨fun h => ⟨vs, us, .inl (.inl e'), .inl (.inl e2'), ?_⟩, fun d hd => ?_⟩
  · rw [zipD_len] at h
    rw [← r.len, ← r2.len]
    omega
  obtain ⟨x, y, hx, hy, rfl⟩ := zipD_get hd
  obtain ⟨v, hv, rv⟩ := r'.get0 hx
  obtain ⟨u, hu, ru⟩ := r2'.get0 hy
  refine ⟨⟨vs, us, v, u, .inl (.inl e'), .inl (.inl e2'), hv, hu⟩, fun w H3 q => ?_⟩
  obtain ⟨T, x', y', rfl, hT, rfl, hx', hy'⟩ := q
  have q1 := hx' vs (.inl (.inl e'))
  rw [hv] at q1
  cases q1
  have q2 := hy' us (.inl (.inl e2'))
  rw [hu] at q2
  cases q2
  have nT : T ≠ dk := fun z => by
    subst z
    obtain ⟨δ, hδ⟩ := hk
    rw [hT] at hδ
    cases hδ
  exact ⟨Grow.upd k.on hT, upd_ne (Ne.symm nT), .tup ⟨nT, upd_same⟩ ((Reps.cons0 rv (Reps.cons0 ru .nil)).mono (SameD.upd hT) fun _ z => z)⟩
theorem itOk_zipT {a b : Addr} {xs ys : List D} {vs us : List V} (n : a ≠ dk) (e : H a = some (.tup vs)) (r : Reps K dk H Z xs vs []) (n2 : b ≠ dk) (e2 : H b = some (.tup us)) (r2 : Reps K dk H Z ys us []) : ItOk K dk (ItzT K a b) (zipD xs ys) H Z B := by
  intro i H'' Z'' k hk
  have e' : H'' a = some (.tup vs) := k.tups a _ n e
  have e2' : H'' b = some (.tup us) := k.tups b _ n2 e2
  have r' := r.keep k (fun a m => nomatch m)
  have r2' := r2.keep k (fun a m => nomatch m)
  refine ⟨fun h => ⟨vs, us, .inl (.inl e'), .inl (.inl e2'), ?_⟩, fun d hd => ?_⟩
  · rw [zipD_len] at h
    rw [← r.len, ← r2.len]
    omega
  obtain ⟨x, y, hx, hy, rfl⟩ := zipD_get hd
  obtain ⟨v, hv, rv⟩ := r'.get0 hx
  obtain ⟨u, hu, ru⟩ := r2'.get0 hy
  refine ⟨⟨vs, us, v, u, .inl (.inl e'), .inl (.inl e2'), hv, hu⟩, fun w H3 q => ?_⟩
  obtain ⟨T, x', y', rfl, hT, rfl, hx', hy'⟩ := q
  have q1 := hx' vs (.inl (.inl e'))
  rw [hv] at q1
  cases q1
  have q2 := hy' us (.inl (.inl e2'))
  rw [hu] at q2
  cases q2
  have nT : T ≠ dk := fun z => by
    subst z
    obtain ⟨δ, hδ⟩ := hk
    rw [hT] at hδ
    cases hδ
  exact ⟨Grow.upd k.on hT, upd_ne (Ne.symm nT), .tup ⟨nT, upd_same⟩ ((Reps.cons0 rv (Reps.cons0 ru .nil)).mono (SameD.upd hT) fun _ z => z)⟩
/-- the keys -/
def keysD : List D → List D
  | [] => []
  | .seq .tup [k, _] :: ds => k :: keysD ds
  | _ :: ds => .un :: keysD ds
theorem keyV_rep {k : D} {q : Key} (h : atKey k = some q) : Rep K dk H Z k (kV q) [] := by
  cases k with
  | int i => cases h; exact .int i
  | atm a => cases h
  | seq s xs => cases h
theorem EntK.key : ∀ {es : List D} {kvs : List (Key × V)} {A : List Addr} {i : Nat} {d : D}, EntK K dk H Z es kvs A → (keysD es)[i]? = some d → ∃ q v, kvs[i]? = some (q, v) ∧ atKey d = some q
  | _, _, _, _, _, .nil, h => by simp [keysD] at h
  | _, _, _, 0, _, .cons e _ _, h => by
    simp [keysD] at h
    subst h
    exact ⟨_, _, rfl, e⟩
  | _, _, _, i + 1, _, .cons e _ r, h => by
    obtain ⟨q, v, h1, h2⟩ := r.key (i := i) (by simpa [keysD] using h)
    exact ⟨q, v, by simpa using h1, h2⟩
theorem EntK.keys_len : ∀ {es : List D} {kvs : List (Key × V)} {A : List Addr}, EntK K dk H Z es kvs A → (keysD es).length = kvs.length
  | _, _, _, .nil => rfl
  | _, _, _, .cons _ _ r => by simp [keysD, r.keys_len]
theorem EntT.key : ∀ {es : List D} {kvs : List (List Key × V)} {A : List Addr} {i : Nat} {d : D}, EntT K dk H Z es kvs A → (keysD es)[i]? = some d → ∃ q v ks, kvs[i]? = some (q, v) ∧ d = .tup ks ∧ atKeys ks = some q
  | _, _, _, _, _, .nil, h => by simp [keysD] at h
  | _, _, _, 0, _, .cons e _ _, h => by
    simp [keysD] at h
    subst h
    exact ⟨_, _, _, rfl, rfl, e⟩
  | _, _, _, i + 1, _, .cons e _ r, h => by
    obtain ⟨q, v, ks, h1, h2⟩ := r.key (i := i) (by simpa [keysD] using h)
    exact ⟨q, v, ks, by simpa using h1, h2⟩
theorem EntT.keys_len : ∀ {es : List D} {kvs : List (List Key × V)} {A : List Addr}, EntT K dk H Z es kvs A → (keysD es).length = kvs.length
  | _, _, _, .nil => rfl
  | _, _, _, .cons _ _ r => by simp [keysD, r.keys_len]
theorem keyVs_rep : ∀ {ks : List D} {q : List Key}, atKeys ks = some q → Reps K dk H Z ks (q.map kV) []
  | [], _, h => by cases h; exact .nil
  | k :: ks, _, h => by
    unfold atKeys at h
    cases h1 : atKey k with
    | none => simp only [h1] at h; cases h
    | some x =>
      cases h2 : atKeys ks with
      | none => simp only [h1, h2] at h; cases h
      | some xs =>
        simp only [h1, h2] at h
        cases h
        exact Reps.cons0 (keyV_rep h1) (keyVs_rep h2)
theorem itOk_keys {a : Addr} {o : Obj} {es : List D} {kvs : List (Key × V)} (n : a ≠ dk) (e : H a = some (.frz o (.dK kvs))) (m : Z a) (r : EntK K dk H Z es kvs []) : ItOk K dk (Itk a o kvs) (keysD es) H Z B := by
  intro i H'' Z'' k hk
  have e' : H'' a = some (.frz o (.dK kvs)) := k.keep a _ (.inl m) n e
  refine ⟨fun h => ⟨e', by rw [r.keys_len] at h; exact h⟩, fun d hd => ?_⟩
  obtain ⟨q, v, h1, h2⟩ := r.key hd
  refine ⟨⟨e', (List.getElem?_eq_some_iff.mp h1).1⟩, fun w H3 y => ?_⟩
  obtain ⟨eh, k', v', h3, ew⟩ := y
  rw [h1] at h3
  cases h3
  subst eh ew
  exact ⟨Grow.refl k.on, rfl, keyV_rep h2⟩
theorem itOk_keysT {a : Addr} {o : Obj} {es : List D} {kvs : List (List Key × V)} (n : a ≠ dk) (e : H a = some (.frz o (.dT kvs))) (m : Z a) (r : EntT K dk H Z es kvs []) : ItOk K dk (Itkt a o kvs) (keysD es) H Z B := by
  intro i H'' Z'' k hk
  have e' : H'' a = some (.frz o (.dT kvs)) := k.keep a _ (.inl m) n e
  refine ⟨fun h => ⟨e', by rw [r.keys_len] at h; exact h⟩, fun d hd => ?_⟩
  obtain ⟨q, v, ks, h1, h2, h2'⟩ := r.key hd
  refine ⟨⟨e', (List.getElem?_eq_some_iff.mp h1).1⟩, fun w H3 y => ?_⟩
  obtain ⟨eh, k', v', p, h3, ew, hp⟩ := y
  rw [h1] at h3
  cases h3
  subst eh ew h2
  refine ⟨Grow.refl k.on, rfl, .tup ⟨fun z => ?_, hp⟩ (keyVs_rep h2')⟩
  subst z
  obtain ⟨δ, hδ⟩ := hk
  rw [hp] at hδ
  cases hδ
end
end Zv
namespace Zv
open PySem PySem.Spec PyProof.Rows L2 RZ

section
variable {X : Cx} {W : WX} {dk : Addr} {ca : Nat → Addr} {tg e e2 : Expr} {f : EF} {p pos tpos : Pos} {elts : List Expr} {kk : Nat}
theorem ci_zip {f : AF} (hg : Gl X "zip") (hm : X.mg "zip" = none) (ha : CAB X W dk ca [e, e2] f) (hs : starEach [e, e2] X.env = (false, eval e X.env) :: starEach [e2] X.env := by rfl) (hpl : (backTo pos (starEach [e2] X.env)).any (·.1) = false := by rfl) :
    CI X W dk ca (.Tuple elts kk tpos) (.Call (.Name "zip" p) [e, e2] [] pos) (iZip f) := by
  obtain ⟨t, pt, q⟩ := ha
  refine ⟨_, pi_zipA hg hm pt hs hpl, fun Z ρ δ σ H R s h => q Z ρ δ σ H _ s ?_⟩
  unfold iZip at h
  cases e1 : f ρ δ with
  | err => rw [e1] at h; exact h
  | exc c d δ' => rw [e1] at h; exact h
  | ok t ds δ1 =>
    rw [e1] at h
    intro vs H1 Z1 A1 g1 k1 r1
    split at h
    · rename_i xs ys δ2 heq
      cases heq
      obtain ⟨v, u, B, C, rfl, rv, ru⟩ := r1.two
      obtain ⟨a, vs, rfl, n, ea, rs⟩ := rv.tupAt
      obtain ⟨b, us, rfl, n2, eb, rs2⟩ := ru.tupAt
      exact ⟨a, b, vs, us, rfl, .inr ⟨.inl (.inl ea), .inl (.inl eb), h _ H1 Z1 (fun _ => False) g1 k1 (itOk_zipT n ea rs n2 eb rs2) (fun a z => z.elim) fun _ a z => z⟩⟩
    · rename_i j xs k ys δ2 hne heq
      cases heq
      obtain ⟨v, u, B, C, rfl, rv, ru⟩ := r1.two
      split at h
      · cases rv with
        | lst z n ea rs =>
          cases ru with
          | lst z2 n2 eb rs2 =>
            exact ⟨_, _, _, _, rfl, .inl ⟨.inl (.inl ea), .inl (.inl eb), h _ H1 Z1 (fun _ => False) g1 k1 (itOk_zip n ea (.inl z) rs n2 eb (.inl z2) rs2) (fun a z => z.elim) fun _ a z => z⟩⟩
      · split at h
        · rename_i c
          cases rv with
          | lst z n ea rs =>
            cases ru with
            | ols n2 eb rs2 =>
              rename_i a vs b us A2
              have := rs2.noown c
              subst this
              exact ⟨_, _, _, _, rfl, .inl ⟨.inl (.inl ea), .inl (.inl eb), h _ H1 Z1 (fun c => c = b) g1 k1 (itOk_zip n ea (.inl z) rs n2 eb (.inr rfl) rs2) (fun c z => by subst z; exact ⟨n2, by rw [eb]; exact fun z => nomatch z⟩) fun z => nomatch z⟩⟩
        · exact h.elim
      · split at h
        · rename_i c
          cases rv with
          | ols n ea rs =>
            rename_i a vs A1
            have := rs.noown c
            subst this
            cases ru with
            | lst z2 n2 eb rs2 =>
              exact ⟨_, _, _, _, rfl, .inl ⟨.inl (.inl ea), .inl (.inl eb), h _ H1 Z1 (fun c => c = a) g1 k1 (itOk_zip n ea (.inr rfl) rs n2 eb (.inl z2) rs2) (fun c z => by subst z; exact ⟨n, by rw [ea]; exact fun z => nomatch z⟩) fun z => nomatch z⟩⟩
        · exact h.elim
      · split at h
        · rename_i c
          simp only [Bool.and_eq_true] at c
          cases rv with
          | ols n ea rs =>
            rename_i a vs A1
            have := rs.noown c.1
            subst this
            cases ru with
            | ols n2 eb rs2 =>
              rename_i b us A2
              have := rs2.noown c.2
              subst this
              refine ⟨_, _, _, _, rfl, .inl ⟨.inl (.inl ea), .inl (.inl eb), h _ H1 Z1 (fun c => c = a ∨ c = b) g1 k1 (itOk_zip n ea (.inr (.inl rfl)) rs n2 eb (.inr (.inr rfl)) rs2) (fun c z => ?_) fun z => nomatch z⟩⟩
              rcases z with z | z
              · subst z; exact ⟨n, by rw [ea]; exact fun z => nomatch z⟩
              · subst z; exact ⟨n2, by rw [eb]; exact fun z => nomatch z⟩
        · exact h.elim
      · exact h.elim
    · exact h.elim
    · rename_i heq
      cases heq
    · rename_i heq
      cases heq
/-- the keys of a locked dict -/
def iKeysD (f : EF) : AF := fun ρ δ => match f ρ δ with
  | .ok (.seq .ldc es) δ1 => .ok false (keysD es) δ1
  | .ok (.seq .ldt es) δ1 => .ok false (keysD es) δ1
  | .ok _ _ => .err
  | .exc c d δ' => .exc c d δ'
  | .err => .err
theorem ci_keys (ha : CB X W dk ca e f) : CI X W dk ca tg e (iKeysD f) := by
  obtain ⟨t, pt, q⟩ := ha
  refine ⟨_, pi_keys pt, fun Z ρ δ σ H R s h => q Z ρ δ σ H _ s ?_⟩
  unfold iKeysD at h
  cases e1 : f ρ δ with
  | err => rw [e1] at h; exact h
  | exc c d δ' => rw [e1] at h; exact h
  | ok d δ1 =>
    rw [e1] at h
    intro v H1 Z1 A1 g1 k1 r1
    split at h
    · rename_i es δ2 heq
      cases heq
      cases r1 with
      | ldcK z n ea ents => exact ⟨_, _, rfl, .inl ⟨_, ea, h _ H1 Z1 (fun _ => False) g1 k1 (itOk_keys n ea z ents) (fun a z => z.elim) fun _ a z => z⟩⟩
    · rename_i es δ2 heq
      cases heq
      cases r1 with
      | ldcT z n ea ents => exact ⟨_, _, rfl, .inr ⟨_, ea, h _ H1 Z1 (fun _ => False) g1 k1 (itOk_keysT n ea z ents) (fun a z => z.elim) fun _ a z => z⟩⟩
    · exact h.elim
    · rename_i heq
      cases heq
    · rename_i heq
      cases heq

/-! ## locks -/
def lkD : D → Option D
  | .seq .dic es => some (.seq .ldc es)
  | .seq .dit es => some (.seq .ldt es)
  | .seq .odc es => some (.seq .ldc (fze es))
  | .seq .odt es => some (.seq .ldt (fze es))
  | _ => none
def eLock (i : Nat) (f : EF) : EF := fun ρ δ => match lkD (gt ρ i) with
  | some l => (match f (stD ρ i l) δ with
    | .ok d δ' => (match pureD d with
      | true => .ok d δ'
      | false => .err)
    | _ => .err)
  | none => .err
end
section
variable {K : PySem.W.Frag} {dk : Addr} {H H' : Hp} {Z Z' : Addr → Prop}
/-- H': a dict of H locked -/
def LockD (dk : Addr) (H H' : Hp) (a : Addr) : Prop := ∃ od u, H' = upd H a (.frz od u) ∧ H a = some u ∧ Mut (some u) ∧ a ≠ dk ∧ (∀ vs, u ≠ .lst vs)
theorem LockD.rd {a b : Addr} {w : HO} (l : LockD dk H H' a) (h : Rd H b w) : Rd H' b w := by
  obtain ⟨od, u, rfl, hu, mu, n, _⟩ := l
  by_cases e : b = a
  · subst e
    rcases h with h | ⟨o, h⟩
    · rw [hu] at h
      cases h
      exact .inr ⟨od, upd_same⟩
    · rw [hu] at h
      cases h
      cases mu
  · rcases h with h | ⟨o, h⟩
    · exact .inl ((upd_ne e).trans h)
    · exact .inr ⟨o, (upd_ne e).trans h⟩
theorem LockD.off {a b : Addr} {w : HO} (l : LockD dk H H' a) (n : b ≠ a) (h : H b = some w) : H' b = some w := by
  obtain ⟨od, u, rfl, _⟩ := l
  exact (upd_ne n).trans h
theorem LockD.notfrz {a b : Addr} {w : HO} {o : Obj} (l : LockD dk H H' a) (h : H b = some (.frz o w)) : H' b = some (.frz o w) := by
  refine l.off (fun z => ?_) h
  obtain ⟨od, u, rfl, hu, mu, _⟩ := l
  subst z
  rw [hu] at h
  cases h
  cases mu
theorem LockD.tup {a b : Addr} {vs : List V} (l : LockD dk H H' a) (h : H b = some (.tup vs)) : H' b = some (.tup vs) := by
  refine l.off (fun z => ?_) h
  obtain ⟨od, u, rfl, hu, mu, _⟩ := l
  subst z
  rw [hu] at h
  cases h
  cases mu
theorem LockD.lst {a b : Addr} {vs : List V} (l : LockD dk H H' a) (h : H b = some (.lst vs)) : H' b = some (.lst vs) := by
  refine l.off (fun z => ?_) h
  obtain ⟨od, u, rfl, hu, mu, n, nl⟩ := l
  subst z
  rw [hu] at h
  cases h
  exact nl _ rfl
mutual
theorem Rep.lock {a : Addr} (l : LockD dk H H' a) : ∀ {d : D} {v : V} {A : List Addr}, Rep K dk H Z d v A → a ∉ A → Rep K dk H' Z d v A
  | _, _, _, .int i, _ => .int i
  | _, _, _, .non, _ => .non
  | _, _, _, .bl b, _ => .bl b
  | _, _, _, .str x, _ => .str x
  | _, _, _, .dk, _ => .dk
  | _, _, _, .tup t r, h => .tup ⟨t.1, l.tup t.2⟩ (r.lock l h)
  | _, _, _, .lst a n e r, h => .lst a n (l.lst e) (r.lock l h)
  | _, _, _, .ols n e r, h => .ols n (l.lst e) (r.lock l fun m => h (List.mem_cons_of_mem _ m))
  | _, _, _, .dicK a n e r, h => .dicK a n (l.rd e) (r.lock l h)
  | _, _, _, .odcK n e r, h => .odcK n (l.off (fun z => h (by rw [z]; exact List.mem_cons_self)) e) (r.lock l fun m => h (List.mem_cons_of_mem _ m))
  | _, _, _, .dicT a n e r, h => .dicT a n (l.rd e) (r.lock l h)
  | _, _, _, .odcT n e r, h => .odcT n (l.off (fun z => h (by rw [z]; exact List.mem_cons_self)) e) (r.lock l fun m => h (List.mem_cons_of_mem _ m))
  | _, _, _, .ldcK a n e r, h => .ldcK a n (l.notfrz e) (r.lock l h)
  | _, _, _, .ldcT a n e r, h => .ldcT a n (l.notfrz e) (r.lock l h)
theorem Reps.lock {a : Addr} (l : LockD dk H H' a) : ∀ {d : List D} {v : List V} {A : List Addr}, Reps K dk H Z d v A → a ∉ A → Reps K dk H' Z d v A
  | _, _, _, .nil, _ => .nil
  | _, _, _, .cons x r, h => .cons (x.lock l fun m => h (List.mem_append_left _ m)) (r.lock l fun m => h (List.mem_append_right _ m))
theorem EntK.lock {a : Addr} (l : LockD dk H H' a) : ∀ {d : List D} {v : List (Key × V)} {A : List Addr}, EntK K dk H Z d v A → a ∉ A → EntK K dk H' Z d v A
  | _, _, _, .nil, _ => .nil
  | _, _, _, .cons k x r, h => .cons k (x.lock l fun m => h (List.mem_append_left _ m)) (r.lock l fun m => h (List.mem_append_right _ m))
theorem EntT.lock {a : Addr} (l : LockD dk H H' a) : ∀ {d : List D} {v : List (List Key × V)} {A : List Addr}, EntT K dk H Z d v A → a ∉ A → EntT K dk H' Z d v A
  | _, _, _, .nil, _ => .nil
  | _, _, _, .cons k x r, h => .cons k (x.lock l fun m => h (List.mem_append_left _ m)) (r.lock l fun m => h (List.mem_append_right _ m))
end
theorem Slots.lock {a : Addr} (l : LockD dk H H' a) : ∀ {ρ : List D} {σ : Sg} {A : List Addr}, Slots K dk H Z ρ σ A → a ∉ A → Slots K dk H' Z ρ σ A
  | _, _, _, .nil, _ => .nil
  | _, _, _, .un r, h => .un (r.lock l h)
  | _, _, _, .cons x r, h => .cons (x.lock l fun m => h (List.mem_append_left _ m)) (r.lock l fun m => h (List.mem_append_right _ m))
/-- a slot taken out -/
theorem Slots.take : ∀ {ρ : List D} {σ : Sg} {A : List Addr} {i : Nat} {d : D}, Slots K dk H Z ρ σ A → gt ρ i = d → d ≠ .un → ∃ v B C, σ[i]? = some (some v) ∧ Rep K dk H Z d v B ∧ Slots K dk H Z (stD ρ i .un) σ C ∧ (∀ x, x ∈ A ↔ x ∈ B ∨ x ∈ C) ∧ (A.Nodup → B.Nodup ∧ C.Nodup ∧ ∀ x ∈ B, x ∉ C)
  | _, _, _, _, _, .nil, e, n => absurd e.symm (by simpa [gt] using n)
  | _, _, _, 0, _, .un r, e, n => absurd e.symm (by simpa [gt] using n)
  | _, _, _, 0, _, .cons (A := A1) (B := A2) a r, e, n => by
    have e' := e
    simp only [gt] at e'
    subst e'
    exact ⟨_, A1, A2, rfl, a, .un r, fun x => List.mem_append, fun nn => ⟨(List.nodup_append.mp nn).1, (List.nodup_append.mp nn).2.1, fun x m m' => (List.nodup_append.mp nn).2.2 x m x m' rfl⟩⟩
  | _, _, _, i + 1, _, .un r, e, n => by
    obtain ⟨v, B, C, h1, h2, h3, h4, h5⟩ := r.take (i := i) e n
    exact ⟨v, B, C, by simpa using h1, h2, .un h3, h4, h5⟩
  | _, _, _, i + 1, _, .cons (A := A1) (B := A2) a r, e, n => by
    obtain ⟨v, B, C, h1, h2, h3, h4, h5⟩ := r.take (i := i) e n
    refine ⟨v, B, A1 ++ C, by simpa using h1, h2, .cons a h3, fun x => ?_, fun nn => ?_⟩
    · rw [List.mem_append, h4, List.mem_append]
      constructor
      · rintro (z | z | z)
        · exact .inr (.inl z)
        · exact .inl z
        · exact .inr (.inr z)
      · rintro (z | z | z)
        · exact .inr (.inl z)
        · exact .inl z
        · exact .inr (.inr z)
    · obtain ⟨q1, q2, q3⟩ := List.nodup_append.mp nn
      obtain ⟨p1, p2, p3⟩ := h5 q2
      refine ⟨p1, List.nodup_append.mpr ⟨q1, p2, fun x m y m' z => ?_⟩, fun x m m' => ?_⟩
      · exact q3 x m y ((h4 y).mpr (.inr m')) z
      · rcases List.mem_append.mp m' with z | z
        · exact q3 x z x ((h4 x).mpr (.inl m)) rfl
        · exact p3 x m z
theorem stD_stD : ∀ (ρ : List D) (i : Nat) (d e : D), stD (stD ρ i d) i e = stD ρ i e
  | [], _, _, _ => rfl
  | _ :: _, 0, _, _ => rfl
  | x :: ρ, i + 1, d, e => by simp [stD, stD_stD ρ i d e]
/-- and laid back in -/
theorem Slots.put {ρ : List D} {σ : Sg} {B C : List Addr} {i : Nat} {d : D} {v : V} (s : Slots K dk H Z (stD ρ i .un) σ C) (r : Rep K dk H Z d v B) (e : σ[i]? = some (some v)) (n : C.Nodup → B.Nodup → (∀ x ∈ B, x ∉ C) → True) : ∃ A, Slots K dk H Z (stD ρ i d) σ A ∧ (∀ x ∈ A, x ∈ C ∨ x ∈ B) ∧ (C.Nodup → B.Nodup → (∀ x ∈ B, x ∉ C) → A.Nodup) := by
  obtain ⟨A', s', h1, h2⟩ := s.set (i := i) r
  rw [stD_stD] at s'
  have es : σ.set i (some v) = σ := by
    refine List.ext_getElem? fun j => ?_
    by_cases hj : i = j
    · subst hj
      rw [e, List.getElem?_set_self (List.getElem?_eq_some_iff.mp e).1]
    · rw [List.getElem?_set_ne hj]
  rw [es] at s'
  exact ⟨A', s', h1, h2⟩
end
end Zv
namespace Zv
open PySem PySem.Spec PyProof.Rows L2 RZ

section
variable {K : PySem.W.Frag} {dk : Addr} {H : Hp} {Z : Addr → Prop} {ρ : List D} {σ : Sg} {A : List Addr} {i : Nat} {l : D}
/-- the state with the slot i locked: at once, or behind a lock that is laid on -/
def Opened (K : PySem.W.Frag) (dk : Addr) (H : Hp) (Z : Addr → Prop) (ρ : List D) (σ : Sg) (A : List Addr) (i : Nat) (l : D) : Prop :=
  ∃ (a : Addr) (B : List Addr), σ[i]? = some (some (.ref a)) ∧ a ≠ dk ∧ (∀ x ∈ B, x ∈ A) ∧ (a ∈ B ∨ Z a) ∧ (((∃ o u, H a = some (.frz o u)) ∧ ∃ C, Slots K dk H (fun x => Z x ∨ x ∈ B) (stD ρ i l) σ C ∧ C.Nodup ∧ ∀ x ∈ C, x ∈ A ∧ x ∉ B) ∨
    ∃ u, H a = some u ∧ Mut (some u) ∧ (∀ vs, u ≠ .lst vs) ∧ ∀ od, ∃ C, Slots K dk (upd H a (.frz od u)) (fun x => Z x ∨ x ∈ B) (stD ρ i l) σ C ∧ C.Nodup ∧ ∀ x ∈ C, x ∈ A ∧ x ∉ B)
theorem lock_open (s : Slots K dk H Z ρ σ A) (nA : A.Nodup) (zA : ∀ a ∈ A, ¬ Z a) (e : lkD (gt ρ i) = some l) : Opened K dk H Z ρ σ A i l := by
  have hu : gt ρ i ≠ .un := fun z => by rw [z] at e; cases e
  obtain ⟨v, B, C, h1, r, sC, hm, hn⟩ := s.take rfl hu
  obtain ⟨nB, nC, dBC⟩ := hn nA
  have zup : ∀ a, Z a → Z a ∨ a ∈ B := fun _ z => .inl z
  have sub : ∀ x ∈ B, x ∈ A := fun x m => (hm x).mpr (.inl m)
  -- behind the lock
  have fin : ∀ {H' : Hp}, Slots K dk H' Z (stD ρ i .un) σ C → Rep K dk H' (fun x => Z x ∨ x ∈ B) l v [] → ∃ C', Slots K dk H' (fun x => Z x ∨ x ∈ B) (stD ρ i l) σ C' ∧ C'.Nodup ∧ ∀ x ∈ C', x ∈ A ∧ x ∉ B := fun {H'} sc rl => by
    obtain ⟨C', s', m', n'⟩ := (sc.mono (SameD.refl _) zup).put rl h1 fun _ _ _ => trivial
    refine ⟨C', s', n' nC .nil (fun a m => nomatch m), fun x m => ?_⟩
    rcases m' x m with m | m
    · exact ⟨(hm x).mpr (.inr m), fun m2 => dBC x m2 m⟩
    · cases m
  unfold lkD at e
  generalize gt ρ i = d at e r
  split at e
  · cases e
    cases r with
    | dicK z n ea ents =>
      rename_i a kvs
      refine ⟨a, [], h1, n, (fun x m => nomatch m), .inr z, ?_⟩
      rcases ea with ea | ⟨o, ea⟩
      · refine .inr ⟨_, ea, trivial, (fun vs z => nomatch z), fun od => ?_⟩
        have lk : LockD dk H (upd H a (.frz od (.dK kvs))) a := ⟨od, _, rfl, ea, trivial, n, fun vs z => nomatch z⟩
        have na : a ∉ C := fun m => zA a ((hm a).mpr (.inr m)) z
        exact fin (sC.lock lk na) (.ldcK (.inl z) n upd_same ((ents.mono (SameD.refl _) zup).lock lk fun m => nomatch m))
      · exact .inl ⟨⟨o, _, ea⟩, fin sC (.ldcK (.inl z) n ea (ents.mono (SameD.refl _) zup))⟩
  · cases e
    cases r with
    | dicT z n ea ents =>
      rename_i a kvs
      refine ⟨a, [], h1, n, (fun x m => nomatch m), .inr z, ?_⟩
      rcases ea with ea | ⟨o, ea⟩
      · refine .inr ⟨_, ea, trivial, (fun vs z => nomatch z), fun od => ?_⟩
        have lk : LockD dk H (upd H a (.frz od (.dT kvs))) a := ⟨od, _, rfl, ea, trivial, n, fun vs z => nomatch z⟩
        have na : a ∉ C := fun m => zA a ((hm a).mpr (.inr m)) z
        exact fin (sC.lock lk na) (.ldcT (.inl z) n upd_same ((ents.mono (SameD.refl _) zup).lock lk fun m => nomatch m))
      · exact .inl ⟨⟨o, _, ea⟩, fin sC (.ldcT (.inl z) n ea (ents.mono (SameD.refl _) zup))⟩
  · cases e
    cases r with
    | odcK n ea ents =>
      rename_i a kvs A'
      refine ⟨a, a :: A', h1, n, sub, .inl List.mem_cons_self, .inr ⟨_, ea, trivial, (fun vs z => nomatch z), fun od => ?_⟩⟩
      have lk : LockD dk H (upd H a (.frz od (.dK kvs))) a := ⟨od, _, rfl, ea, trivial, n, fun vs z => nomatch z⟩
      have na : a ∉ C := dBC a List.mem_cons_self
      have ents' := (ents.lock lk (List.nodup_cons.mp nB).1).fze zup fun x m => .inr (List.mem_cons_of_mem _ m)
      exact fin (sC.lock lk na) (.ldcK (.inr List.mem_cons_self) n upd_same ents')
  · cases e
    cases r with
    | odcT n ea ents =>
      rename_i a kvs A'
      refine ⟨a, a :: A', h1, n, sub, .inl List.mem_cons_self, .inr ⟨_, ea, trivial, (fun vs z => nomatch z), fun od => ?_⟩⟩
      have lk : LockD dk H (upd H a (.frz od (.dT kvs))) a := ⟨od, _, rfl, ea, trivial, n, fun vs z => nomatch z⟩
      have na : a ∉ C := dBC a List.mem_cons_self
      have ents' := (ents.lock lk (List.nodup_cons.mp nB).1).fze zup fun x m => .inr (List.mem_cons_of_mem _ m)
      exact fin (sC.lock lk na) (.ldcT (.inr List.mem_cons_self) n upd_same ents')
  · cases e
/-- what is pure stays when the lock is taken off -/
theorem Rep.unlock {a : Addr} {od : Obj} {u : HO} {d : D} {v : V} {B : List Addr} {H' : Hp} {Z1 : Addr → Prop} (r : Rep K dk H' Z1 d v B) (p : pureD d = true) (e : H' a = some (.frz od u)) (n : a ∉ B) : Rep K dk (upd H' a u) Z d v B := by
  have r1 := r.pure (Z' := fun _ => False) p
  have r2 : Rep K dk (upd H' a u) (fun _ => False) d v B := r1.off (B := [a]) (fun b o _ hb q => by
    rw [upd_ne (by simpa using hb)]
    exact q) (fun b us hb q => by
    have : b = a := by simpa using hb
    subst this
    rw [e] at q
    cases q) (fun x z => z.elim) fun x m m' => by
    have : x = a := by simpa using m'
    subst this
    exact n m
  exact r2.mono (SameD.refl _) fun x z => z.elim
end
section
variable {X : Cx} {W : WX} {dk : Addr} {ca : Nat → Addr} {e : Expr} {f : EF}
theorem lock_run {t : TE} (i : Nat) (q : ∀ Z ρ δ σ H Q, Sx X.K dk Z ρ δ σ H → RE X.K dk ca H Z (f ρ δ) Q (wx W σ) → t σ H Q) {Z : Addr → Prop} {ρ : List D} {δ : List Int} {σ : Sg} {H : Hp} {Q : VK} (s : Sx X.K dk Z ρ δ σ H) (h : RE X.K dk ca H Z (eLock i f ρ δ) Q (wx W σ)) : tLockE t σ H Q ∨ t σ H Q := by
  unfold eLock at h
  cases el : lkD (gt ρ i) with
  | none => rw [el] at h; exact h.elim
  | some l =>
    rw [el] at h
    obtain ⟨A, sl, nA, zA⟩ := s.sl
    obtain ⟨a, B, h1, nd, sub, hz, hh⟩ := lock_open sl nA zA el
    cases e2 : f (stD ρ i l) δ with
    | err => simp only [e2] at h; exact h.elim
    | exc c d δ' => simp only [e2] at h; exact h.elim
    | ok d δ' =>
      simp only [e2] at h
      cases pd : pureD d with
      | false => simp only [pd] at h; exact h.elim
      | true =>
        simp only [pd] at h
        have zdk : ∀ x, (Z x ∨ x ∈ B) → x ≠ dk ∧ H x ≠ none := fun x z => z.elim (s.on x) fun m => sl.own x (sub x m)
        rcases hh with ⟨_, C, sC, nC, mC⟩ | ⟨u, hu, mu, nl, hC⟩
        · refine .inr (q _ (stD ρ i l) δ σ H Q ⟨⟨C, sC, nC, fun x m z => z.elim (zA x (mC x m).1) (mC x m).2⟩, zdk, s.deck⟩ ?_)
          rw [e2]
          intro v H' Z' A' g k r n f
          refine h v H' Z A' ⟨fun _ z => z, fun _ z => .inl z, fun x z => ?_, g.same⟩ k (r.pure pd) n fun x m => ⟨(f x m).1, fun z => (f x m).2 (g.z x (.inl z))⟩
          obtain ⟨y1, y2⟩ := g.on x (g.z x (.inl z))
          exact ⟨y1, y2⟩
        · refine .inl ⟨a, u, hu, mu, fun od => ?_⟩
          obtain ⟨C, sC, nC, mC⟩ := hC od
          have thereU : ∀ x, H x ≠ none → upd H a (.frz od u) x ≠ none := fun x hx => by
            by_cases z : x = a
            · subst z
              rw [upd_same]
              exact fun z => nomatch z
            · rw [upd_ne z]
              exact hx
          refine q _ (stD ρ i l) δ σ _ _ ⟨⟨C, sC, nC, fun x m z => z.elim (zA x (mC x m).1) (mC x m).2⟩, fun x z => ⟨(zdk x z).1, thereU x (zdk x z).2⟩, (upd_ne (Ne.symm nd)).trans s.deck⟩ ?_
          rw [e2]
          intro v H' Z' A' g k r n f
          have ea : H' a = some (.frz od u) := g.same a _ nd upd_same
          have na : a ∉ A' := fun m => by
            have z := (f a m).1
            rw [upd_same] at z
            cases z
          refine ⟨ea, h v (upd H' a u) Z A' ⟨fun _ z => z, fun _ z => .inl z, fun x z => ⟨(s.on x z).1, ?_⟩, fun b o b1 b2 => ?_⟩ ((upd_ne (Ne.symm nd)).trans k) (r.unlock pd ea na) n fun x m => ⟨?_, fun z => (f x m).2 (g.z x (.inl z))⟩⟩
          · by_cases y : x = a
            · subst y
              rw [upd_same]
              exact fun z => nomatch z
            · rw [upd_ne y]
              exact (g.on x (g.z x (.inl z))).2
          · by_cases y : b = a
            · subst y
              rw [upd_same, ← hu, b2]
            · rw [upd_ne y]
              exact g.same b o b1 ((upd_ne y).trans b2)
          · have z := (f x m).1
            by_cases y : x = a
            · subst y
              exact absurd m na
            · rw [upd_ne y] at z
              exact z
theorem ce_lock (i : Nat) (h1 : CE X W dk ca e f) : CE X W dk ca e (eLock i f) := by
  obtain ⟨t, p, q⟩ := h1
  refine ⟨fun σ H Q => tLockE t σ H Q ∨ t σ H Q, ⟨fun pins s σ H Q I h => ?_⟩, fun Z ρ δ σ H Q s h => lock_run i q s h⟩
  rcases h with h | h
  · exact (pe_lock p).run pins s σ H Q I h
  · exact p.run pins s σ H Q I h
end
end Zv
namespace Zv
open PySem PySem.Spec PyProof.Rows L2 RZ

/-! ## statements -/
section
variable {K : PySem.W.Frag} {dk : Addr} {H H' H'' : Hp} {Z Z' Z'' : Addr → Prop} {A A' A'' : List Addr}
mutual
theorem Rep.ownM : ∀ {d : D} {v : V} {A : List Addr}, Rep K dk H Z d v A → ∀ a ∈ A, ∃ u, H a = some u ∧ Mut (some u)
  | _, _, _, .ols n e r, a, m => by
    rcases List.mem_cons.mp m with rfl | m
    · exact ⟨_, e, trivial⟩
    · exact r.ownM a m
  | _, _, _, .odcK n e r, a, m => by
    rcases List.mem_cons.mp m with rfl | m
    · exact ⟨_, e, trivial⟩
    · exact r.ownM a m
  | _, _, _, .odcT n e r, a, m => by
    rcases List.mem_cons.mp m with rfl | m
    · exact ⟨_, e, trivial⟩
    · exact r.ownM a m
  | _, _, _, .int i, a, m => nomatch m
  | _, _, _, .non, a, m => nomatch m
  | _, _, _, .bl _, a, m => nomatch m
  | _, _, _, .str _, a, m => nomatch m
  | _, _, _, .dk, a, m => nomatch m
  | _, _, _, .tup _ _, a, m => nomatch m
  | _, _, _, .lst _ _ _ _, a, m => nomatch m
  | _, _, _, .dicK _ _ _ _, a, m => nomatch m
  | _, _, _, .dicT _ _ _ _, a, m => nomatch m
  | _, _, _, .ldcK _ _ _ _, a, m => nomatch m
  | _, _, _, .ldcT _ _ _ _, a, m => nomatch m
theorem Reps.ownM : ∀ {d : List D} {v : List V} {A : List Addr}, Reps K dk H Z d v A → ∀ a ∈ A, ∃ u, H a = some u ∧ Mut (some u)
  | _, _, _, .nil, a, m => nomatch m
  | _, _, _, .cons x r, a, m => (List.mem_append.mp m).elim (x.ownM a) (r.ownM a)
theorem EntK.ownM : ∀ {d : List D} {v : List (Key × V)} {A : List Addr}, EntK K dk H Z d v A → ∀ a ∈ A, ∃ u, H a = some u ∧ Mut (some u)
  | _, _, _, .nil, a, m => nomatch m
  | _, _, _, .cons _ x r, a, m => (List.mem_append.mp m).elim (x.ownM a) (r.ownM a)
theorem EntT.ownM : ∀ {d : List D} {v : List (List Key × V)} {A : List Addr}, EntT K dk H Z d v A → ∀ a ∈ A, ∃ u, H a = some u ∧ Mut (some u)
  | _, _, _, .nil, a, m => nomatch m
  | _, _, _, .cons _ x r, a, m => (List.mem_append.mp m).elim (x.ownM a) (r.ownM a)
end
theorem Slots.ownM : ∀ {ρ : List D} {σ : Sg} {A : List Addr}, Slots K dk H Z ρ σ A → ∀ a ∈ A, ∃ u, H a = some u ∧ Mut (some u)
  | _, _, _, .nil, a, m => nomatch m
  | _, _, _, .un r, a, m => r.ownM a m
  | _, _, _, .cons x r, a, m => (List.mem_append.mp m).elim (x.ownM a) (r.ownM a)
structure Stt (K : PySem.W.Frag) (dk : Addr) (ρ : List D) (δ : List Int) (σ : Sg) (H : Hp) (Z : Addr → Prop) (A : List Addr) : Prop where
  sl : Slots K dk H Z ρ σ A
  nd : A.Nodup
  nz : ∀ a ∈ A, ¬ Z a
  on : ZOn dk H Z
  deck : H dk = some (deckO δ)
structure Step (dk : Addr) (H : Hp) (Z : Addr → Prop) (A : List Addr) (H' : Hp) (Z' : Addr → Prop) (A' : List Addr) : Prop where
  z : ∀ a, Z a → Z' a
  new : ∀ a, Z' a → Z a ∨ a ∈ A ∨ H a = none
  own : ∀ a ∈ A', a ∈ A ∨ H a = none
  same : ∀ a o, a ≠ dk → a ∉ A → H a = some o → H' a = some o
  there : ∀ a, H' a = none → H a = none
theorem Stt.sx {ρ : List D} {δ : List Int} {σ : Sg} (s : Stt K dk ρ δ σ H Z A) : Sx K dk Z ρ δ σ H := ⟨⟨A, s.sl, s.nd, s.nz⟩, s.on, s.deck⟩
theorem Step.refl : Step dk H Z A H Z A := ⟨fun _ z => z, fun _ z => .inl z, fun _ m => .inl m, fun _ _ _ _ e => e, fun _ e => e⟩
theorem Step.trans (g : Step dk H Z A H' Z' A') (g' : Step dk H' Z' A' H'' Z'' A'') : Step dk H Z A H'' Z'' A'' where
  z := fun a z => g'.z a (g.z a z)
  new := fun a z => by
    rcases g'.new a z with y | y | y
    · exact g.new a y
    · exact .inr (g.own a y)
    · exact .inr (.inr (g.there a y))
  own := fun a m => by
    rcases g'.own a m with y | y
    · exact g.own a y
    · exact .inr (g.there a y)
  same := fun a o n m e => g'.same a o n (fun m' => (g.own a m').elim m fun z => by rw [e] at z; cases z) (g.same a o n m e)
  there := fun a e => g.there a (g'.there a e)
theorem Grow.step (g : Grow dk H Z H' Z') {δ δ' : List Int} (k' : H' dk = some (deckO δ')) (m : ∀ a ∈ A', a ∈ A ∨ H a = none) : Step dk H Z A H' Z' A' where
  z := g.z
  new := fun a z => (g.new a z).imp id .inr
  own := m
  same := fun a o n _ e => g.same a o n e
  there := fun a e => by
    by_cases h : a = dk
    · subst h
      rw [k'] at e
      cases e
    · exact g.same.none_of h e
theorem Stt.grow {ρ : List D} {δ δ' : List Int} {σ : Sg} (s : Stt K dk ρ δ σ H Z A) (g : Grow dk H Z H' Z') (k' : H' dk = some (deckO δ')) : Stt K dk ρ δ' σ H' Z' A := ⟨s.sl.mono g.same g.z, s.nd, fun a m z => (g.new a z).elim (s.nz a m) (s.sl.own a m).2, g.on, k'⟩
theorem Step.keep {ρ : List D} {δ : List Int} {σ : Sg} {on : ZOn dk H' Z'} (s : Stt K dk ρ δ σ H Z A) (g : Step dk H Z A H' Z' A') : Keep dk H Z (fun _ => False) H' Z' where
  z := g.z
  keep := fun a o m n e => g.same a o n (fun m' => m.elim (s.nz a m') id) e
  tups := fun a vs n e => g.same a _ n (fun m' => by
    obtain ⟨u, e', mu⟩ := s.sl.ownM a m'
    rw [e] at e'
    cases e'
    cases mu) e
  on := on
end
section
variable (K : PySem.W.Frag) (dk : Addr) (ca : Nat → Addr) (W : WX)
def RS (H : Hp) (Z : Addr → Prop) (A : List Addr) (r : SR) (Dn : Ends) : Prop := match r with
  | .nx ρ δ => ∀ σ' H' Z' A', Step dk H Z A H' Z' A' → Stt K dk ρ δ σ' H' Z' A' → Dn.nx σ' H'
  | .bk ρ δ => ∀ σ' H' Z' A', Step dk H Z A H' Z' A' → Stt K dk ρ δ σ' H' Z' A' → Dn.bk σ' H'
  | .ct ρ δ => ∀ σ' H' Z' A', Step dk H Z A H' Z' A' → Stt K dk ρ δ σ' H' Z' A' → Dn.ct σ' H'
  | .rt d δ => ∀ v H' Z' A', Step dk H Z A H' Z' A' → ZOn dk H' Z' → H' dk = some (deckO δ) → Rep K dk H' Z' d v A' → A'.Nodup → (∀ a ∈ A', ¬ Z' a) → Dn.rt v H'
  | .exc c d ρ δ => ∀ dd v σ' H' Z' A', Step dk H Z A H' Z' A' → Stt K dk ρ δ σ' H' Z' A' → H' dd = some (.xd [("what", v)]) → Rep K dk H' Z' d v [] → W (.ref (ca c)) (some dd) σ' H'
  | .err => False
end
section
variable (X : Cx) (W : WX) (dk : Addr) (ca : Nat → Addr)
def CS (st : Stmt) (f : SF) : Prop := ∃ t, PS X st t ∧ ∀ Z ρ δ σ H A Dn, Stt X.K dk ρ δ σ H Z A → RS X.K dk ca W H Z A (f ρ δ) Dn → t Dn σ H
def CSs (sts : List Stmt) (f : SF) : Prop := ∃ t, PSs X sts t ∧ ∀ Z ρ δ σ H A Dn, Stt X.K dk ρ δ σ H Z A → RS X.K dk ca W H Z A (f ρ δ) Dn → t Dn σ H
end
section
variable {K : PySem.W.Frag} {dk : Addr} {ca : Nat → Addr} {W : WX} {H H' : Hp} {Z Z' : Addr → Prop} {A A' : List Addr} {Dn : Ends}
theorem RS.step {r : SR} (h : RS K dk ca W H Z A r Dn) (g : Step dk H Z A H' Z' A') : RS K dk ca W H' Z' A' r Dn := by
  cases r with
  | nx ρ δ => exact fun σ' H'' Z'' A'' g' s => h σ' H'' Z'' A'' (g.trans g') s
  | bk ρ δ => exact fun σ' H'' Z'' A'' g' s => h σ' H'' Z'' A'' (g.trans g') s
  | ct ρ δ => exact fun σ' H'' Z'' A'' g' s => h σ' H'' Z'' A'' (g.trans g') s
  | rt d δ => exact fun v H'' Z'' A'' g' => h v H'' Z'' A'' (g.trans g')
  | exc c d ρ δ => exact fun dd v σ' H'' Z'' A'' g' => h dd v σ' H'' Z'' A'' (g.trans g')
  | err => exact h
/-- an exception of an expression -/
theorem RS.exc {c : Nat} {d : D} {ρ : List D} {δ δ' : List Int} {σ : Sg} (h : RS K dk ca W H Z A (.exc c d ρ δ') Dn) (s : Stt K dk ρ δ σ H Z A) : RX K dk ca H Z c d δ' (wx W σ) := fun dd v H' Z' g k x r =>
  h dd v σ H' Z' A (g.step (δ := δ) k fun a m => .inl m) (s.grow g k) x r
end
/-- an expression's answer within a statement -/
def andThen (r : R) (ρ : List D) (k : D → List Int → SR) : SR := match r with
  | .ok d δ => k d δ
  | .exc c d δ => .exc c d ρ δ
  | .err => .err
def sNil : SF := fun ρ δ => .nx ρ δ
def sSeq (f g : SF) : SF := fun ρ δ => match f ρ δ with
  | .nx ρ1 δ1 => g ρ1 δ1
  | r => r
def sSet (i : Nat) (f : EF) : SF := fun ρ δ => andThen (f ρ δ) ρ fun d δ1 => .nx (stD ρ i d) δ1
def sDrop (f : EF) : SF := fun ρ δ => andThen (f ρ δ) ρ fun _ δ1 => .nx ρ δ1
def sRet (f : EF) : SF := fun ρ δ => andThen (f ρ δ) ρ fun d δ1 => .rt d δ1
def sIf (c : EF) (f g : SF) : SF := fun ρ δ => andThen (c ρ δ) ρ fun d δ1 => match d with
  | .atm (.bl b) => (match b with
    | true => f ρ δ1
    | false => g ρ δ1)
  | _ => .err
def sBk : SF := fun ρ δ => .bk ρ δ
def sCt : SF := fun ρ δ => .ct ρ δ
section
variable {X : Cx} {W : WX} {dk : Addr} {ca : Nat → Addr} {st : Stmt} {sts : List Stmt} {f g : SF} {e : Expr} {fe : EF} {pos : Pos}
theorem css_nil : CSs X W dk ca [] sNil := ⟨_, pss_nil, fun Z ρ δ σ H A Dn s h => h σ H Z A .refl s⟩
theorem css_one (h : CS X W dk ca st f) : CSs X W dk ca [st] f := by
  obtain ⟨t, p, q⟩ := h
  exact ⟨t, pss_one p, q⟩
theorem css_cons (h1 : CS X W dk ca st f) (h2 : CSs X W dk ca sts g) : CSs X W dk ca (st :: sts) (sSeq f g) := by
  obtain ⟨t, p, q⟩ := h1
  obtain ⟨u, pu, qu⟩ := h2
  refine ⟨_, pss_cons p pu, fun Z ρ δ σ H A Dn s h => q Z ρ δ σ H A _ s ?_⟩
  unfold sSeq at h
  cases e1 : f ρ δ with
  | nx ρ1 δ1 =>
    rw [e1] at h
    exact fun σ' H' Z' A' g' s' => qu Z' ρ1 δ1 σ' H' A' Dn s' (RS.step h g')
  | bk ρ δ => rw [e1] at h; exact h
  | ct ρ δ => rw [e1] at h; exact h
  | rt d δ => rw [e1] at h; exact h
  | exc c d ρ δ => rw [e1] at h; exact h
  | err => rw [e1] at h; exact h
/-- a docstring, pass -/
theorem cs_doc {x j pos pos'} : CS X W dk ca (.Expr (.Constant (.str x) j pos) pos') sNil := ⟨_, ps_doc, fun Z ρ δ σ H A Dn s h => h σ H Z A .refl s⟩
theorem cs_pass : CS X W dk ca (.Pass pos) sNil := ⟨_, ps_pass, fun Z ρ δ σ H A Dn s h => h σ H Z A .refl s⟩
theorem cs_break : CS X W dk ca (.Break pos) sBk := ⟨_, ps_break, fun Z ρ δ σ H A Dn s h => h σ H Z A .refl s⟩
theorem cs_cont : CS X W dk ca (.Continue pos) sCt := ⟨_, ps_continue, fun Z ρ δ σ H A Dn s h => h σ H Z A .refl s⟩
/-- the value laid into a slot -/
theorem Stt.put {K : PySem.W.Frag} {ρ : List D} {δ δ' : List Int} {σ : Sg} {H H' : Hp} {Z Z' : Addr → Prop} {A B : List Addr} {i : Nat} {d : D} {v : V} (s : Stt K dk ρ δ σ H Z A) (g : Grow dk H Z H' Z') (k : H' dk = some (deckO δ')) (r : Rep K dk H' Z' d v B) (n : B.Nodup) (fr : ∀ a ∈ B, H a = none ∧ ¬ Z' a) :
    ∃ A', Step dk H Z A H' Z' A' ∧ Stt K dk (stD ρ i d) δ' (σ.set i (some v)) H' Z' A' := by
  have s' := s.grow g k
  obtain ⟨A', sl', m', n'⟩ := s'.sl.set (i := i) r
  refine ⟨A', g.step (δ := δ) k fun a m => (m' a m).imp id fun m => (fr a m).1, ⟨sl', n' s.nd n fun a m m2 => (s.sl.own a m2).2 (fr a m).1, fun a m => (m' a m).elim (s'.nz a) fun m => (fr a m).2, g.on, k⟩⟩
theorem set_run {ρ : List D} {δ : List Int} {σ : Sg} {H : Hp} {Z : Addr → Prop} {A : List Addr} {Dn : Ends} {i : Nat} (s : Stt X.K dk ρ δ σ H Z A) (h : RS X.K dk ca W H Z A (sSet i fe ρ δ) Dn) : RE X.K dk ca H Z (fe ρ δ) (fun x H1 => Dn.nx (σ.set i (some x)) H1) (wx W σ) := by
  unfold sSet andThen at h
  cases e1 : fe ρ δ with
  | err => rw [e1] at h; exact h
  | exc c d δ' => rw [e1] at h; exact RS.exc h s
  | ok d δ1 =>
    rw [e1] at h
    intro v H' Z' B g k r n fr
    obtain ⟨A', st', s'⟩ := s.put (i := i) g k r n fr
    exact h _ _ _ _ st' s'
theorem cs_set (i : Nat) {x : Str} {pos' : Pos} (hN : X.N.Nodup) (h1 : CE X W dk ca e fe) (hi : X.N[i]? = some x := by rfl) (hx : Loc X.env.scope x := by first | exact Or.inl rfl | exact Or.inr rfl) (hs : swapsWith e (some (.Name x pos')) pos.line X.env = pure false := by rfl) (hf : X.fn x = true ∨ X.env.scope.names.lookup x = some .local := by first | exact .inl rfl | exact .inr rfl | assumption) :
    CS X W dk ca (.Assign [.Name x pos'] e pos) (sSet i fe) := by
  obtain ⟨t, p, q⟩ := h1
  exact ⟨_, ps_set hN hi hx p hs hf, fun Z ρ δ σ H A Dn s h => q Z ρ δ σ H _ s.sx (set_run s h)⟩
/-- name = [..] -/
theorem cs_setC (i : Nat) {y : Str} {elt tg iter : Expr} {ifs : List Expr} {rest : List Comprehension} {scope : Scope} {own : List (Str × Nat)} {cpos py spos : Pos} {fi : AF} {gt' : D → List D → Option (List D)} {tt : EF} {fb : CF} (hc : X.calm = true) (hN : X.N.Nodup)
    (ci : CI X W dk ca tg iter fi) (ok : BlkOk X.N X.env.scope scope own)
    (hcl : ∀ (s : Shared) (H : Hp) (C : Addr) (cl : List (Str × Addr)) (fp : List Addr), ClOk (X.blk s H scope (compEnvC scope cl C X.env) fp) dk ca elt (⟨tg, iter, ifs, 0⟩ :: rest) scope cpos 0 (own.map (·.2)) gt' tt fb)
    (hy : X.N[i]? = some y := by rfl) (hyl : X.env.scope.names.lookup y = some .local := by rfl) (hk : X.env.scope.kind = .function := by rfl) (hl : (py.line == cpos.line) = true := by rfl) (ha : (scope.names.any fun (n, k) => n == y && (k == .local || k == .cell)) = false := by rfl) (hs : ∀ x, foldedSetIterable iter X.env x = pure x := by intro _; rfl) :
    CS X W dk ca (.Assign [.Name y py] (.ListComp elt (⟨tg, iter, ifs, 0⟩ :: rest) scope cpos) spos) (sSet i (eComp fi gt' tt (own.map (·.2)) fb)) := by
  refine ⟨_, ps_comp hc hN hy hyl (sw_true hk hyl hl ha) ci ok hcl hs, fun Z ρ δ σ H A Dn s h => ⟨Z, ρ, δ, s.sx, set_run s h⟩⟩
theorem cs_drop (h1 : CE X W dk ca e fe) (hs : swapsWith e none pos.line X.env = pure false := by rfl) : CS X W dk ca (.Expr e pos) (sDrop fe) := by
  obtain ⟨t, p, q⟩ := h1
  refine ⟨_, ps_expr p hs, fun Z ρ δ σ H A Dn s h => q Z ρ δ σ H _ s.sx ?_⟩
  unfold sDrop andThen at h
  cases e1 : fe ρ δ with
  | err => rw [e1] at h; exact h
  | exc c d δ' => rw [e1] at h; exact RS.exc h s
  | ok d δ1 =>
    rw [e1] at h
    intro v H' Z' B g k r n fr
    exact h _ _ _ _ (g.step (δ := δ) k fun a m => .inl m) (s.grow g k)
theorem cs_ret (h1 : CE X W dk ca e fe) : CS X W dk ca (.Return (some e) pos) (sRet fe) := by
  obtain ⟨t, p, q⟩ := h1
  refine ⟨_, ps_ret p, fun Z ρ δ σ H A Dn s h => q Z ρ δ σ H _ s.sx ?_⟩
  unfold sRet andThen at h
  cases e1 : fe ρ δ with
  | err => rw [e1] at h; exact h
  | exc c d δ' => rw [e1] at h; exact RS.exc h s
  | ok d δ1 =>
    rw [e1] at h
    intro v H' Z' B g k r n fr
    exact h v H' Z' B (g.step (δ := δ) k fun a m => .inr (fr a m).1) g.on k r n fun a m => (fr a m).2
/-- return name: an own list goes out -/
def sRetV (i : Nat) : SF := fun ρ δ => match gt ρ i with
  | .atm .un => .err
  | d => .rt d δ
theorem cs_retV (i : Nat) {x : Str} {p : Pos} (hN : X.N[i]? = some x := by rfl) (hv : Vis X.env.scope x := by first | exact Or.inl rfl | exact Or.inr (Or.inl rfl) | exact Or.inr (Or.inr rfl)) (hd : (x == ("__debug__" : Str)) = false := by decide)
    (hcd : (x == ("__classdict__" : Str)) = false := by decide) : CS X W dk ca (.Return (some (.Name x p)) pos) (sRetV i) := by
  refine ⟨_, ps_ret (pe_var hN hv hd hcd), fun Z ρ δ σ H A Dn s h => ?_⟩
  unfold sRetV at h
  generalize hg : gt ρ i = d at h
  by_cases hu : d = .un
  · subst hu
    exact h.elim
  · obtain ⟨v, B, C, e1, r, _, hm, hn⟩ := s.sl.take hg hu
    refine ⟨v, e1, ?_⟩
    have h : RS X.K dk ca W H Z A (.rt d δ) Dn := by
      cases d with
      | atm a => cases a <;> first | exact h | exact absurd rfl hu
      | _ => exact h
    exact h v H Z B ⟨fun _ z => z, fun _ z => .inl z, fun a m => .inl ((hm a).mpr (.inl m)), fun _ _ _ _ e => e, fun _ e => e⟩ s.on s.deck r (hn s.nd).1 fun a m => s.nz a ((hm a).mpr (.inl m))
theorem cs_retN : CS X W dk ca (.Return none pos) (fun _ δ => .rt .non δ) := ⟨_, ps_retN, fun Z ρ δ σ H A Dn s h => h _ H Z [] ⟨fun _ z => z, fun _ z => .inl z, (fun a m => nomatch m), fun _ _ _ _ e => e, fun _ e => e⟩ s.on s.deck .non .nil fun a m => nomatch m⟩
theorem cs_if {a b : List Stmt} {c : Expr} (hc : CT X W dk ca c fe) (ha : CSs X W dk ca a f) (hb : CSs X W dk ca b g) : CS X W dk ca (.If c a b pos) (sIf fe f g) := by
  obtain ⟨t, p, q⟩ := hc
  obtain ⟨ta, pa, qa⟩ := ha
  obtain ⟨tb, pb, qb⟩ := hb
  refine ⟨_, ps_if p pa pb, fun Z ρ δ σ H A Dn s h => q Z ρ δ σ H _ s.sx ?_⟩
  unfold sIf andThen at h
  cases e1 : fe ρ δ with
  | err => rw [e1] at h; exact h
  | exc c d δ' => rw [e1] at h; exact RS.exc h s
  | ok d δ1 =>
    rw [e1] at h
    simp only at h
    split at h
    · rename_i b
      intro H' Z' g' k
      have st' : Step dk H Z A H' Z' A := g'.step (δ := δ) k fun a m => .inl m
      cases b with
      | true =>
        rw [if_pos rfl]
        exact qa Z' ρ δ1 σ H' A Dn (s.grow g' k) (RS.step h st')
      | false =>
        rw [if_neg (by decide)]
        exact qb Z' ρ δ1 σ H' A Dn (s.grow g' k) (RS.step h st')
    · exact h.elim
end

/-! ## loops -/
def sLoop (g : D → List D → Option (List D)) (f : SF) : List D → List D → List Int → SR
  | [], ρ, δ => .nx ρ δ
  | x :: xs, ρ, δ => match g x ρ with
    | none => .err
    | some ρ1 => match f ρ1 δ with
      | .nx ρ2 δ2 => sLoop g f xs ρ2 δ2
      | .ct ρ2 δ2 => sLoop g f xs ρ2 δ2
      | .bk ρ2 δ2 => .nx ρ2 δ2
      | r => r
def sFor (fi : AF) (g : D → List D → Option (List D)) (f : SF) : SF := fun ρ δ => match fi ρ δ with
  | .ok t items δ1 => (match t with
    | false => sLoop g f items ρ δ1
    | true => .err)
  | .exc c d δ' => .exc c d ρ δ'
  | .err => .err
section
variable {X : Cx} {W : WX} {dk : Addr} {ca : Nat → Addr} {tg iter : Expr} {body : List Stmt} {fi : AF} {g : D → List D → Option (List D)} {f : SF} {pos : Pos} {is : List Nat}
theorem cs_for (hp : PassesOwn (model X.prog X.w) X.A X.env X.xe) (hc : X.calm = true) (ci : CI X W dk ca tg iter fi) (cg : CG X dk tg is g) (cb : CSs X W dk ca body f) (hs : ∀ x, foldedSetIterable iter X.env x = pure x := by intro _; rfl) :
    CS X W dk ca (.For tg iter body [] pos) (sFor fi g f) := by
  obtain ⟨wi, pi, qi⟩ := ci
  obtain ⟨t1, pg, qg⟩ := cg
  obtain ⟨t2, pb, qb⟩ := cb
  refine ⟨_, ps_for hp hc pi pg pb hs, fun Z ρ δ σ H A Dn s h => qi Z ρ δ σ H _ s.sx ?_⟩
  unfold sFor at h
  cases e1 : fi ρ δ with
  | err => rw [e1] at h; exact h
  | exc c d δ' => rw [e1] at h; exact RS.exc h s
  | ok t items δ1 =>
    rw [e1] at h
    cases t with
    | true => exact h.elim
    | false =>
      simp only at h
      intro J H1 Z1 B g1 k1 it1 hB hB'
      have eB : B = fun _ => False := funext fun a => propext ⟨hB' rfl a, fun z => z.elim⟩
      subst eB
      have s1 := s.grow g1 k1
      have h1 : RS X.K dk ca W H1 Z1 A (sLoop g f items ρ δ1) Dn := RS.step h (g1.step (δ := δ) k1 fun a m => .inl m)
      refine ⟨fun i m σ' H' => ∃ Z' A' ρ' δ', m = items.length - i ∧ i ≤ items.length ∧ Step dk H1 Z1 A H' Z' A' ∧ Stt X.K dk ρ' δ' σ' H' Z' A' ∧ RS X.K dk ca W H' Z' A' (sLoop g f (items.drop i) ρ' δ') Dn, ⟨items.length, Z1, A, ρ, δ1, by simp, Nat.zero_le _, .refl, s1, by rw [List.drop_zero]; exact h1⟩, ?_⟩
      rintro i m σ' H' ⟨Z', A', ρ', δ', rfl, hi, st', s', h'⟩
      have it' := it1 i H' Z' (Step.keep (on := s'.on) s1 st') ⟨_, s'.deck⟩
      by_cases hlt : i < items.length
      · have ed : items.drop i = items[i] :: items.drop (i + 1) := List.drop_eq_getElem_cons hlt
        rw [ed] at h'
        obtain ⟨go, yl⟩ := it'.2 items[i] (by simp [hlt])
        generalize items[i] = x at h' yl
        refine .inr ⟨go, fun σ'' H'' => ∃ Z'' A'' ρ'' δ'', Step dk H1 Z1 A H'' Z'' A'' ∧ Stt X.K dk ρ'' δ'' σ'' H'' Z'' A'' ∧ RS X.K dk ca W H'' Z'' A'' (sLoop g f (items.drop (i + 1)) ρ'' δ'') Dn, fun σ'' H'' ⟨Z'', A'', ρ'', δ'', a1, a2, a3⟩ => ⟨items.length - (i + 1), by omega, Z'', A'', ρ'', δ'', rfl, hlt, a1, a2, a3⟩, fun xv H7 y7 => ?_⟩
        obtain ⟨g7, k7, rx⟩ := yl xv H7 y7
        have k7' := k7.trans s'.deck
        have s7 := s'.grow g7 k7'
        have st7 : Step dk H' Z' A' H7 Z' A' := g7.step (δ := δ') k7' fun a m => .inl m
        have h7 := RS.step h' st7
        unfold sLoop at h7
        cases e2 : g x ρ' with
        | none => rw [e2] at h7; exact h7.elim
        | some ρ1 =>
          rw [e2] at h7
          simp only at h7
          refine qg x xv ρ' ρ1 σ' H7 Z' A' _ rx s7.sl e2 fun σ2 A2 sl2 n2 m2 _ => ?_
          have st2 : Step dk H7 Z' A' H7 Z' A2 := ⟨fun _ z => z, fun _ z => .inl z, fun a m => .inl (m2 a m), fun _ _ _ _ e => e, fun _ e => e⟩
          have s2 : Stt X.K dk ρ1 δ' σ2 H7 Z' A2 := ⟨sl2, n2 s7.nd, fun a m => s7.nz a (m2 a m), s7.on, k7'⟩
          have h2 : RS X.K dk ca W H7 Z' A2 (match f ρ1 δ' with
            | .nx ρ2 δ2 => sLoop g f (items.drop (i + 1)) ρ2 δ2
            | .ct ρ2 δ2 => sLoop g f (items.drop (i + 1)) ρ2 δ2
            | .bk ρ2 δ2 => .nx ρ2 δ2
            | r => r) Dn := RS.step h7 st2
          refine qb Z' ρ1 δ' σ2 H7 A2 _ s2 ?_
          have stt := st'.trans (st7.trans st2)
          cases e3 : f ρ1 δ' with
          | nx ρ2 δ2 =>
            rw [e3] at h2
            exact fun σ'' H'' Z'' A'' g'' s'' => ⟨Z'', A'', ρ2, δ2, stt.trans g'', s'', RS.step h2 g''⟩
          | ct ρ2 δ2 =>
            rw [e3] at h2
            exact fun σ'' H'' Z'' A'' g'' s'' => ⟨Z'', A'', ρ2, δ2, stt.trans g'', s'', RS.step h2 g''⟩
          | bk ρ2 δ2 => rw [e3] at h2; exact h2
          | rt d δ => rw [e3] at h2; exact h2
          | exc c d ρ δ => rw [e3] at h2; exact h2
          | err => rw [e3] at h2; exact h2
      · have e : i = items.length := by omega
        subst e
        rw [List.drop_length] at h'
        exact .inl ⟨it'.1 (Nat.le_refl _), h' σ' H' Z' A' .refl s'⟩
/-- while, with fuel -/
def sWhile (c : EF) (f : SF) : Nat → SF
  | 0, _, _ => .err
  | n + 1, ρ, δ => andThen (c ρ δ) ρ fun d δ1 => match d with
    | .atm (.bl b) => (match b with
      | true => (match f ρ δ1 with
        | .nx ρ2 δ2 => sWhile c f n ρ2 δ2
        | .ct ρ2 δ2 => sWhile c f n ρ2 δ2
        | .bk ρ2 δ2 => .nx ρ2 δ2
        | r => r)
      | false => .nx ρ δ1)
    | _ => .err
theorem cs_while {c : Expr} {fc : EF} (n : Nat) (hp : PassesOwn (model X.prog X.w) X.A X.env X.xe) (hc : CT X W dk ca c fc) (cb : CSs X W dk ca body f) : CS X W dk ca (.While c body [] pos) (sWhile fc f n) := by
  obtain ⟨t1, p1, q1⟩ := hc
  obtain ⟨t2, pb, qb⟩ := cb
  refine ⟨_, ps_while hp p1 pb, fun Z ρ δ σ H A Dn s h => ?_⟩
  refine ⟨fun m σ' H' => ∃ Z' A' ρ' δ', Stt X.K dk ρ' δ' σ' H' Z' A' ∧ RS X.K dk ca W H' Z' A' (sWhile fc f m ρ' δ') Dn, ⟨n, Z, A, ρ, δ, s, h⟩, ?_⟩
  rintro m σ' H' ⟨Z', A', ρ', δ', s', h'⟩
  cases m with
  | zero => exact h'.elim
  | succ m =>
    refine q1 Z' ρ' δ' σ' H' _ s'.sx ?_
    unfold sWhile andThen at h'
    cases e1 : fc ρ' δ' with
    | err => rw [e1] at h'; exact h'
    | exc c d δ' => rw [e1] at h'; exact RS.exc h' s'
    | ok d δ1 =>
      rw [e1] at h'
      simp only at h'
      split at h'
      · rename_i b
        intro H2 Z2 g2 k2
        have st2 : Step dk H' Z' A' H2 Z2 A' := g2.step (δ := δ') k2 fun a m => .inl m
        have s2 := s'.grow g2 k2
        have h2 := RS.step h' st2
        cases b with
        | false =>
          rw [if_neg (by decide)]
          exact h2 σ' H2 Z2 A' .refl s2
        | true =>
          rw [if_pos rfl]
          refine ⟨fun σ'' H'' => ∃ Z'' A'' ρ'' δ'', Stt X.K dk ρ'' δ'' σ'' H'' Z'' A'' ∧ RS X.K dk ca W H'' Z'' A'' (sWhile fc f m ρ'' δ'') Dn, fun σ'' H'' q => ⟨m, Nat.lt_succ_self m, q⟩, qb Z2 ρ' δ1 σ' H2 A' _ s2 ?_⟩
          simp only at h2
          cases e3 : f ρ' δ1 with
          | nx ρ2 δ2 =>
            rw [e3] at h2
            exact fun σ'' H'' Z'' A'' g'' s'' => ⟨Z'', A'', ρ2, δ2, s'', RS.step h2 g''⟩
          | ct ρ2 δ2 =>
            rw [e3] at h2
            exact fun σ'' H'' Z'' A'' g'' s'' => ⟨Z'', A'', ρ2, δ2, s'', RS.step h2 g''⟩
          | bk ρ2 δ2 => rw [e3] at h2; exact h2
          | rt d δ => rw [e3] at h2; exact h2
          | exc c d ρ δ => rw [e3] at h2; exact h2
          | err => rw [e3] at h2; exact h2
      · exact h'.elim
end
end Zv
namespace Zv
open PySem PySem.Spec PyProof.Rows L2 RZ

/-! ## writing to what is owned -/
section
variable {K : PySem.W.Frag} {dk : Addr} {H : Hp} {Z : Addr → Prop}
theorem off1 {a : Addr} {o : HO} : ∀ b u, b ≠ dk → b ∉ [a] → H b = some u → upd H a o b = some u := fun b u _ hb q => by
  rw [upd_ne (by simpa using hb)]
  exact q
theorem off2 {a : Addr} (nt : ∀ us, H a ≠ some (.tup us)) : ∀ b us, b ∈ [a] → H b ≠ some (.tup us) := fun b us hb => by
  have : b = a := by simpa using hb
  subst this
  exact nt us
theorem off3 {a : Addr} (nz : ¬ Z a) : ∀ x, Z x → x ∉ [a] := fun x z m => by
  have : x = a := by simpa using m
  subst this
  exact nz z
theorem off4 {a : Addr} {B : List Addr} (n : a ∉ B) : ∀ x ∈ B, x ∉ [a] := fun x m m' => by
  have : x = a := by simpa using m'
  subst this
  exact n m
theorem Rep.wr {a : Addr} {o : HO} {d : D} {v : V} {B : List Addr} (r : Rep K dk H Z d v B) (nt : ∀ us, H a ≠ some (.tup us)) (nz : ¬ Z a) (n : a ∉ B) : Rep K dk (upd H a o) Z d v B := r.off off1 (off2 nt) (off3 nz) (off4 n)
theorem Reps.wr {a : Addr} {o : HO} {d : List D} {v : List V} {B : List Addr} (r : Reps K dk H Z d v B) (nt : ∀ us, H a ≠ some (.tup us)) (nz : ¬ Z a) (n : a ∉ B) : Reps K dk (upd H a o) Z d v B := r.off off1 (off2 nt) (off3 nz) (off4 n)
theorem EntK.wr {a : Addr} {o : HO} {d : List D} {v : List (Key × V)} {B : List Addr} (r : EntK K dk H Z d v B) (nt : ∀ us, H a ≠ some (.tup us)) (nz : ¬ Z a) (n : a ∉ B) : EntK K dk (upd H a o) Z d v B := r.off off1 (off2 nt) (off3 nz) (off4 n)
theorem EntT.wr {a : Addr} {o : HO} {d : List D} {v : List (List Key × V)} {B : List Addr} (r : EntT K dk H Z d v B) (nt : ∀ us, H a ≠ some (.tup us)) (nz : ¬ Z a) (n : a ∉ B) : EntT K dk (upd H a o) Z d v B := r.off off1 (off2 nt) (off3 nz) (off4 n)
theorem Slots.wr {a : Addr} {o : HO} {d : List D} {v : Sg} {B : List Addr} (r : Slots K dk H Z d v B) (nt : ∀ us, H a ≠ some (.tup us)) (nz : ¬ Z a) (n : a ∉ B) : Slots K dk (upd H a o) Z d v B := r.off off1 (off2 nt) (off3 nz) (off4 n)
theorem Stt.write {ρ : List D} {δ : List Int} {σ : Sg} {A : List Addr} {i : Nat} {d : D} (s : Stt K dk ρ δ σ H Z A) (hg : gt ρ i = d) (hu : d ≠ .un) :
    ∃ v B, σ[i]? = some (some v) ∧ Rep K dk H Z d v B ∧ (∀ x ∈ B, x ∈ A) ∧ B.Nodup ∧ ∀ (a : Addr) (o' : HO) (d' : D) (B' F : List Addr), v = .ref a → a ∈ B → Rep K dk (upd H a o') Z d' v B' → B'.Nodup → (∀ x ∈ B', x ∈ B ∨ x ∈ F) → (∀ x ∈ F, x ∉ A ∧ ¬ Z x) →
      ∃ A', Step dk H Z (A ++ F) (upd H a o') Z A' ∧ Stt K dk (stD ρ i d') δ σ (upd H a o') Z A' := by
  obtain ⟨v, B, C, h1, r, sC, hm, hn⟩ := s.sl.take hg hu
  obtain ⟨nB, nC, dBC⟩ := hn s.nd
  refine ⟨v, B, h1, r, fun x m => (hm x).mpr (.inl m), nB, fun a o' d' B' F ev ha r' nB' sB' hF => ?_⟩
  subst ev
  have aA : a ∈ A := (hm a).mpr (.inl ha)
  have nt : ∀ us, H a ≠ some (.tup us) := fun us z => by
    obtain ⟨u, e, mu⟩ := s.sl.ownM a aA
    rw [z] at e
    cases e
    cases mu
  have nz := s.nz a aA
  have sC' : Slots K dk (upd H a o') Z (stD ρ i .un) σ C := sC.wr nt nz (dBC a ha)
  have disj : ∀ x ∈ B', x ∉ C := fun x m m' => by
    rcases sB' x m with z | z
    · exact dBC x z m'
    · exact (hF x z).1 ((hm x).mpr (.inr m'))
  obtain ⟨A', s', m', n'⟩ := sC'.put r' h1 fun _ _ _ => trivial
  have inn : ∀ x ∈ A', x ∈ A ∨ x ∈ F := fun x m => by
    rcases m' x m with z | z
    · exact .inl ((hm x).mpr (.inr z))
    · rcases sB' x z with z | z
      · exact .inl ((hm x).mpr (.inl z))
      · exact .inr z
  have there : ∀ x, upd H a o' x = none → H x = none := fun x e => by
    by_cases z : x = a
    · subst z
      rw [upd_same] at e
      cases e
    · rw [upd_ne z] at e
      exact e
  refine ⟨A', ⟨fun _ z => z, fun _ z => .inl z, fun x m => .inl (List.mem_append.mpr (inn x m)), fun x o n nm e => ?_, there⟩, ⟨s', n' nC nB' disj, fun x m => (inn x m).elim (s.nz x) fun z => (hF x z).2, fun x z => ⟨(s.on x z).1, fun e => (s.on x z).2 (there x e)⟩, ?_⟩⟩
  · rw [upd_ne (fun z => nm (List.mem_append.mpr (.inl (by rw [z]; exact aA))))]
    exact e
  · rw [upd_ne (Ne.symm (s.sl.own a aA).1)]
    exact s.deck
/-- a step behind an expression whose fresh things are F -/
theorem Grow.stepF {H' : Hp} {Z' : Addr → Prop} {A F : List Addr} {δ δ' : List Int} (g : Grow dk H Z H' Z') (k' : H' dk = some (deckO δ')) (f : ∀ a ∈ F, H a = none ∧ ¬ Z' a) : Step dk H Z A H' Z' (A ++ F) :=
  g.step (δ := δ) k' fun a m => (List.mem_append.mp m).imp id fun m => (f a m).1
/-- fresh things are not among the owned -/
theorem Stt.apart {ρ : List D} {δ : List Int} {σ : Sg} {A F : List Addr} {Z' : Addr → Prop} (s : Stt K dk ρ δ σ H Z A) (f : ∀ a ∈ F, H a = none ∧ ¬ Z' a) : ∀ x ∈ F, x ∉ A ∧ ¬ Z' x := fun x m => ⟨fun m' => (s.sl.own x m').2 (f x m).1, (f x m).2⟩
end

/-! ## moves, freezing -/
def sMove (i j : Nat) : SF := fun ρ δ => match gt ρ i with
  | .atm .un => .err
  | d => .nx (stD (stD ρ i .un) j d) δ
def frzS (i : Nat) (f : SF) : SF := fun ρ δ => f (stD ρ i (fz (gt ρ i))) δ
section
variable {X : Cx} {W : WX} {dk : Addr} {ca : Nat → Addr} {f : SF} {pos : Pos}
theorem cs_move (i j : Nat) {x y : Str} {p pos' : Pos} (hN : X.N.Nodup) (hj : X.N[j]? = some y := by rfl) (hy : Loc X.env.scope y := by first | exact Or.inl rfl | exact Or.inr rfl) (hi : X.N[i]? = some x := by rfl) (hv : Vis X.env.scope x := by first | exact Or.inl rfl | exact Or.inr (Or.inl rfl) | exact Or.inr (Or.inr rfl)) (hd : (x == ("__debug__" : Str)) = false := by decide)
    (hcd : (x == ("__classdict__" : Str)) = false := by decide) (hs : swapsWith (.Name x p) (some (.Name y pos')) pos.line X.env = pure false := by rfl) (hf : X.fn y = true ∨ X.env.scope.names.lookup y = some .local := by first | exact .inl rfl | exact .inr rfl | assumption) :
    CS X W dk ca (.Assign [.Name y pos'] (.Name x p) pos) (sMove i j) := by
  refine ⟨_, ps_set hN hj hy (pe_var hi hv hd hcd) hs hf, fun Z ρ δ σ H A Dn s h => ?_⟩
  unfold sMove at h
  generalize hg : gt ρ i = d at h
  by_cases hu : d = .un
  · subst hu
    exact h.elim
  · obtain ⟨v, B, C, e1, r, sC, hm, hn⟩ := s.sl.take hg hu
    obtain ⟨nB, nC, dBC⟩ := hn s.nd
    refine ⟨v, e1, ?_⟩
    have h : RS X.K dk ca W H Z A (.nx (stD (stD ρ i .un) j d) δ) Dn := by
      cases d with
      | atm a => cases a <;> first | exact h | exact absurd rfl hu
      | _ => exact h
    obtain ⟨A', s', m', n'⟩ := sC.set (i := j) r
    have inn : ∀ x ∈ A', x ∈ A := fun x m => (hm x).mpr ((m' x m).symm)
    exact h _ H Z A' ⟨fun _ z => z, fun _ z => .inl z, fun a m => .inl (inn a m), fun _ _ _ _ e => e, fun _ e => e⟩ ⟨s', n' nC nB dBC, fun a m => s.nz a (inn a m), s.on, s.deck⟩
/-- the slot's thing is frozen from here on -/
theorem Stt.frz {K : PySem.W.Frag} {ρ : List D} {δ : List Int} {σ : Sg} {H : Hp} {Z : Addr → Prop} {A : List Addr} (s : Stt K dk ρ δ σ H Z A) (i : Nat) : ∃ Z' A', Step dk H Z A H Z' A' ∧ Stt K dk (stD ρ i (fz (gt ρ i))) δ σ H Z' A' := by
  by_cases hu : gt ρ i = .un
  · refine ⟨Z, A, .refl, ?_⟩
    have e : stD ρ i (fz (gt ρ i)) = ρ := by
      rw [hu]
      have : ∀ (ρ : List D) (i : Nat), gt ρ i = .un → stD ρ i .un = ρ := by
        intro ρ
        induction ρ with
        | nil => intro i _; rfl
        | cons d ρ ih =>
          intro i hi
          cases i with
          | zero => simp only [gt] at hi; subst hi; rfl
          | succ i => simp only [gt] at hi; simp only [stD, ih i hi]
      unfold fz
      exact this ρ i hu
    rw [e]
    exact s
  · obtain ⟨v, B, C, e1, r, sC, hm, hn⟩ := s.sl.take rfl hu
    obtain ⟨nB, nC, dBC⟩ := hn s.nd
    have zup : ∀ a, Z a → Z a ∨ a ∈ B := fun _ z => .inl z
    have r' := r.fz (Z' := fun a => Z a ∨ a ∈ B) zup fun a m => .inr m
    obtain ⟨A', s', m', n'⟩ := (sC.mono (SameD.refl _) zup).put r' e1 fun _ _ _ => trivial
    have inC : ∀ x ∈ A', x ∈ C := fun x m => (m' x m).elim id fun z => nomatch z
    refine ⟨fun a => Z a ∨ a ∈ B, A', ⟨zup, fun a z => z.elim .inl fun m => .inr (.inl ((hm a).mpr (.inl m))), fun a m => .inl ((hm a).mpr (.inr (inC a m))), fun _ _ _ _ e => e, fun _ e => e⟩, ⟨s', n' nC .nil (fun a m => nomatch m), fun a m z => ?_, fun a z => ?_, s.deck⟩⟩
    · rcases z with z | z
      · exact s.nz a ((hm a).mpr (.inr (inC a m))) z
      · exact dBC a z (inC a m)
    · rcases z with z | z
      · exact s.on a z
      · exact r.own a z
theorem css_frz {sts : List Stmt} (i : Nat) (h : CSs X W dk ca sts f) : CSs X W dk ca sts (frzS i f) := by
  obtain ⟨t, p, q⟩ := h
  refine ⟨t, p, fun Z ρ δ σ H A Dn s h => ?_⟩
  obtain ⟨Z', A', st, s'⟩ := s.frz i
  exact q Z' _ δ σ H A' Dn s' (RS.step h st)
theorem cs_frz {st : Stmt} (i : Nat) (h : CS X W dk ca st f) : CS X W dk ca st (frzS i f) := by
  obtain ⟨t, p, q⟩ := h
  refine ⟨t, p, fun Z ρ δ σ H A Dn s h => ?_⟩
  obtain ⟨Z', A', st, s'⟩ := s.frz i
  exact q Z' _ δ σ H A' Dn s' (RS.step h st)
end

/-! ## several names at once -/
def tgS (n : Nat) (h : List D → List D → Option (List D)) : D → List D → Option (List D) := fun d ρ => match d with
  | .seq .tup xs => (match Nat.beq xs.length n with
    | true => h xs ρ
    | false => none)
  | .seq .lst xs => (match Nat.beq xs.length n with
    | true => h xs ρ
    | false => none)
  | _ => none
/-- target = e: the value is frozen first -/
def sAsg (f : EF) (g : D → List D → Option (List D)) : SF := fun ρ δ => andThen (f ρ δ) ρ fun d δ1 => match g (fz d) ρ with
  | some ρ' => .nx ρ' δ1
  | none => .err
section
variable {X : Cx} {W : WX} {dk : Addr} {ca : Nat → Addr} {pos : Pos}
theorem cg_seq {es : List Expr} {k n : Nat} {is : List Nat} {h : List D → List D → Option (List D)} (hc : X.calm = true) (h1 : CGs X dk es is h) (hn : (assignEach es X.env).length = n := by rfl) (hst : (assignEach es X.env).findIdx? (·.1) = none := by rfl) :
    CG X dk (.Tuple es k pos) is (tgS n h) := by
  obtain ⟨t1, p1, q1⟩ := h1
  refine ⟨fun v σ H Q => gTup X.K n t1 v σ H Q ∨ gLst X.K n t1 v σ H Q, ⟨fun pins s σ H v u Q I r h => ?_⟩, fun d v ρ ρ' σ H Z A Q r s e q => ?_⟩
  · rcases h with h | h
    · exact (pg_tup hc p1 hn hst).run pins s σ H v u Q I r h
    · exact (pg_lst hc p1 hn hst).run pins s σ H v u Q I r h
  · unfold tgS at e
    split at e
    · rename_i xs
      cases c : Nat.beq xs.length n with
      | false => rw [c] at e; cases e
      | true =>
        rw [c] at e
        have e : h xs ρ = some ρ' := e
        obtain ⟨a, vs, rfl, na, ea, rs⟩ := r.tupAt
        refine .inl ⟨a, vs, rfl, .inl (.inl ea), ?_, q1 _ _ ρ ρ' σ H Z A _ rs s e q⟩
        rw [← rs.len]
        exact Nat.eq_of_beq_eq_true c
    · rename_i xs
      cases c : Nat.beq xs.length n with
      | false => rw [c] at e; cases e
      | true =>
        rw [c] at e
        have e : h xs ρ = some ρ' := e
        cases r with
        | lst z na ea rs =>
          rename_i a vs
          refine .inr ⟨a, vs, rfl, .inl (.inl ea), ?_, q1 _ _ ρ ρ' σ H Z A _ rs s e q⟩
          rw [← rs.len]
          exact Nat.eq_of_beq_eq_true c
    · cases e
theorem cs_asg {tg e : Expr} {fe : EF} {g : D → List D → Option (List D)} {is : List Nat} (h1 : CE X W dk ca e fe) (cg : CG X dk tg is g) (hs : swapsWithSole [tg] e pos.line X.env = pure false := by rfl) (hw : swappedStores [tg] e X.env = pure none := by rfl)
    (ha : (assignEach [tg] X.env).map (·.2) = [assign tg X.env] := by rfl) : CS X W dk ca (.Assign [tg] e pos) (sAsg fe g) := by
  obtain ⟨t, p, q⟩ := h1
  obtain ⟨t2, p2, q2⟩ := cg
  refine ⟨_, ps_asg p p2 hs hw ha, fun Z ρ δ σ H A Dn s h => q Z ρ δ σ H _ s.sx ?_⟩
  unfold sAsg andThen at h
  cases e1 : fe ρ δ with
  | err => rw [e1] at h; exact h
  | exc c d δ' => rw [e1] at h; exact RS.exc h s
  | ok d δ1 =>
    rw [e1] at h
    simp only at h
    intro v H1 Z1 B g1 k1 r1 n1 f1
    cases e2 : g (fz d) ρ with
    | none => rw [e2] at h; exact h.elim
    | some ρ' =>
      rw [e2] at h
      simp only at h
      have g1' := g1.freeze r1.own fun a m => (f1 a m).1
      have r1' := r1.fz (Z' := fun a => Z1 a ∨ a ∈ B) (fun a z => .inl z) fun a m => .inr m
      have s1 := s.grow g1' k1
      refine q2 _ v ρ ρ' σ H1 _ A _ r1' s1.sl e2 fun σ' A' sl' n' m' _ => ?_
      exact h σ' H1 _ A' (g1'.step (δ := δ) k1 fun a m => .inl (m' a m)) ⟨sl', n' s1.nd, fun a m => s1.nz a (m' a m), s1.on, k1⟩

/-! ## x op= e -/
def G2I (K : PySem.W.Frag) (dk : Addr) (r : R2) (g : D → D → Option D) : Prop := ∀ (H : Hp) (Z : Addr → Prop) (x y z : D) (v u : V) (A B : List Addr) (Q : VK), Rep K dk H Z x v A → Rep K dk H Z y u B → g x y = some z → (∃ k, z = .int k ∧ Q (.int k) H) → r v u H Q
def gIAdd : D → D → Option D
  | .int i, .int j => oI (i + j)
  | _, _ => none
def gISub : D → D → Option D
  | .int i, .int j => oI (i - j)
  | _, _ => none
def gIMul : D → D → Option D
  | .int i, .int j => match Nat.ble (Nat.add (Nat.log2 i.natAbs) (Nat.log2 j.natAbs)) 999999 with
    | true => oI (i * j)
    | false => none
  | _, _ => none
def gIDiv : D → D → Option D
  | .int i, .int j => match decide (0 < j) && Nat.ble (Nat.log2 j.natAbs) 8999 with
    | true => oI (i / j)
    | false => none
  | _, _ => none
theorem g_iadd {K : PySem.W.Frag} : G2I K dk (rI0 fun i j => .int (i + j)) gIAdd := by
  intro H Z x y z v u A B Q rx ry e q
  unfold gIAdd at e
  split at e
  · cases rx
    cases ry
    rw [oI_eq] at e
    cases e
    obtain ⟨k, ek, q⟩ := q
    cases ek
    exact ⟨_, _, rfl, rfl, q⟩
  · cases e
theorem g_isub {K : PySem.W.Frag} : G2I K dk (rI0 fun i j => .int (i - j)) gISub := by
  intro H Z x y z v u A B Q rx ry e q
  unfold gISub at e
  split at e
  · cases rx
    cases ry
    rw [oI_eq] at e
    cases e
    obtain ⟨k, ek, q⟩ := q
    cases ek
    exact ⟨_, _, rfl, rfl, q⟩
  · cases e
theorem iop_mulW {X : Cx} : OpR X (inplaceOp .Mult) (rI CMulW fun i j => .int (i * j)) := opI fun _ _ _ _ _ _ _ hc q => imul_int q hc.ok
theorem g_imul {K : PySem.W.Frag} : G2I K dk (rI CMulW fun i j => .int (i * j)) gIMul := by
  intro H Z x y z v u A B Q rx ry e q
  unfold gIMul at e
  split at e
  · rename_i i j
    cases rx
    cases ry
    cases c : Nat.ble (Nat.add (Nat.log2 i.natAbs) (Nat.log2 j.natAbs)) 999999 with
    | false => rw [c] at e; cases e
    | true =>
      rw [c] at e
      simp only [oI_eq] at e
      cases e
      obtain ⟨k, ek, q⟩ := q
      cases ek
      have h := Nat.le_of_ble_eq_true c
      exact ⟨_, _, rfl, rfl, (by show i.natAbs.log2 + j.natAbs.log2 < 1000000; exact Nat.lt_succ_of_le h), q⟩
  · cases e
theorem g_idiv {K : PySem.W.Frag} : G2I K dk (rI CDivW fun i j => .int (i / j)) gIDiv := by
  intro H Z x y z v u A B Q rx ry e q
  unfold gIDiv at e
  split at e
  · rename_i i j
    cases rx
    cases ry
    cases c : decide (0 < j) && Nat.ble (Nat.log2 j.natAbs) 8999 with
    | false => rw [c] at e; cases e
    | true =>
      rw [c] at e
      simp only [oI_eq] at e
      cases e
      simp only [Bool.and_eq_true, decide_eq_true_eq] at c
      obtain ⟨k, ek, q⟩ := q
      cases ek
      exact ⟨_, _, rfl, rfl, ⟨c.1, Nat.lt_succ_of_le (Nat.le_of_ble_eq_true c.2)⟩, q⟩
  · cases e
def sAug (i : Nat) (g : D → D → Option D) (f : EF) : SF := fun ρ δ => match gt ρ i with
  | .atm .un => .err
  | x => andThen (f ρ δ) ρ fun y δ1 => match g x y with
    | some z => (match z with
      | .int k => .nx (stD ρ i (.int k)) δ1
      | _ => .err)
    | none => .err
theorem cs_aug (i : Nat) {op : Operator} {r : R2} {g : D → D → Option D} {x : Str} {e : Expr} {fe : EF} {pos' : Pos} (hN : X.N.Nodup) (hg : G2I X.K dk r g) (ho : OpR X (inplaceOp op) r) (h1 : CB X W dk ca e fe) (hi : X.N[i]? = some x := by rfl) (hx : Loc X.env.scope x := by first | exact Or.inl rfl | exact Or.inr rfl) (hf : X.fn x = true ∨ X.env.scope.names.lookup x = some .local := by first | exact .inl rfl | exact .inr rfl | assumption) :
    CS X W dk ca (.AugAssign (.Name x pos') op e pos) (sAug i g fe) := by
  obtain ⟨t, p, q⟩ := h1
  refine ⟨_, ps_aug (ti := r) hN hi hx p (fun pins s σ H x y v u Q I rx ry h => ho pins s σ H x y v u Q I rx ry h) hf, fun Z ρ δ σ H A Dn s h => ?_⟩
  unfold sAug at h
  generalize hgt : gt ρ i = d at h
  by_cases hu : d = .un
  · subst hu
    exact h.elim
  · obtain ⟨v, B, e1, rv, _⟩ := s.sl.get hgt hu
    have h : RS X.K dk ca W H Z A (andThen (fe ρ δ) ρ fun y δ1 => match g d y with
      | some z => (match z with
        | .int k => .nx (stD ρ i (.int k)) δ1
        | _ => .err)
      | none => .err) Dn := by
      cases d with
      | atm a => cases a <;> first | exact h | exact absurd rfl hu
      | _ => exact h
    refine ⟨v, e1, q Z ρ δ σ H _ s.sx ?_⟩
    unfold andThen at h
    cases e2 : fe ρ δ with
    | err => rw [e2] at h; exact h
    | exc c d δ' => rw [e2] at h; exact RS.exc h s
    | ok y δ1 =>
      rw [e2] at h
      simp only at h
      intro u H1 Z1 A1 g1 k1 r1
      cases e3 : g d y with
      | none => rw [e3] at h; exact h.elim
      | some z =>
        rw [e3] at h
        simp only at h
        split at h
        · rename_i k
          refine hg H1 Z1 d y (.int k) v u B A1 _ (rv.mono g1.same g1.z) r1 e3 ⟨k, rfl, ?_⟩
          obtain ⟨A', st', s'⟩ := s.put (i := i) g1 k1 (Rep.int k) .nil fun a m => nomatch m
          exact h _ H1 Z1 A' st' s'
        · exact h.elim
end
end Zv
namespace Zv
open PySem PySem.Spec PyProof.Rows L2 RZ

/-! ## methods of an own list -/
/-- a strict append -/
def snoc : List D → D → List D
  | [], d => [d]
  | x :: xs, d => x :: snoc xs d
theorem snoc_eq : ∀ (xs : List D) (d : D), snoc xs d = xs ++ [d]
  | [], _ => rfl
  | x :: xs, d => by rw [snoc, snoc_eq xs d]; rfl
def sApp (i : Nat) (f : EF) : SF := fun ρ δ => match gt ρ i with
  | .seq .ols _ => andThen (f ρ δ) ρ fun d δ1 => match gt ρ i with
    | .seq .ols xs => (match Nat.blt xs.length 16777216 with
      | true => .nx (stD ρ i (.seq .ols (snoc xs d))) δ1
      | false => .err)
    | _ => .err
  | _ => .err
def sExt (i : Nat) (f : EF) : SF := fun ρ δ => match gt ρ i with
  | .seq .ols _ => andThen (f ρ δ) ρ fun d δ1 => match gt ρ i, d with
    | .seq .ols xs, .seq .ols ys => (match szOk (xs.length + ys.length) with
      | true => .nx (stD ρ i (.seq .ols (xs ++ ys))) δ1
      | false => .err)
    | .seq .ols xs, .seq .lst ys => (match szOk (xs.length + ys.length) with
      | true => .nx (stD ρ i (.seq .ols (xs ++ ys))) δ1
      | false => .err)
    | _, _ => .err
  | _ => .err
section
variable {X : Cx} {W : WX} {dk : Addr} {ca : Nat → Addr} {pos apos cpos p : Pos} {e : Expr} {fe : EF} {x : Str}
theorem lst_nt {H : Hp} {a : Addr} {vs : List V} (e : H a = some (.lst vs)) : ∀ us, H a ≠ some (.tup us) := fun us z => by
  rw [e] at z
  cases z
theorem cs_append (i : Nat) (h1 : CE X W dk ca e fe) (hN : X.N[i]? = some x := by rfl) (hv : Vis X.env.scope x := by first | exact Or.inl rfl | exact Or.inr (Or.inl rfl) | exact Or.inr (Or.inr rfl)) (hd : (x == ("__debug__" : Str)) = false := by decide)
    (hcd : (x == ("__classdict__" : Str)) = false := by decide) (hbase : attributeBase (.Name x p) "append" X.env (eval (.Name x p) X.env) = eval (.Name x p) X.env := by rfl)
    (hfew : ((backTo cpos (starEach [e] X.env)).all (fun x => !x.1) && (backToKw cpos (keywordEach [] X.env)).all (fun x => x.1.isSome)
      && decide (([e] : List Expr).length + ([] : List Keyword).length + (if ([] : List Keyword).isEmpty then 0 else 1) < 30)) = true := by rfl)
    (hline : (apos.endLine == cpos.line) = true := by rfl) (hs : starEach [e] X.env = (false, eval e X.env) :: starEach [] X.env := by rfl) (hsw : swapsWith (.Call (.Attribute (.Name x p) "append" apos) [e] [] cpos) none pos.line X.env = pure false := by rfl) :
    CS X W dk ca (.Expr (.Call (.Attribute (.Name x p) "append" apos) [e] [] cpos) pos) (sApp i fe) := by
  obtain ⟨t, pt, q⟩ := h1
  have pm := pe_bm (r := rAppend) (apos := apos) (cpos := cpos) F.plainAttrs_list F.slot_list_append F.type_list_append mt_append (pe_var (pos := p) hN hv hd hcd) (pa_cons pt pa_nil (hs.trans rfl)) hbase hfew hline hs
  refine ⟨_, ps_expr pm hsw, fun Z ρ δ σ H A Dn s h => ?_⟩
  unfold sApp at h
  generalize hgt : gt ρ i = d0 at h
  split at h
  · rename_i xs0
    obtain ⟨v, B, h1, r, sub, nB, wr⟩ := s.write hgt (fun z => by cases z)
    cases r with
    | ols nd ea rs =>
      rename_i a vs A0
      refine ⟨.ref a, h1, .inl ⟨rfl, vs, .inl (.inl ea)⟩, q Z ρ δ σ H _ s.sx ?_⟩
      unfold andThen at h
      cases e1 : fe ρ δ with
      | err => rw [e1] at h; exact h
      | exc c d δ' => rw [e1] at h; exact RS.exc h s
      | ok d δ1 =>
        rw [e1] at h
        simp only at h
        intro u H1 Z1 F g1 k1 r1 n1 f1
        cases c : Nat.blt xs0.length 16777216 with
        | false => simp only [c] at h; exact h.elim
        | true =>
          simp only [c] at h
          have s1 := s.grow g1 k1
          obtain ⟨v', B', h1', r', sub', nB', wr'⟩ := s1.write hgt (fun z => by cases z)
          rw [h1] at h1'
          cases h1'
          cases r' with
          | ols nd' ea' rs' =>
            rename_i vs' A0'
            have hz : vs'.length < sizeLine := by
              rw [← rs'.len]
              have z := Nat.le_of_ble_eq_true c
              have : sizeLine = 16777216 := by decide
              omega
            refine ⟨a, vs', u, rfl, rfl, ea', hz, ?_⟩
            have aA := sub' a List.mem_cons_self
            have nz := s1.nz a aA
            have ap := s.apart f1
            have naF : a ∉ F := fun m => (ap a m).1 aA
            rw [snoc_eq] at h
            obtain ⟨A', st', s'⟩ := wr' a (.lst (vs' ++ [u])) (.seq .ols (xs0 ++ [d])) (a :: (A0' ++ F)) F rfl List.mem_cons_self
              (.ols nd' upd_same ((rs'.wr (lst_nt ea') nz (List.nodup_cons.mp nB').1).append (.one (r1.wr (lst_nt ea') nz naF))))
              (List.nodup_cons.mpr ⟨fun m => (List.mem_append.mp m).elim (List.nodup_cons.mp nB').1 naF, List.nodup_append.mpr ⟨(List.nodup_cons.mp nB').2, n1, fun x m y m' z => (ap y m').1 (z ▸ sub' x (List.mem_cons_of_mem _ m))⟩⟩)
              (fun x m => by
                rcases List.mem_cons.mp m with rfl | m
                · exact .inl List.mem_cons_self
                · exact (List.mem_append.mp m).imp (List.mem_cons_of_mem _) id) ap
            exact h σ _ Z1 A' ((g1.stepF (A := A) (δ := δ) k1 f1).trans st') s'
  · exact h.elim
theorem cs_extend (i : Nat) (h1 : CE X W dk ca e fe) (hN : X.N[i]? = some x := by rfl) (hv : Vis X.env.scope x := by first | exact Or.inl rfl | exact Or.inr (Or.inl rfl) | exact Or.inr (Or.inr rfl)) (hd : (x == ("__debug__" : Str)) = false := by decide)
    (hcd : (x == ("__classdict__" : Str)) = false := by decide) (hbase : attributeBase (.Name x p) "extend" X.env (eval (.Name x p) X.env) = eval (.Name x p) X.env := by rfl)
    (hfew : ((backTo cpos (starEach [e] X.env)).all (fun x => !x.1) && (backToKw cpos (keywordEach [] X.env)).all (fun x => x.1.isSome)
      && decide (([e] : List Expr).length + ([] : List Keyword).length + (if ([] : List Keyword).isEmpty then 0 else 1) < 30)) = true := by rfl)
    (hline : (apos.endLine == cpos.line) = true := by rfl) (hs : starEach [e] X.env = (false, eval e X.env) :: starEach [] X.env := by rfl) (hsw : swapsWith (.Call (.Attribute (.Name x p) "extend" apos) [e] [] cpos) none pos.line X.env = pure false := by rfl) :
    CS X W dk ca (.Expr (.Call (.Attribute (.Name x p) "extend" apos) [e] [] cpos) pos) (sExt i fe) := by
  obtain ⟨t, pt, q⟩ := h1
  have pm := pe_bm (r := rExtend) (apos := apos) (cpos := cpos) F.plainAttrs_list F.slot_list_extend F.type_list_extend mt_extend (pe_var (pos := p) hN hv hd hcd) (pa_cons pt pa_nil (hs.trans rfl)) hbase hfew hline hs
  refine ⟨_, ps_expr pm hsw, fun Z ρ δ σ H A Dn s h => ?_⟩
  unfold sExt at h
  generalize hgt : gt ρ i = d0 at h
  split at h
  · rename_i xs0
    obtain ⟨v, B, h1, r, sub, nB, wr⟩ := s.write hgt (fun z => by cases z)
    cases r with
    | ols nd ea rs =>
      rename_i a vs A0
      refine ⟨.ref a, h1, .inl ⟨rfl, vs, .inl (.inl ea)⟩, q Z ρ δ σ H _ s.sx ?_⟩
      unfold andThen at h
      cases e1 : fe ρ δ with
      | err => rw [e1] at h; exact h
      | exc c d δ' => rw [e1] at h; exact RS.exc h s
      | ok d δ1 =>
        rw [e1] at h
        simp only at h
        intro u H1 Z1 F g1 k1 r1 n1 f1
        have s1 := s.grow g1 k1
        obtain ⟨v', B', h1', r', sub', nB', wr'⟩ := s1.write hgt (fun z => by cases z)
        rw [h1] at h1'
        cases h1'
        have ap := s.apart f1
        cases r' with
        | ols nd' ea' rs' =>
          rename_i vs' A0'
          have aA := sub' a List.mem_cons_self
          have nz := s1.nz a aA
          -- the list that is laid behind
          have go : ∀ (b : Addr) (us : List V) (ys : List D) (Fy : List Addr), u = .ref b → H1 b = some (.lst us) → Reps X.K dk H1 Z1 ys us Fy → Fy.Nodup → (∀ x ∈ Fy, x ∈ F) → szOk (xs0.length + ys.length) = true → RS X.K dk ca W H Z A (.nx (stD ρ i (.seq .ols (xs0 ++ ys))) δ1) Dn →
              rExtend (.ref a) [u] H1 (fun _ H1 => Dn.nx σ H1) := fun b us ys Fy eu eb rys nF sF hz h => by
            subst eu
            refine ⟨a, b, vs', us, rfl, rfl, ea', eb, by rw [← rs'.len, ← rys.len]; exact szOk_le hz, ?_⟩
            have naF : a ∉ Fy := fun m => (ap a (sF a m)).1 aA
            obtain ⟨A', st', s'⟩ := wr' a (.lst (vs' ++ us)) (.seq .ols (xs0 ++ ys)) (a :: (A0' ++ Fy)) F rfl List.mem_cons_self
              (.ols nd' upd_same ((rs'.wr (lst_nt ea') nz (List.nodup_cons.mp nB').1).append (rys.wr (lst_nt ea') nz naF)))
              (List.nodup_cons.mpr ⟨fun m => (List.mem_append.mp m).elim (List.nodup_cons.mp nB').1 naF, List.nodup_append.mpr ⟨(List.nodup_cons.mp nB').2, nF, fun x m y m' z => (ap y (sF y m')).1 (z ▸ sub' x (List.mem_cons_of_mem _ m))⟩⟩)
              (fun x m => by
                rcases List.mem_cons.mp m with rfl | m
                · exact .inl List.mem_cons_self
                · exact (List.mem_append.mp m).imp (List.mem_cons_of_mem _) (sF x)) ap
            exact h σ _ Z1 A' ((g1.stepF (A := A) (δ := δ) k1 f1).trans st') s'
          split at h
          · rename_i xs ys heq
            cases heq
            cases c : szOk (xs0.length + ys.length) with
            | false => simp only [c] at h; exact h.elim
            | true =>
              simp only [c] at h
              cases r1 with
              | ols n2 eb rys =>
                rename_i b us Fy
                exact go b us ys Fy rfl eb rys (List.nodup_cons.mp n1).2 (fun x m => List.mem_cons_of_mem _ m) c h
          · rename_i xs ys heq
            cases heq
            cases c : szOk (xs0.length + ys.length) with
            | false => simp only [c] at h; exact h.elim
            | true =>
              simp only [c] at h
              cases r1 with
              | lst z2 n2 eb rys =>
                rename_i b us
                exact go b us ys [] rfl eb rys .nil (fun x m => nomatch m) c h
          · exact h.elim
  · exact h.elim
end

/-! ## x[k] = e for an own dict, an own list -/
def hasI (j : Int) : List D → Bool
  | [] => false
  | .seq .tup [.int i, _] :: es => (match decide (i = j) with
    | true => true
    | false => hasI j es)
  | _ :: es => hasI j es
def repI (j : Int) (d : D) : List D → List D
  | [] => []
  | .seq .tup [.int i, x] :: es => (match decide (i = j) with
    | true => .tup [.int i, d] :: repI j d es
    | false => .tup [.int i, x] :: repI j d es)
  | e :: es => e :: repI j d es
def hasT (q : List D) : List D → Bool
  | [] => false
  | .seq .tup [.seq .tup k, _] :: es => (match keq k q with
    | true => true
    | false => hasT q es)
  | _ :: es => hasT q es
def repT (q : List D) (d : D) : List D → List D
  | [] => []
  | .seq .tup [.seq .tup k, x] :: es => (match keq k q with
    | true => .tup [.tup k, d] :: repT q d es
    | false => .tup [.tup k, x] :: repT q d es)
  | e :: es => e :: repT q d es
/-- an own dict with d at the key k -/
def dputD : SK → List D → D → D → Option D
  | .odc, es, .int j, d => match Nat.blt es.length 16777216 with
    | true => (match hasI j es with
      | true => some (.seq .odc (repI j (fz d) es))
      | false => some (.seq .odc (snoc es (.tup [.int j, fz d]))))
    | false => none
  | .odt, es, .seq .tup q, d => match Nat.blt es.length 16777216 && isKeys q with
    | true => (match hasT q es with
      | true => some (.seq .odt (repT q (fz d) es))
      | false => some (.seq .odt (snoc es (.tup [.tup q, fz d]))))
    | false => none
  | _, _, _, _ => none
section
variable {K : PySem.W.Frag} {dk : Addr} {H : Hp} {Z : Addr → Prop}
theorem EntK.has {i : Int} : ∀ {es : List D} {kvs : List (Key × V)} {A : List Addr}, EntK K dk H Z es kvs A → hasI i es = kvs.any fun kv => decide (kv.1 = .inl i)
  | _, _, _, .nil => rfl
  | _, _, _, .cons (k := k) (q := q) e a r => by
    cases k with
    | int j =>
      cases e
      rw [List.any_cons]
      by_cases h : j = i
      · subst h
        simp [hasI]
      · have h2 : ¬ ((.inl j : Key) = .inl i) := fun z => h (by cases z; rfl)
        simp only [hasI, decide_eq_false h, decide_eq_false h2, Bool.false_or]
        exact r.has
    | atm a => cases e
    | seq s xs => cases e
theorem EntK.rep {i : Int} {d : D} {v : V} (rd : Rep K dk H Z d v []) : ∀ {es : List D} {kvs : List (Key × V)} {A : List Addr}, EntK K dk H Z es kvs A → ∃ A', EntK K dk H Z (repI i d es) (kvs.map fun kv => if kv.1 = .inl i then (kv.1, v) else kv) A' ∧ A'.Sublist A
  | _, _, _, .nil => ⟨[], .nil, .refl _⟩
  | _, _, _, .cons (k := k) (q := q) (A := A) (B := B) e a r => by
    obtain ⟨A', r', s'⟩ := r.rep (i := i) rd
    cases k with
    | int j =>
      cases e
      rw [List.map_cons]
      by_cases h : j = i
      · subst h
        simp only [repI, decide_true, if_true]
        exact ⟨A', .cons (A := []) rfl rd r', s'.trans (List.sublist_append_right _ _)⟩
      · have h2 : ¬ ((.inl j : Key) = .inl i) := fun z => h (by cases z; rfl)
        simp only [repI, decide_eq_false h, if_neg h2]
        exact ⟨A ++ A', .cons rfl a r', List.Sublist.append (.refl _) s'⟩
    | atm a => cases e
    | seq s xs => cases e
theorem EntK.snoc {i : Int} {d : D} {v : V} (rd : Rep K dk H Z d v []) : ∀ {es : List D} {kvs : List (Key × V)} {A : List Addr}, EntK K dk H Z es kvs A → EntK K dk H Z (Zv.snoc es (.tup [.int i, d])) (kvs ++ [(.inl i, v)]) A
  | _, _, _, .nil => .cons (A := []) (B := []) rfl rd .nil
  | _, _, _, .cons e a r => .cons e a (r.snoc rd)
theorem EntT.has {q : List D} {ks : List Key} (hq : atKeys q = some ks) : ∀ {es : List D} {kvs : List (List Key × V)} {A : List Addr}, EntT K dk H Z es kvs A → hasT q es = kvs.any fun kv => decide (kv.1 = ks)
  | _, _, _, .nil => rfl
  | _, _, _, .cons (k := k) (q := p) e a r => by
    have hk := (atKeys_int e).2 hq
    rw [List.any_cons]
    by_cases h : p = ks
    · rw [decide_eq_true h] at hk
      simp only [hasT, hk, decide_eq_true h, Bool.true_or]
    · rw [decide_eq_false h] at hk
      simp only [hasT, hk, decide_eq_false h, Bool.false_or]
      exact r.has hq
theorem EntT.rep {q : List D} {ks : List Key} (hq : atKeys q = some ks) {d : D} {v : V} (rd : Rep K dk H Z d v []) : ∀ {es : List D} {kvs : List (List Key × V)} {A : List Addr}, EntT K dk H Z es kvs A → ∃ A', EntT K dk H Z (repT q d es) (kvs.map fun kv => if kv.1 = ks then (kv.1, v) else kv) A' ∧ A'.Sublist A
  | _, _, _, .nil => ⟨[], .nil, .refl _⟩
  | _, _, _, .cons (k := k) (q := p) (A := A) (B := B) e a r => by
    obtain ⟨A', r', s'⟩ := r.rep hq rd
    have hk := (atKeys_int e).2 hq
    rw [List.map_cons]
    by_cases h : p = ks
    · rw [decide_eq_true h] at hk
      simp only [repT, hk, if_pos h]
      exact ⟨A', .cons (A := []) e rd r', s'.trans (List.sublist_append_right _ _)⟩
    · rw [decide_eq_false h] at hk
      simp only [repT, hk, if_neg h]
      exact ⟨A ++ A', .cons e a r', List.Sublist.append (.refl _) s'⟩
theorem EntT.snoc {q : List D} {ks : List Key} (hq : atKeys q = some ks) {d : D} {v : V} (rd : Rep K dk H Z d v []) : ∀ {es : List D} {kvs : List (List Key × V)} {A : List Addr}, EntT K dk H Z es kvs A → EntT K dk H Z (Zv.snoc es (.tup [.tup q, d])) (kvs ++ [(ks, v)]) A
  | _, _, _, .nil => .cons (A := []) (B := []) hq rd .nil
  | _, _, _, .cons e a r => .cons e a (r.snoc hq rd)
theorem blt_size {n : Nat} (h : Nat.blt n 16777216 = true) : n < sizeLine := by
  have z := Nat.le_of_ble_eq_true h
  have : sizeLine = 16777216 := by decide
  omega
/-- d[k] = v, the heap behind it -/
theorem Rep.dput {s : SK} {es : List D} {k d z : D} {x y v : V} {A B : List Addr} (rx : Rep K dk H Z (.seq s es) x A) (nA : A.Nodup) (nz : ∀ a ∈ A, ¬ Z a) (rk : Rep K dk H Z k y B) (rd : Rep K dk H Z (Zv.fz d) v []) (e : dputD s es k d = some z) :
    ∃ a o, x = .ref a ∧ a ∈ A ∧ DPut H a y v (upd H a o) ∧ ∃ A', Rep K dk (upd H a o) Z z x A' ∧ A'.Nodup ∧ ∀ x ∈ A', x ∈ A := by
  unfold dputD at e
  split at e
  · rename_i j
    cases rk
    cases c : Nat.blt es.length 16777216 with
    | false => rw [c] at e; cases e
    | true =>
      rw [c] at e
      simp only at e
      cases rx with
      | odcK n ea ents =>
        rename_i a kvs A0
        have hl : kvs.length < sizeLine := by rw [← ents.len]; exact blt_size c
        have nza := nz a List.mem_cons_self
        have nt : ∀ us, H a ≠ some (.tup us) := fun us z => by rw [ea] at z; cases z
        have na := (List.nodup_cons.mp nA).1
        refine ⟨a, _, rfl, List.mem_cons_self, .inl ⟨kvs, .inl j, ea, rfl, hl, rfl⟩, ?_⟩
        have rd' := rd.wr (o := .dK (putK kvs (.inl j) v)) nt nza (fun m => nomatch m)
        have ents' := ents.wr (o := .dK (putK kvs (.inl j) v)) nt nza na
        cases c2 : hasI j es with
        | true =>
          simp only [c2] at e
          cases e
          obtain ⟨A', r', s'⟩ := ents'.rep (i := j) rd'
          have ep : putK kvs (.inl j) v = kvs.map fun kv => if kv.1 = .inl j then (kv.1, v) else kv := by
            unfold putK
            rw [← ents.has (i := j), c2, if_pos rfl]
          rw [← ep] at r'
          exact ⟨a :: A', .odcK n upd_same r', List.nodup_cons.mpr ⟨fun m => na (s'.subset m), s'.nodup (List.nodup_cons.mp nA).2⟩, fun x m => by
            rcases List.mem_cons.mp m with rfl | m
            · exact List.mem_cons_self
            · exact List.mem_cons_of_mem _ (s'.subset m)⟩
        | false =>
          simp only [c2] at e
          cases e
          have r' := ents'.snoc (i := j) rd'
          have ep : putK kvs (.inl j) v = kvs ++ [(.inl j, v)] := by
            unfold putK
            rw [← ents.has (i := j), c2, if_neg (by decide)]
          have r'' : EntK K dk (upd H a (.dK (putK kvs (.inl j) v))) Z (Zv.snoc es (.tup [.int j, Zv.fz d])) (putK kvs (.inl j) v) A0 := by
            rw [ep] at r' ⊢
            exact r'
          exact ⟨a :: A0, .odcK n upd_same r'', nA, fun x m => m⟩
  · rename_i q
    cases c : Nat.blt es.length 16777216 && isKeys q with
    | false => rw [c] at e; cases e
    | true =>
      rw [c] at e
      simp only at e
      simp only [Bool.and_eq_true] at c
      obtain ⟨ks, hq⟩ := isKeys_at c.2
      obtain ⟨b, us, rfl, nb, eb, rs⟩ := rk.tupAt
      have ek := rs.keys hq
      subst ek
      cases rx with
      | odcT n ea ents =>
        rename_i a kvs A0
        have hl : kvs.length < sizeLine := by rw [← ents.len]; exact blt_size c.1
        have nza := nz a List.mem_cons_self
        have nt : ∀ us, H a ≠ some (.tup us) := fun us z => by rw [ea] at z; cases z
        have na := (List.nodup_cons.mp nA).1
        refine ⟨a, _, rfl, List.mem_cons_self, .inr ⟨kvs, ks, b, ea, rfl, eb, hl, rfl⟩, ?_⟩
        have rd' := rd.wr (o := .dT (putK kvs ks v)) nt nza (fun m => nomatch m)
        have ents' := ents.wr (o := .dT (putK kvs ks v)) nt nza na
        cases c2 : hasT q es with
        | true =>
          simp only [c2] at e
          cases e
          obtain ⟨A', r', s'⟩ := ents'.rep hq rd'
          have ep : putK kvs ks v = kvs.map fun kv => if kv.1 = ks then (kv.1, v) else kv := by
            unfold putK
            rw [← ents.has hq, c2, if_pos rfl]
          rw [← ep] at r'
          exact ⟨a :: A', .odcT n upd_same r', List.nodup_cons.mpr ⟨fun m => na (s'.subset m), s'.nodup (List.nodup_cons.mp nA).2⟩, fun x m => by
            rcases List.mem_cons.mp m with rfl | m
            · exact List.mem_cons_self
            · exact List.mem_cons_of_mem _ (s'.subset m)⟩
        | false =>
          simp only [c2] at e
          cases e
          have r' := ents'.snoc hq rd'
          have ep : putK kvs ks v = kvs ++ [(ks, v)] := by
            unfold putK
            rw [← ents.has hq, c2, if_neg (by decide)]
          have r'' : EntT K dk (upd H a (.dT (putK kvs ks v))) Z (Zv.snoc es (.tup [.tup q, Zv.fz d])) (putK kvs ks v) A0 := by
            rw [ep] at r' ⊢
            exact r'
          exact ⟨a :: A0, .odcT n upd_same r'', nA, fun x m => m⟩
  · cases e
end
/-- name[key] = value -/
def sDPutD (i : Nat) (fk fv : EF) : SF := fun ρ δ => andThen (fv ρ δ) ρ fun d δ1 => match gt ρ i with
  | .seq s es => andThen (fk ρ δ1) ρ fun k δ2 => (match dputD s es k d with
    | some z => .nx (stD ρ i z) δ2
    | none => .err)
  | _ => .err
section
variable {X : Cx} {W : WX} {dk : Addr} {ca : Nat → Addr} {pos pos' p : Pos} {ek ev : Expr} {fk fv : EF} {x : Str}
theorem cs_dput (i : Nat) (hu : X.A.units + 1 < cLine) (hk : CB X W dk ca ek fk) (hv1 : CE X W dk ca ev fv) (hN : X.N[i]? = some x := by rfl) (hv : Vis X.env.scope x := by first | exact Or.inl rfl | exact Or.inr (Or.inl rfl) | exact Or.inr (Or.inr rfl)) (hd : (x == ("__debug__" : Str)) = false := by decide)
    (hcd : (x == ("__classdict__" : Str)) = false := by decide) (hs : swapsWith ev (some (.Subscript (.Name x p) ek pos')) pos.line X.env = pure false := by rfl) : CS X W dk ca (.Assign [.Subscript (.Name x p) ek pos'] ev pos) (sDPutD i fk fv) := by
  obtain ⟨t, pt, q⟩ := hv1
  obtain ⟨t2, pt2, q2⟩ := hk
  refine ⟨_, ps_dput hu (pe_var (pos := p) hN hv hd hcd) pt2 pt hs, fun Z ρ δ σ H A Dn s h => q Z ρ δ σ H _ s.sx ?_⟩
  unfold sDPutD andThen at h
  cases e1 : fv ρ δ with
  | err => rw [e1] at h; exact h
  | exc c d δ' => rw [e1] at h; exact RS.exc h s
  | ok d δ1 =>
    rw [e1] at h
    simp only at h
    intro v H1 Z1 F g1 k1 r1 n1 f1
    have g1' := g1.freeze r1.own fun a m => (f1 a m).1
    have r1' := r1.fz (Z' := fun a => Z1 a ∨ a ∈ F) (fun a z => .inl z) fun a m => .inr m
    have s1 := s.grow g1' k1
    generalize (fun a => Z1 a ∨ a ∈ F) = Z1' at g1' r1' s1
    generalize hgt : gt ρ i = d0 at h
    have st1 : Step dk H Z A H1 Z1' A := g1'.step (δ := δ) k1 fun a m => .inl m
    split at h
    · rename_i sk es
      obtain ⟨v0, B0, h0, _, _⟩ := s1.sl.get hgt (fun z => by cases z)
      refine ⟨v0, h0, q2 Z1' ρ δ1 σ H1 _ s1.sx ?_⟩
      cases e2 : fk ρ δ1 with
      | err => rw [e2] at h; exact h
      | exc c d δ' => rw [e2] at h; exact RS.exc (RS.step h st1) s1
      | ok k δ2 =>
        rw [e2] at h
        simp only at h
        intro y H2 Z2 B2 g2 k2 r2
        have s2 := s1.grow g2 k2
        have st2 : Step dk H1 Z1' A H2 Z2 A := g2.step (δ := δ1) k2 fun a m => .inl m
        obtain ⟨v', B', h1', r', sub', nB', wr'⟩ := s2.write hgt (fun z => by cases z)
        rw [h0] at h1'
        cases h1'
        cases e3 : dputD sk es k d with
        | none => rw [e3] at h; exact h.elim
        | some z =>
          rw [e3] at h
          simp only at h
          obtain ⟨a, o, ev, ma, dp, A2, r3, n3, m3⟩ := r'.dput nB' (fun a m => s2.nz a (sub' a m)) r2 (r1'.mono g2.same g2.z) e3
          obtain ⟨A', st', s'⟩ := wr' a o z A2 [] ev ma r3 n3 (fun x m => .inl (m3 x m)) fun x m => nomatch m
          rw [List.append_nil] at st'
          exact ⟨a, _, ev, dp, h σ _ Z2 A' ((st1.trans st2).trans st') s'⟩
    · exact h.elim
end
end Zv
namespace Zv
open PySem PySem.Spec PyProof.Rows L2 RZ

/-! ## defs -/
def uns : Nat → List D
  | 0 => []
  | n + 1 => .un :: uns n
/-- what a def answers: m names behind its parameters -/
def fnR (m : Nat) (f : SF) : FF := fun ds δ => match f (ds ++ uns m) δ with
  | .nx _ δ' => .ok .non δ'
  | .rt d δ' => .ok d δ'
  | .exc c d _ δ' => .exc c d δ'
  | _ => .err
section
variable {P : Program} {w : World} {K : PySem.W.Frag} {mg : Str → Option Value} {base : Heap} {dk : Addr} {ca : Nat → Addr} {H : Hp} {Z : Addr → Prop}
theorem slots_uns : ∀ m, Slots K dk H Z (uns m) (List.replicate m none) []
  | 0 => .nil
  | m + 1 => by
    rw [List.replicate_succ]
    exact .un (slots_uns m)
theorem slots_args : ∀ {ds : List D} {vs : List V} {m : Nat} {A : List Addr}, Reps K dk H Z ds vs A → Slots K dk H Z (ds ++ uns m) (vs.map some ++ List.replicate m none) A
  | _, _, m, _, .nil => slots_uns m
  | _, _, m, _, .cons a r => .cons a (slots_args r)
theorem Step.grow {H' : Hp} {Z' : Addr → Prop} {A' : List Addr} (g : Step dk H Z [] H' Z' A') (on : ZOn dk H' Z') : Grow dk H Z H' Z' :=
  ⟨g.z, fun a z => (g.new a z).imp id fun h => h.elim (fun m => nomatch m) id, on, fun b o n e => g.same b o n (fun m => nomatch m) e⟩
theorem fn_val {x qual : Str} {st : Stmt} {f : Addr} {fd : FuncData} {N ps : List Str} {k n m : Nat} {fb : SF} (F : Fun K x qual st f fd) (S : FnScope N ps (defScope st)) (hn : ps.length = n) (hm : N.length = n + m)
    (hb : ∀ (dk : Addr) (cdv : Value) (A : Around) (outer : List Env) (s : Shared) (H : Hp) (E : XK), Room k (A.deeper (envOfC qual (defScope st) s.heap.objs.size f cdv)) →
      CSs (cxOf (L2.CX P w) P w K mg base N qual (defScope st) f cdv A outer s H E) (fun cls d _ H => E cls d H) dk ca (defBody st) fb) :
    FnOk P w K mg base (L2.CX P w) (k + 1) f fd ps (Prom K ca n (fnR m fb)) := by
  refine F.okX S (fun vs H Q E h => h.1.trans hn.symm) fun cdv A outer s H vs Q E hr h => ?_
  obtain ⟨hl, dk, Z, ds, δ, on, hd, rs, h⟩ := h
  obtain ⟨t, p, q⟩ := hb dk cdv A outer s H E hr
  refine ⟨t, p, ?_⟩
  have e0 : L2.start N vs = vs.map some ++ List.replicate m none := by
    unfold L2.start
    rw [hl, hm, Nat.add_sub_cancel_left]
  rw [e0]
  refine q Z _ δ _ H [] _ ⟨slots_args rs, .nil, (fun a m => nomatch m), on, hd⟩ ?_
  unfold fnR at h
  cases e : fb (ds ++ uns m) δ with
  | nx ρ δ' =>
    rw [e] at h
    exact fun σ' H' Z' A' g s' => h .non H' Z' [] (g.grow s'.on) s'.deck .non .nil fun a m => nomatch m
  | rt d δ' =>
    rw [e] at h
    exact fun v H' Z' A' g on' k' r n fr => h v H' Z' A' (g.grow on') k' r n fun a m => ⟨(g.own a m).elim (fun z => nomatch z) id, fr a m⟩
  | exc c d ρ δ' =>
    rw [e] at h
    exact fun dd v σ' H' Z' A' g s' ex r => h dd v H' Z' (g.grow s'.on) s'.deck ex r
  | bk ρ δ' => rw [e] at h; exact h.elim
  | ct ρ δ' => rw [e] at h; exact h.elim
  | err => rw [e] at h; exact h.elim
end
end Zv
namespace Zv
open PySem PySem.Spec PyProof.Rows L2 RZ

/-! ## sorted -/
/-- a stable sort by insertion -/
def insS {α : Type} (le : α → α → Bool) (x : α) : List α → List α
  | [] => [x]
  | y :: ys => match le x y with
    | true => x :: y :: ys
    | false => y :: insS le x ys
def isort {α : Type} (le : α → α → Bool) : List α → List α
  | [] => []
  | x :: xs => insS le x (isort le xs)
section
variable {α β : Type} {le : α → α → Bool}
theorem insS_mem {x z : α} : ∀ {ys : List α}, z ∈ insS le x ys → z = x ∨ z ∈ ys
  | [], h => .inl (by simpa [insS] using h)
  | y :: ys, h => by
    unfold insS at h
    cases c : le x y with
    | true => rw [c] at h; exact List.mem_cons.mp h
    | false =>
      rw [c] at h
      rcases List.mem_cons.mp h with e | e
      · exact .inr (e ▸ List.mem_cons_self)
      · exact (insS_mem e).imp id (List.mem_cons_of_mem _)
theorem isort_mem {z : α} : ∀ {xs : List α}, z ∈ isort le xs → z ∈ xs
  | x :: xs, h => by
    rcases insS_mem h with e | e
    · exact e ▸ List.mem_cons_self
    · exact List.mem_cons_of_mem _ (isort_mem e)
theorem insS_sorted (tr : ∀ a b c, le a b = true → le b c = true → le a c = true) (to : ∀ a b, le a b = true ∨ le b a = true) {x : α} : ∀ {ys : List α}, ys.Pairwise (fun a b => le a b = true) → (insS le x ys).Pairwise fun a b => le a b = true
  | [], _ => by simp [insS]
  | y :: ys, h => by
    unfold insS
    cases c : le x y with
    | true =>
      refine List.pairwise_cons.mpr ⟨fun z m => ?_, h⟩
      rcases List.mem_cons.mp m with e | e
      · exact e ▸ c
      · exact tr _ _ _ c ((List.pairwise_cons.mp h).1 z e)
    | false =>
      refine List.pairwise_cons.mpr ⟨fun z m => ?_, insS_sorted tr to (List.pairwise_cons.mp h).2⟩
      rcases insS_mem m with e | e
      · subst e
        exact (to z y).resolve_left (by rw [c]; exact Bool.false_ne_true)
      · exact (List.pairwise_cons.mp h).1 z e
theorem insS_filter (tr : ∀ a b c, le a b = true → le b c = true → le a c = true) {x z : α} : ∀ {ys : List α}, (insS le x ys).filter (PySem.W.Srt.alike le z) = (x :: ys).filter (PySem.W.Srt.alike le z)
  | [] => rfl
  | y :: ys => by
    unfold insS
    cases c : le x y with
    | true => rfl
    | false =>
      show (y :: insS le x ys).filter (PySem.W.Srt.alike le z) = _
      have ih := insS_filter tr (x := x) (z := z) (ys := ys)
      cases hy : PySem.W.Srt.alike le z y with
      | false =>
        rw [List.filter_cons_of_neg (by rw [hy]; exact Bool.false_ne_true), ih]
        cases hx : PySem.W.Srt.alike le z x with
        | true => rw [List.filter_cons_of_pos hx, List.filter_cons_of_pos hx, List.filter_cons_of_neg (by rw [hy]; exact Bool.false_ne_true)]
        | false => rw [List.filter_cons_of_neg (by rw [hx]; exact Bool.false_ne_true), List.filter_cons_of_neg (by rw [hx]; exact Bool.false_ne_true), List.filter_cons_of_neg (by rw [hy]; exact Bool.false_ne_true)]
      | true =>
        have hx : PySem.W.Srt.alike le z x = false := by
          cases hx : PySem.W.Srt.alike le z x with
          | false => rfl
          | true =>
            unfold PySem.W.Srt.alike at hx hy
            rw [Bool.and_eq_true] at hx hy
            rw [tr _ _ _ hx.2 hy.1] at c
            cases c
        rw [List.filter_cons_of_pos hy, ih, List.filter_cons_of_neg (by rw [hx]; exact Bool.false_ne_true), List.filter_cons_of_neg (by rw [hx]; exact Bool.false_ne_true), List.filter_cons_of_pos hy]
theorem isort_eq (tr : ∀ a b c, le a b = true → le b c = true → le a c = true) (to : ∀ a b, le a b = true ∨ le b a = true) (xs : List α) : isort le xs = xs.mergeSort le := by
  have to' : ∀ x y, (le x y || le y x) = true := fun x y => by
    rw [Bool.or_eq_true]
    exact to x y
  refine PySem.W.Srt.the le tr to' ?_ fun z => ?_
  · induction xs with
    | nil => exact .nil
    | cons x xs ih => exact insS_sorted tr to ih
  · induction xs with
    | nil => rfl
    | cons x xs ih =>
      show (insS le x (isort le xs)).filter _ = _
      rw [insS_filter tr]
      cases hx : PySem.W.Srt.alike le z x with
      | true => rw [List.filter_cons_of_pos hx, List.filter_cons_of_pos hx, ih]
      | false => rw [List.filter_cons_of_neg (by rw [hx]; exact Bool.false_ne_true), List.filter_cons_of_neg (by rw [hx]; exact Bool.false_ne_true), ih]
theorem insS_map {f : β → α} {x : β} : ∀ {ys : List β}, (insS (fun a b => le (f a) (f b)) x ys).map f = insS le (f x) (ys.map f)
  | [] => rfl
  | y :: ys => by
    unfold insS
    simp only [List.map_cons]
    cases le (f x) (f y) with
    | true => rfl
    | false => simp only [List.map_cons, insS_map]
theorem isort_map {f : β → α} : ∀ {ys : List β}, (isort (fun a b => le (f a) (f b)) ys).map f = isort le (ys.map f)
  | [] => rfl
  | y :: ys => by
    show (insS _ y (isort _ ys)).map f = insS le (f y) (isort le (ys.map f))
    rw [insS_map, isort_map]
theorem insS_congr {le' : α → α → Bool} {x : α} : ∀ {ys : List α}, (∀ y ∈ ys, le x y = le' x y) → insS le x ys = insS le' x ys
  | [], _ => rfl
  | y :: ys, h => by
    unfold insS
    rw [h y List.mem_cons_self, insS_congr fun z m => h z (List.mem_cons_of_mem _ m)]
theorem isort_congr {le' : α → α → Bool} : ∀ {ys : List α}, (∀ x ∈ ys, ∀ y ∈ ys, le x y = le' x y) → isort le ys = isort le' ys
  | [], _ => rfl
  | y :: ys, h => by
    show insS le y (isort le ys) = insS le' y (isort le' ys)
    rw [isort_congr (ys := ys) fun a m b n => h a (List.mem_cons_of_mem _ m) b (List.mem_cons_of_mem _ n)]
    exact insS_congr fun z m => h y List.mem_cons_self z (List.mem_cons_of_mem _ (isort_mem m))
end
/-- what is compared -/
inductive Ty where | i | l (t : Ty) | p (ts : List Ty)
mutual
def hasTy : D → Ty → Bool
  | .int _, .i => true
  | .seq .tup xs, .l t => allTy xs t
  | .seq .tup xs, .p ts => allTys xs ts
  | _, _ => false
def allTy : List D → Ty → Bool
  | [], _ => true
  | x :: xs, t => match hasTy x t with
    | true => allTy xs t
    | false => false
def allTys : List D → List Ty → Bool
  | [], [] => true
  | x :: xs, t :: ts => (match hasTy x t with
    | true => allTys xs ts
    | false => false)
  | _, _ => false
end
mutual
/-- 0 before, 1 the same, 2 behind -/
def cmpD : D → D → Nat
  | .int i, .int j => match decide (i < j) with
    | true => 0
    | false => (match decide (i = j) with
      | true => 1
      | false => 2)
  | .seq .tup xs, .seq .tup ys => cmpDs xs ys
  | _, _ => 1
def cmpDs : List D → List D → Nat
  | [], [] => 1
  | [], _ :: _ => 0
  | _ :: _, [] => 2
  | x :: xs, y :: ys => (match cmpD x y with
    | 1 => cmpDs xs ys
    | r => r)
end
open PySem.W in
mutual
theorem alike_ty : ∀ {x y : D} {t : Ty}, hasTy x t = true → hasTy y t = true → alike (toPy x) (toPy y) = true
  | .int i, y, .i, _, h2 => by
    cases y with
    | int j => unfold toPy; rfl
    | atm a => unfold hasTy at h2; cases h2
    | seq k ys => cases k <;> (unfold hasTy at h2; cases h2)
  | .seq .tup xs, y, .l t, h1, h2 => by
    cases y with
    | int j => unfold hasTy at h2; cases h2
    | atm a => unfold hasTy at h2; cases h2
    | seq k ys =>
      cases k <;> first
        | (unfold hasTy at h1 h2; unfold toPy; unfold alike; exact alike_all h1 h2)
        | (unfold hasTy at h2; cases h2)
  | .seq .tup xs, y, .p ts, h1, h2 => by
    cases y with
    | int j => unfold hasTy at h2; cases h2
    | atm a => unfold hasTy at h2; cases h2
    | seq k ys =>
      cases k <;> first
        | (unfold hasTy at h1 h2; unfold toPy; unfold alike; exact alike_alls h1 h2)
        | (unfold hasTy at h2; cases h2)
  | .int i, y, .l t, h1, _ => by unfold hasTy at h1; cases h1
  | .int i, y, .p t, h1, _ => by unfold hasTy at h1; cases h1
  | .atm a, y, t, h1, _ => by unfold hasTy at h1; cases h1
  | .seq k xs, y, .i, h1, _ => by cases k <;> (unfold hasTy at h1; cases h1)
  | .seq .lst xs, y, .l t, h1, _ => by unfold hasTy at h1; cases h1
  | .seq .ols xs, y, .l t, h1, _ => by unfold hasTy at h1; cases h1
  | .seq .dic xs, y, .l t, h1, _ => by unfold hasTy at h1; cases h1
  | .seq .odc xs, y, .l t, h1, _ => by unfold hasTy at h1; cases h1
  | .seq .dit xs, y, .l t, h1, _ => by unfold hasTy at h1; cases h1
  | .seq .odt xs, y, .l t, h1, _ => by unfold hasTy at h1; cases h1
  | .seq .ldc xs, y, .l t, h1, _ => by unfold hasTy at h1; cases h1
  | .seq .ldt xs, y, .l t, h1, _ => by unfold hasTy at h1; cases h1
  | .seq .lst xs, y, .p t, h1, _ => by unfold hasTy at h1; cases h1
  | .seq .ols xs, y, .p t, h1, _ => by unfold hasTy at h1; cases h1
  | .seq .dic xs, y, .p t, h1, _ => by unfold hasTy at h1; cases h1
  | .seq .odc xs, y, .p t, h1, _ => by unfold hasTy at h1; cases h1
  | .seq .dit xs, y, .p t, h1, _ => by unfold hasTy at h1; cases h1
  | .seq .odt xs, y, .p t, h1, _ => by unfold hasTy at h1; cases h1
  | .seq .ldc xs, y, .p t, h1, _ => by unfold hasTy at h1; cases h1
  | .seq .ldt xs, y, .p t, h1, _ => by unfold hasTy at h1; cases h1
theorem alike_all : ∀ {xs ys : List D} {t : Ty}, allTy xs t = true → allTy ys t = true → alikeAll (toPys xs) (toPys ys) = true
  | [], ys, _, _, _ => by unfold toPys; unfold alikeAll; rfl
  | x :: xs, [], _, _, _ => by unfold toPys; unfold alikeAll; rfl
  | x :: xs, y :: ys, t, h1, h2 => by
    unfold allTy at h1 h2
    cases c1 : hasTy x t with
    | false => rw [c1] at h1; cases h1
    | true =>
      cases c2 : hasTy y t with
      | false => rw [c2] at h2; cases h2
      | true =>
        rw [c1] at h1
        rw [c2] at h2
        unfold toPys
        unfold alikeAll
        rw [alike_ty c1 c2, alike_all h1 h2]
        rfl
theorem alike_alls : ∀ {xs ys : List D} {ts : List Ty}, allTys xs ts = true → allTys ys ts = true → alikeAll (toPys xs) (toPys ys) = true
  | [], ys, _, _, _ => by unfold toPys; unfold alikeAll; rfl
  | x :: xs, [], _, _, _ => by unfold toPys; unfold alikeAll; rfl
  | x :: xs, y :: ys, [], h1, h2 => by unfold allTys at h1; cases h1
  | x :: xs, y :: ys, t :: ts, h1, h2 => by
    unfold allTys at h1 h2
    cases c1 : hasTy x t with
    | false => rw [c1] at h1; cases h1
    | true =>
      cases c2 : hasTy y t with
      | false => rw [c2] at h2; cases h2
      | true =>
        rw [c1] at h1
        rw [c2] at h2
        unfold toPys
        unfold alikeAll
        rw [alike_ty c1 c2, alike_alls h1 h2]
        rfl
end
end Zv
namespace Zv
open PySem PySem.Spec PyProof.Rows L2 RZ

open PySem.W in
mutual
theorem cmp_ty : ∀ {x y : D} {t : Ty}, hasTy x t = true → hasTy y t = true → PyData.eqv (toPy x) (toPy y) = Nat.beq (cmpD x y) 1 ∧ dataLt (toPy x) (toPy y) = Nat.beq (cmpD x y) 0
  | .int i, y, t, h1, h2 => by
    cases t with
    | i =>
      cases y with
      | int j =>
        unfold toPy cmpD
        refine ⟨?_, ?_⟩
        · have e : PyData.eqv (.int i) (.int j) = (i == j) := by simp [PyData.eqv]
          rw [e]
          by_cases h : i < j
          · rw [decide_eq_true h]
            have : ¬ i = j := by omega
            rw [beq_eq_false_iff_ne.mpr this]
            rfl
          · rw [decide_eq_false h]
            by_cases h' : i = j
            · simp [h']
            · rw [decide_eq_false h', beq_eq_false_iff_ne.mpr h']
              rfl
        · rw [dataLt_int]
          by_cases h : i < j
          · rw [decide_eq_true h]; rfl
          · rw [decide_eq_false h]
            by_cases h' : i = j
            · rw [decide_eq_true h']; rfl
            · rw [decide_eq_false h']; rfl
      | atm a => unfold hasTy at h2; cases h2
      | seq k ys => cases k <;> (unfold hasTy at h2; cases h2)
    | l t => unfold hasTy at h1; cases h1
    | p t => unfold hasTy at h1; cases h1
  | .atm a, y, t, h1, _ => by unfold hasTy at h1; cases h1
  | .seq k xs, y, t, h1, h2 => by
    cases y with
    | int j => cases t <;> cases k <;> first | (unfold hasTy at h1; cases h1) | (unfold hasTy at h2; cases h2)
    | atm a => cases t <;> cases k <;> first | (unfold hasTy at h1; cases h1) | (unfold hasTy at h2; cases h2)
    | seq k2 ys =>
      cases t with
      | i => cases k <;> (unfold hasTy at h1; cases h1)
      | l t =>
        cases k <;> first
          | (unfold hasTy at h1; cases h1; done)
          | (cases k2 <;> first
              | (unfold hasTy at h2; cases h2; done)
              | (unfold hasTy at h1 h2
                 have q := cmp_all h1 h2
                 unfold toPy cmpD
                 rw [dataLt_tuple]
                 refine ⟨?_, q.2⟩
                 rw [← q.1]
                 simp only [PyData.eqv]))
      | p ts =>
        cases k <;> first
          | (unfold hasTy at h1; cases h1; done)
          | (cases k2 <;> first
              | (unfold hasTy at h2; cases h2; done)
              | (unfold hasTy at h1 h2
                 have q := cmp_alls h1 h2
                 unfold toPy cmpD
                 rw [dataLt_tuple]
                 refine ⟨?_, q.2⟩
                 rw [← q.1]
                 simp only [PyData.eqv]))
theorem cmp_all : ∀ {xs ys : List D} {t : Ty}, allTy xs t = true → allTy ys t = true → PyData.eqvAll (toPys xs) (toPys ys) = Nat.beq (cmpDs xs ys) 1 ∧ PyProof.Rows.lexLt itemOrd (keyToksAll (toPys xs)) (keyToksAll (toPys ys)) = Nat.beq (cmpDs xs ys) 0
  | [], [], _, _, _ => by
    unfold toPys cmpDs
    refine ⟨by simp [PyData.eqvAll], ?_⟩
    rw [lex_irrefl]
    rfl
  | [], y :: ys, _, _, _ => by
    unfold toPys cmpDs
    refine ⟨by rw [PyData.eqvAll] <;> first | rfl | simp, ?_⟩
    rw [toks_all_cons]
    simp only [keyToksAll]
    rw [lex_diff (O := itemOrd) (by simp)]
    simp [itemLt] <;> rfl
  | x :: xs, [], _, _, _ => by
    unfold toPys cmpDs
    refine ⟨by rw [PyData.eqvAll] <;> first | rfl | simp, ?_⟩
    rw [toks_all_cons]
    simp only [keyToksAll]
    rw [lex_diff (O := itemOrd) (by simp)]
    simp [itemLt] <;> rfl
  | x :: xs, y :: ys, t, h1, h2 => by
    unfold allTy at h1 h2
    cases c1 : hasTy x t with
    | false => rw [c1] at h1; cases h1
    | true =>
      cases c2 : hasTy y t with
      | false => rw [c2] at h2; cases h2
      | true =>
        rw [c1] at h1
        rw [c2] at h2
        have q1 := cmp_ty c1 c2
        have q2 := cmp_all h1 h2
        have al := alike_ty c1 c2
        unfold toPys
        rw [eqv_all_cons, q1.1]
        unfold cmpDs
        cases hc : Nat.beq (cmpD x y) 1 with
        | true =>
          have e : cmpD x y = 1 := Nat.eq_of_beq_eq_true hc
          rw [dataLt_all_yes al (by rw [q1.1, hc]), e]
          exact ⟨by rw [Bool.true_and]; exact q2.1, q2.2⟩
        | false =>
          rw [dataLt_all_no al (by rw [q1.1, hc]), q1.2]
          have ne : cmpD x y ≠ 1 := fun e => by rw [e] at hc; cases hc
          split
          · rename_i e
            exact absurd e ne
          · exact ⟨by rw [hc]; rfl, rfl⟩
theorem cmp_alls : ∀ {xs ys : List D} {t : List Ty}, allTys xs t = true → allTys ys t = true → PyData.eqvAll (toPys xs) (toPys ys) = Nat.beq (cmpDs xs ys) 1 ∧ PyProof.Rows.lexLt itemOrd (keyToksAll (toPys xs)) (keyToksAll (toPys ys)) = Nat.beq (cmpDs xs ys) 0
  | [], [], _, _, _ => by
    unfold toPys cmpDs
    refine ⟨by simp [PyData.eqvAll], ?_⟩
    rw [lex_irrefl]
    rfl
  | [], y :: ys, ts, h1, h2 => by
    cases ts <;> first | (unfold allTys at h1; cases h1; done) | (unfold allTys at h2; cases h2; done)
  | x :: xs, [], ts, h1, h2 => by
    cases ts <;> first | (unfold allTys at h1; cases h1; done) | (unfold allTys at h2; cases h2; done)
  | x :: xs, y :: ys, [], h1, h2 => by unfold allTys at h1; cases h1
  | x :: xs, y :: ys, t :: ts, h1, h2 => by
    unfold allTys at h1 h2
    cases c1 : hasTy x t with
    | false => rw [c1] at h1; cases h1
    | true =>
      cases c2 : hasTy y t with
      | false => rw [c2] at h2; cases h2
      | true =>
        rw [c1] at h1
        rw [c2] at h2
        have q1 := cmp_ty c1 c2
        have q2 := cmp_alls h1 h2
        have al := alike_ty c1 c2
        unfold toPys
        rw [eqv_all_cons, q1.1]
        unfold cmpDs
        cases hc : Nat.beq (cmpD x y) 1 with
        | true =>
          have e : cmpD x y = 1 := Nat.eq_of_beq_eq_true hc
          rw [dataLt_all_yes al (by rw [q1.1, hc]), e]
          exact ⟨by rw [Bool.true_and]; exact q2.1, q2.2⟩
        | false =>
          rw [dataLt_all_no al (by rw [q1.1, hc]), q1.2]
          have ne : cmpD x y ≠ 1 := fun e => by rw [e] at hc; cases hc
          split
          · rename_i e
            exact absurd e ne
          · exact ⟨by rw [hc]; rfl, rfl⟩
end
/-- the order -/
def leD (x y : D) : Bool := match cmpD y x with
  | 0 => false
  | _ => true
open PySem.W in
theorem leD_eq {x y : D} {t : Ty} (h1 : hasTy x t = true) (h2 : hasTy y t = true) : dataLe false toPy x y = leD x y := by
  show (!dataLt (toPy y) (toPy x)) = leD x y
  rw [(cmp_ty h2 h1).2]
  unfold leD
  split
  · rename_i e
    rw [e]
    rfl
  · rename_i hne
    cases c : cmpD y x with
    | zero => exact absurd c (by simpa using hne)
    | succ n => rfl
/-- sorted: items of one type; none of them an empty tuple, but where there is one alone -/
def neD : D → Bool
  | .int _ => true
  | .seq .tup (_ :: _) => true
  | _ => false
def sortD (t : Ty) (xs : List D) : Option (List D) := match okDs 59 xs && allTy xs t with
  | true => (match Nat.ble xs.length 1 || xs.all neD with
    | true => some (isort leD xs)
    | false => none)
  | false => none
def gSorted (t : Ty) : List D → Option D
  | [.seq .lst xs] => (match szOk xs.length with
    | true => (match sortD t xs with
      | some ys => some (.ols ys)
      | none => none)
    | false => none)
  | [.seq .ols xs] => (match szOk xs.length && xs.all shr with
    | true => (match sortD t xs with
      | some ys => some (.ols ys)
      | none => none)
    | false => none)
  | _ => none
def toPyB (b : D × V) : PyData := toPy b.1
/-- sorted of a list of data -/
def rSortZ (K : PySem.W.Frag) : List V → Hp → VK → Prop := fun xs H Q => ∃ (a : Addr) (bs : List (D × V)), xs = [.ref a] ∧ SqL K H a (bs.map (·.2)) ∧ (∀ b ∈ bs, Dp K H b.2 (toPy b.1)) ∧ PySem.W.AllAlike (bs.map toPyB) ∧ (PySem.W.Sortable (bs.map toPyB) ∨ (bs.length ≤ 1 ∧ ∀ b ∈ bs, toPy b.1 ≠ .none)) ∧ bs.length ≤ sizeLine ∧
  (∀ b ∈ bs, (toPy b.1).depth ≤ 60) ∧ ∀ l, H l = none → Q (.ref l) (upd H l (.lst ((bs.mergeSort (PySem.W.dataLe false toPyB)).map (·.2))))
section
variable {X : Cx}
theorem keyLt'_general (x y : Value) : PyProof.Rows.keyLt' general' x y = oneLt' false x y := rfl
theorem sorts_single {P : Program} {w : World} {A : Around} {s : Shared} {vs : List Value} {ds : List PyData} (e : PySem.W.EachIs (fun v d => ∃ as, Reads s.heap v d as) vs ds) (hal : PySem.W.AllAlike ds) (hl : ds.length ≤ 1) (hn : ∀ d ∈ ds, d ≠ .none) (hu : ∀ d, d ∈ ds → A.units + d.depth < cLine) :
    PySem.W.SortsAt P w A s (PySem.W.dataKind s.heap ds) vs := by
  refine ⟨fun v hv => ?_, general', fun E x y a b Q ha hb hq => ?_, fun h2 => absurd h2 (by rw [e.length]; omega)⟩
  · obtain ⟨d, hd, as, r⟩ := e.left v hv
    exact ⟨_, PySem.W.dataKind_some hal hd r⟩
  · obtain ⟨d, as, hd, ra, rfl⟩ := PySem.W.dataKind_inv ha
    obtain ⟨d', as', hd', rb, rfl⟩ := PySem.W.dataKind_inv hb
    rw [keyLt'_general]
    exact PySem.W.oneLt_alike (fun z => by cases z) ra rb (hal d hd d' hd') (hn d hd) (Nat.lt_of_le_of_lt (Nat.add_le_add_left (Nat.min_le_left _ _) _) (hu d hd)) hq
theorem vals_each : ∀ {bs : List (D × V)} {us : List Value}, Vals (bs.map (·.2)) us → PySem.W.EachIs (fun u (b : D × V) => RelV b.2 u) us bs
  | [], _, .nil => .nil
  | b :: bs, _, .cons r rr => .cons r (vals_each rr)
theorem each_vals : ∀ {bs : List (D × V)} {us : List Value}, PySem.W.EachIs (fun u (b : D × V) => RelV b.2 u) us bs → Vals (bs.map (·.2)) us
  | _, _, .nil => .nil
  | _, _, .cons r rr => .cons r (each_vals rr)
theorem each_imp {α β : Type} {R R' : α → β → Prop} {as : List α} {bs : List β} (e : PySem.W.EachIs R as bs) (h : ∀ a b, b ∈ bs → R a b → R' a b) : PySem.W.EachIs R' as bs := by
  induction e with
  | nil => exact .nil
  | cons r rr ih => exact .cons (h _ _ List.mem_cons_self r) (ih fun a b m => h a b (List.mem_cons_of_mem _ m))
theorem call_sortedZ (hu : X.A.units + 64 < cLine) : CallR X (.builtin "sorted") (rSortZ X.K) := by
  intro pins s σ H xs us Q I r h
  obtain ⟨a, bs, rfl, hs, hd, hal, hk, hL, hdp, q⟩ := h
  obtain ⟨u, rfl, ru⟩ := r.one
  cases ru
  obtain ⟨its, rv, p, hz⟩ := I.list hs
  have e := vals_each rv
  have er : PySem.W.EachIs (fun v b => ∃ as, Reads s.heap v (toPyB b) as) its bs := each_imp e fun v b hb rb => Dp.reads I _ _ _ (hd b hb) rb
  -- the end
  have fin : ∀ out : List Value, out.length = bs.length → PySem.W.EachIs (fun u (b : D × V) => RelV b.2 u) out (bs.mergeSort (PySem.W.dataLe false toPyB)) → EP X pins σ Q (.ref (s.heap.objs.size + 1)) { s with heap := sortedAll s.heap its (List.toArray out) } := fun out hl eo => by
    obtain ⟨ep, he'⟩ := PyProof.Rows.sortedAll_at s.heap its out.toArray
    have vo := each_vals eo
    refine ⟨.ref _, upd H (s.heap.objs.size + 1) (.lst ((bs.mergeSort (PySem.W.dataLe false toPyB)).map (·.2))), I.laid (t' := s.toks) (fun _ _ => PyProof.Rows.sortedAll_old) (Nat.le_succ _) ⟨by rw [vo.length, hl]; exact hL, out, ep, vo, he'⟩, rfl, q _ (I.hok.fresh (Nat.le_succ _))⟩
  rcases hk with hk | ⟨hk, hn⟩
  · exact PySem.W.sorted_data p.isList e er hal hk hL (fun b hb => by
      have z := hdp b hb
      show X.A.units + 2 + (toPy b.1).depth < cLine
      omega) fun out hl eo => fin out hl eo
  · have er' : PySem.W.EachIs (fun v b => ∃ as, Reads (PySem.W.sortingHeap (PySem.W.copyHeap s.heap its) (s.heap.objs.size + 1) its) v (toPyB b) as) its bs := er.mono fun _ _ ⟨as, r⟩ => ⟨as, PyProof.Rows.Reads.keeps (fun _ _ => PySem.W.sorting_copy_old) r⟩
    refine PySem.W.sorted_vals p.isList (sorts_single (s := { s with heap := PySem.W.sortingHeap (PySem.W.copyHeap s.heap its) (s.heap.objs.size + 1) its }) (PySem.W.each_map (R := fun v d => ∃ as, Reads (PySem.W.sortingHeap (PySem.W.copyHeap s.heap its) (s.heap.objs.size + 1) its) v d as) toPyB er') hal (by rw [List.length_map]; exact hk) (fun d m => ?_) fun d m => ?_) (by rw [e.length]; exact hL) (fin _ (by rw [PySem.W.sortVals_length false rfl]; exact e.length) (PySem.W.sortVals_data false e er' hal))
    · obtain ⟨b, hb, rfl⟩ := List.mem_map.mp m
      exact hn b hb
    · obtain ⟨b, hb, rfl⟩ := List.mem_map.mp m
      have z := hdp b hb
      show X.A.in1.in1.units + (toPy b.1).depth < cLine
      have : X.A.in1.in1.units = X.A.units + 1 + 1 := rfl
      omega
end
end Zv
namespace Zv
open PySem PySem.Spec PyProof.Rows L2 RZ

section
variable {K : PySem.W.Frag} {dk : Addr}
theorem reps_pairs {H : Hp} {Z : Addr → Prop} : ∀ {ps : List (D × V)}, (∀ p ∈ ps, Rep K dk H Z p.1 p.2 []) → Reps K dk H Z (ps.map (·.1)) (ps.map (·.2)) []
  | [], _ => .nil
  | p :: ps, h => Reps.cons0 (h p List.mem_cons_self) (reps_pairs fun q m => h q (List.mem_cons_of_mem _ m))
theorem reps_zip {H : Hp} {Z : Addr → Prop} : ∀ {xs : List D} {us : List V}, Reps K dk H Z xs us [] → (xs.zip us).map (·.1) = xs ∧ (xs.zip us).map (·.2) = us ∧ ∀ p ∈ xs.zip us, Rep K dk H Z p.1 p.2 []
  | [], us, r => by
    cases r
    exact ⟨rfl, rfl, fun p m => nomatch m⟩
  | x :: xs, us, r => by
    obtain ⟨v, us', rfl, r1, r2⟩ := r.cut1 rfl
    obtain ⟨h1, h2, h3⟩ := reps_zip r2
    refine ⟨by simp [h1], by simp [h2], fun p m => ?_⟩
    rcases List.mem_cons.mp m with e | m
    · subst e
      exact r1
    · exact h3 p m
theorem okDs_mem {n : Nat} : ∀ {xs : List D} {x : D}, okDs n xs = true → x ∈ xs → okD n x = true
  | y :: ys, x, h, m => by
    unfold okDs at h
    cases c : okD n y with
    | false => rw [c] at h; cases h
    | true =>
      rw [c] at h
      rcases List.mem_cons.mp m with e | m
      · subst e
        exact c
      · exact okDs_mem h m
theorem allTy_mem {t : Ty} : ∀ {xs : List D} {x : D}, allTy xs t = true → x ∈ xs → hasTy x t = true
  | y :: ys, x, h, m => by
    unfold allTy at h
    cases c : hasTy y t with
    | false => rw [c] at h; cases h
    | true =>
      rw [c] at h
      rcases List.mem_cons.mp m with e | m
      · subst e
        exact c
      · exact allTy_mem h m
theorem sort_run {H : Hp} {Z : Addr → Prop} {t : Ty} {xs ys : List D} {us : List V} {a : Addr} {Q : VK} {δ : List Int} (on : ZOn dk H Z) (hd : H dk = some (deckO δ)) (ea : H a = some (.lst us)) (rs : Reps K dk H Z xs us []) (hz : szOk xs.length = true) (e : sortD t xs = some ys) (q : Fin K dk H Z (.ols ys) Q) : rSortZ K [.ref a] H Q := by
  unfold sortD at e
  cases c : okDs 59 xs && allTy xs t with
  | false => rw [c] at e; cases e
  | true =>
    rw [c] at e
    simp only [Bool.and_eq_true] at c
    cases c2 : Nat.ble xs.length 1 || xs.all neD with
    | false => simp only [c2] at e; cases e
    | true =>
      simp only [c2] at e
      cases e
      obtain ⟨h1, h2, h3⟩ := reps_zip rs
      have mem1 : ∀ p ∈ xs.zip us, p.1 ∈ xs := fun p m => by
        have z : p.1 ∈ (xs.zip us).map (·.1) := List.mem_map.mpr ⟨p, m, rfl⟩
        rw [h1] at z
        exact z
      have hl : (xs.zip us).length = xs.length := by
        have z := congrArg List.length h1
        rw [List.length_map] at z
        exact z
      refine ⟨a, xs.zip us, rfl, by rw [h2]; exact .inl (.inl ea), fun p m => (h3 p m).dp (okDs_mem c.1 (mem1 p m)), fun d m d' m' => ?_, ?_, by rw [hl]; exact szOk_le hz, fun p m => ?_, ?_⟩
      · obtain ⟨p, mp, rfl⟩ := List.mem_map.mp m
        obtain ⟨p', mp', rfl⟩ := List.mem_map.mp m'
        exact alike_ty (allTy_mem c.2 (mem1 p mp)) (allTy_mem c.2 (mem1 p' mp'))
      · simp only [Bool.or_eq_true] at c2
        have nn : ∀ p ∈ xs.zip us, toPy p.1 ≠ .none := fun p m => by
          have ht := allTy_mem c.2 (mem1 p m)
          intro z
          generalize p.1 = x at ht z
          cases x with
          | int i => unfold toPy at z; cases z
          | atm a => unfold hasTy at ht; cases ht
          | seq k xs => cases k <;> (unfold toPy at z; cases z)
        rcases c2 with c2 | c2
        · exact .inr ⟨by rw [hl]; exact Nat.le_of_ble_eq_true c2, nn⟩
        · refine .inl ?_
          have ne : ∀ p ∈ xs.zip us, neD p.1 = true := fun p m => List.all_eq_true.mp c2 _ (mem1 p m)
          cases t with
          | i =>
            refine .inr fun d m => ?_
            obtain ⟨p, mp, rfl⟩ := List.mem_map.mp m
            refine ⟨nn p mp, fun ys z => ?_⟩
            have ht := allTy_mem c.2 (mem1 p mp)
            unfold toPyB at z
            generalize p.1 = x at ht z
            cases x with
            | int i => unfold toPy at z; cases z
            | atm a => unfold hasTy at ht; cases ht
            | seq k xs => cases k <;> (unfold hasTy at ht; cases ht)
          | l t =>
            refine .inl fun d m => ?_
            obtain ⟨p, mp, rfl⟩ := List.mem_map.mp m
            have ht := allTy_mem c.2 (mem1 p mp)
            have hn := ne p mp
            unfold toPyB
            generalize p.1 = x at ht hn
            cases x with
            | int i => unfold hasTy at ht; cases ht
            | atm a => unfold hasTy at ht; cases ht
            | seq k xs =>
              cases k <;> first
                | (unfold hasTy at ht; cases ht; done)
                | (cases xs with
                    | nil => unfold neD at hn; cases hn
                    | cons y ys => unfold toPy toPys; exact ⟨_, _, rfl⟩)
          | p ts =>
            refine .inl fun d m => ?_
            obtain ⟨p, mp, rfl⟩ := List.mem_map.mp m
            have ht := allTy_mem c.2 (mem1 p mp)
            have hn := ne p mp
            unfold toPyB
            generalize p.1 = x at ht hn
            cases x with
            | int i => unfold hasTy at ht; cases ht
            | atm a => unfold hasTy at ht; cases ht
            | seq k xs =>
              cases k <;> first
                | (unfold hasTy at ht; cases ht; done)
                | (cases xs with
                    | nil => unfold neD at hn; cases hn
                    | cons y ys => unfold toPy toPys; exact ⟨_, _, rfl⟩)
      · have z := (okD_lay (okDs_mem c.1 (mem1 p m))).2
        omega
      · have tl : PySem.W.TotalLe (PySem.W.dataLe false toPyB) := PySem.W.sortLe_total _ _ _
        have es : (xs.zip us).mergeSort (PySem.W.dataLe false toPyB) = isort (PySem.W.dataLe false toPyB) (xs.zip us) := (isort_eq tl.trans tl.total _).symm
        have e1 : ((xs.zip us).mergeSort (PySem.W.dataLe false toPyB)).map (·.1) = isort leD xs := by
          rw [es]
          have z : isort (PySem.W.dataLe false toPyB) (xs.zip us) = isort (fun a b : D × V => PySem.W.dataLe false toPy a.1 b.1) (xs.zip us) := rfl
          rw [z, isort_map (le := PySem.W.dataLe false toPy) (f := fun p : D × V => p.1), h1]
          exact isort_congr fun x m y n => leD_eq (allTy_mem c.2 m) (allTy_mem c.2 n)
        have r' : Reps K dk H Z (isort leD xs) (((xs.zip us).mergeSort (PySem.W.dataLe false toPyB)).map (·.2)) [] := by
          rw [← e1]
          exact reps_pairs fun p m => h3 p (by
            rw [es] at m
            exact isort_mem m)
        exact q.ols on hd r'
theorem g_sorted {t : Ty} : GC K dk (rSortZ K) (gSorted t) := by
  intro H Z xs z vs A Q δ on hd r e q
  unfold gSorted at e
  split at e
  · rename_i ys
    cases c : szOk ys.length with
    | false => rw [c] at e; cases e
    | true =>
      rw [c] at e
      simp only at e
      cases c2 : sortD t ys with
      | none => rw [c2] at e; cases e
      | some zs =>
        rw [c2] at e
        cases e
        obtain ⟨v, rfl, r1⟩ := r.single
        cases r1 with
        | lst zz n ea rs => exact sort_run on hd ea rs c c2 q
  · rename_i ys
    cases c : szOk ys.length && ys.all shr with
    | false => rw [c] at e; cases e
    | true =>
      rw [c] at e
      simp only [Bool.and_eq_true] at c
      simp only at e
      cases c2 : sortD t ys with
      | none => rw [c2] at e; cases e
      | some zs =>
        rw [c2] at e
        cases e
        obtain ⟨v, rfl, r1⟩ := r.single
        cases r1 with
        | ols n ea rs =>
          have := rs.noown c.2
          subst this
          exact sort_run on hd ea rs c.1 c2 q
  · cases e
end

/-! ## isinstance -/
def tyNm : Nat → String
  | 0 => "tuple"
  | 1 => "list"
  | 2 => "bool"
  | 3 => "int"
  | 4 => "str"
  | _ => "NoneType"
def tyOf : D → Option Nat
  | .int _ => some 3
  | .atm .non => some 5
  | .atm (.bl _) => some 2
  | .atm (.str _) => some 4
  | .seq .tup _ => some 0
  | .seq .lst _ => some 1
  | .seq .ols _ => some 1
  | _ => none
def isOne (t c : Nat) : Bool := match Nat.beq t c with
  | true => true
  | false => match t, c with
    | 2, 3 => true
    | _, _ => false
theorem kit_tab : ∀ t < 6, ∀ c < 5, kitB (tyNm t) (tyNm c) = some (isOne t c) := by decide +kernel
def eIsi (cs : List Nat) (f : EF) : EF := fun ρ δ => match f ρ δ with
  | .ok d δ' => (match tyOf d with
    | some t => .ok (.bl (cs.any (isOne t))) δ'
    | none => .err)
  | r => r
theorem tyOf_rep {K : PySem.W.Frag} {dk : Addr} {H : Hp} {Z : Addr → Prop} {d : D} {v : V} {A : List Addr} {t : Nat} (r : Rep K dk H Z d v A) (e : tyOf d = some t) : t < 6 ∧ TyX K H v (.type (tyNm t)) := by
  cases r <;> first
    | (cases e; done)
    | (cases e; exact ⟨by decide, .base (.int _)⟩)
    | (cases e; exact ⟨by decide, .base .non⟩)
    | (cases e; exact ⟨by decide, .base (.bl _)⟩)
    | (cases e; exact ⟨by decide, .base (.str _)⟩)
    | (rename_i t _; cases e; exact ⟨by decide, .base (.tup t.2)⟩)
    | (rename_i e' _; cases e; exact ⟨by decide, .base (.lst e')⟩)
section
variable {X : Cx} {W : WX} {dk : Addr} {ca : Nat → Addr} {p p1 p2 tpos pos : Pos} {e : Expr} {f : EF} {x1 x2 : Str}
theorem ce_isi1 (c : Nat) (hc : c < 5) (hg : Gl X "isinstance") (hm : X.mg "isinstance" = none) (hg1 : Gl X x1) (hm1 : X.mg x1 = none) (hv1 : bootBuiltins x1 = some (.type (tyNm c))) (he : CB X W dk ca e f) (hn1 : x1 ≠ "__name__" := by decide) (hd1 : (x1 == ("__debug__" : Str)) = false := by decide)
    (hs : starEach [e, .Name x1 p1] X.env = (false, eval e X.env) :: starEach [.Name x1 p1] X.env := by rfl) (hpl : (backTo pos (starEach [.Name x1 p1] X.env)).any (·.1) = false := by rfl) (hs1 : starEach [.Name x1 p1] X.env = (false, eval (.Name x1 p1) X.env) :: starEach [] X.env := by rfl) :
    CE X W dk ca (.Call (.Name "isinstance" p) [e, .Name x1 p1] [] pos) (eIsi [c] f) := by
  obtain ⟨t, pt, q⟩ := he
  refine ⟨_, pe_callB call_isi hg hm PyProof.Rows.boot_isinstance (pa_cons pt (pa_cons (pe_bltn (v := .ty (tyNm c)) hg1 hm1 hv1 rfl hn1 hd1) pa_nil hs1) hs) (by decide) (by decide) hs hpl, fun Z ρ δ σ H Q s h => q Z ρ δ σ H _ s ?_⟩
  unfold eIsi at h
  cases e1 : f ρ δ with
  | err => rw [e1] at h; exact h
  | exc c d δ' => rw [e1] at h; exact h
  | ok d δ1 =>
    rw [e1] at h
    intro v H1 Z1 A1 g1 k1 r1
    cases e2 : tyOf d with
    | none => simp only [e2] at h; exact h.elim
    | some t' =>
      simp only [e2] at h
      obtain ⟨lt, ty⟩ := tyOf_rep r1 e2
      refine ⟨v, .ty (tyNm c), _, _, isOne t' c, rfl, .ty _, ty, kit_ty (kit_tab t' lt c hc), ?_⟩
      have eb : [c].any (isOne t') = isOne t' c := by simp
      rw [eb] at h
      exact h _ H1 Z1 [] g1 k1 (.bl _) .nil fun a m => nomatch m
theorem ce_isi2 {k : Nat} (c1 c2 : Nat) (hc1 : c1 < 5) (hc2 : c2 < 5) (hg : Gl X "isinstance") (hm : X.mg "isinstance" = none) (hg1 : Gl X x1) (hm1 : X.mg x1 = none) (hv1 : bootBuiltins x1 = some (.type (tyNm c1))) (hg2 : Gl X x2) (hm2 : X.mg x2 = none) (hv2 : bootBuiltins x2 = some (.type (tyNm c2))) (he : CB X W dk ca e f)
    (hn1 : x1 ≠ "__name__" := by decide) (hd1 : (x1 == ("__debug__" : Str)) = false := by decide) (hn2 : x2 ≠ "__name__" := by decide) (hd2 : (x2 == ("__debug__" : Str)) = false := by decide)
    (hs : starEach [e, .Tuple [.Name x1 p1, .Name x2 p2] k tpos] X.env = (false, eval e X.env) :: starEach [.Tuple [.Name x1 p1, .Name x2 p2] k tpos] X.env := by rfl) (hpl : (backTo pos (starEach [.Tuple [.Name x1 p1, .Name x2 p2] k tpos] X.env)).any (·.1) = false := by rfl)
    (hs1 : starEach [.Tuple [.Name x1 p1, .Name x2 p2] k tpos] X.env = (false, eval (.Tuple [.Name x1 p1, .Name x2 p2] k tpos) X.env) :: starEach [] X.env := by rfl) (hs2 : starEach [.Name x1 p1, .Name x2 p2] X.env = (false, eval (.Name x1 p1) X.env) :: starEach [.Name x2 p2] X.env := by rfl)
    (hs3 : starEach [.Name x2 p2] X.env = (false, eval (.Name x2 p2) X.env) :: starEach [] X.env := by rfl) :
    CE X W dk ca (.Call (.Name "isinstance" p) [e, .Tuple [.Name x1 p1, .Name x2 p2] k tpos] [] pos) (eIsi [c1, c2] f) := by
  obtain ⟨t, pt, q⟩ := he
  refine ⟨_, pe_callB call_isiT hg hm PyProof.Rows.boot_isinstance (pa_cons pt (pa_cons (pe_tup (pa_cons (pe_bltn (v := .ty (tyNm c1)) hg1 hm1 hv1 rfl hn1 hd1) (pa_cons (pe_bltn (v := .ty (tyNm c2)) hg2 hm2 hv2 rfl hn2 hd2) pa_nil hs3) hs2)) pa_nil hs1) hs) (by decide) (by decide) hs hpl, fun Z ρ δ σ H Q s h => q Z ρ δ σ H _ s ?_⟩
  unfold eIsi at h
  cases e1 : f ρ δ with
  | err => rw [e1] at h; exact h
  | exc c d δ' => rw [e1] at h; exact h
  | ok d δ1 =>
    rw [e1] at h
    intro v H1 Z1 A1 g1 k1 r1
    cases e2 : tyOf d with
    | none => simp only [e2] at h; exact h.elim
    | some t' =>
      simp only [e2] at h
      obtain ⟨lt, ty⟩ := tyOf_rep r1 e2
      refine ⟨by show 2 ≤ sizeLine; decide, fun tp htp => ?_⟩
      have nd := ne_dk k1 htp
      have g2 := Grow.upd (o := .tup [.ty (tyNm c1), .ty (tyNm c2)]) g1.on htp
      obtain ⟨_, ty2⟩ := tyOf_rep (r1.mono g2.same g2.z) e2
      refine ⟨v, tp, [.ty (tyNm c1), .ty (tyNm c2)], _, [.type (tyNm c1), .type (tyNm c2)], [c1, c2].any (isOne t'), rfl, upd_same, .cons (.ty _) (.cons (.ty _) .nil), ty2, ?_, ?_⟩
      · refine kitAny_cons (kit_ty (kit_tab t' lt c1 hc1)) (fun b => kitAny_cons (kit_ty (kit_tab t' lt c2 hc2)) (fun b2 => ?_) fun b2 => ?_) fun b => ?_
        · rw [kitAny_nil]
          simp [b, b2]
        · simp [b2]
        · simp [b]
      · exact h _ _ Z1 [] (g1.trans g2) ((upd_ne (Ne.symm nd)).trans k1) (.bl _) .nil fun a m => nomatch m
end
end Zv
namespace Zv
open PySem PySem.Spec PyProof.Rows L2 RZ

/-! ## list.count -/
def rCntD (K : PySem.W.Frag) : V → List V → Hp → VK → Prop := fun x xs H Q => ∃ (a : Addr) (y : V) (d : PyData) (ds : List PyData), x = V.ref a ∧ xs = [y] ∧ Dp K H (V.ref a) (.list ds) ∧ Dp K H y d ∧
  SeqAt.shaped (.list ds) = true ∧ SeqAt.shaped d = true ∧ Q (.int ((ds.countP fun z => PyData.eqv z d : Nat) : Int)) H
theorem mt_countD {X : Cx} (hu : X.A.units + 65 < cLine) : MtR X "list.count" (rCntD X.K) := by
  intro pins s σ H x xs v us Q I rx rxs h
  obtain ⟨a, y, d, ds, rfl, rfl, hl, hy, sl, sd, q⟩ := h
  cases rx
  cases rxs with
  | cons ry rt =>
    rename_i uy ut
    cases rt
    obtain ⟨bs, r1⟩ := Dp.reads I d y uy hy ry
    have hxs : PyData.canLayAll0 ds = true := SeqAt.canLay_of_shaped sl
    have hroom : X.A.units + 1 + min (PyData.depthAll ds) d.depth < cLine := room_in_shaped sd hu
    cases hl with
    | lst hs ha =>
      obtain ⟨its, rv, ⟨⟨cls, dd, data, sls⟩, n, ho, hc, hdn, hdt⟩, hlen⟩ := I.list hs
      simp only at hc hdt
      subst hc hdt
      obtain ⟨as, h4⟩ := Dp.readsAll I ds _ its ha rv
      have hmap : its.map (SeqAt.readOf s.heap) = ds := SeqAt.readsAll_map ds its as hxs h4
      refine call_meets PySem.F.slot_list_count ⟨_, ho, rfl⟩ PySem.F.entry_list_count (PySem.F.args_list_count_2 _ _)
        (SeqAt.list_countAt a its.toArray n dd sls uy (fun u => PyData.eqv (SeqAt.readOf s.heap u) d)) ⟨ho, SeqAt.items_eqAt (vs := its.toArray) (show ReadsAll s.heap its.toArray.toList ds as from h4) r1 hxs (SeqAt.canLay_of_shaped sd) hroom, ?_⟩
      have ec : its.toArray.toList.countP (fun u => PyData.eqv (SeqAt.readOf s.heap u) d) = ds.countP fun z => PyData.eqv z d := by
        rw [← hmap, List.countP_map]
        rfl
      refine ⟨.int ((ds.countP fun z => PyData.eqv z d : Nat) : Int), H, I.tok _, ⟨s.toks, ?_⟩, q⟩
      rw [ec]
def cntD (y : D) : List D → Option Nat
  | [] => some 0
  | x :: xs => match deq x y, cntD y xs with
    | some b, some n => (match b with
      | true => some (n + 1)
      | false => some n)
    | _, _ => none
def isLk : SK → Bool
  | .lst => true
  | .ols => true
  | _ => false
def cntC (y : D) (xs : List D) : Option Nat := match okD 60 y && okDs 59 xs with
  | true => cntD y xs
  | false => none
def eCnt (fo fe : EF) : EF := fun ρ δ => match fo ρ δ with
  | .ok x δ1 => (match x with
    | .seq k xs => (match isLk k with
      | true => (match fe ρ δ1 with
        | .ok y δ2 => (match cntC y xs with
          | some n => .ok (.int n) δ2
          | none => .err)
        | r => r)
      | false => .err)
    | _ => .err)
  | r => r
theorem cntD_eq {y : D} : ∀ {xs : List D} {n : Nat}, cntD y xs = some n → ((toPys xs).countP fun z => PyData.eqv z (toPy y)) = n
  | [], n, h => by
    unfold cntD at h
    cases h
    unfold toPys
    rfl
  | x :: xs, n, h => by
    unfold cntD at h
    cases h1 : deq x y with
    | none => simp only [h1] at h; cases h
    | some b =>
      cases h2 : cntD y xs with
      | none => simp only [h1, h2] at h; cases h
      | some m =>
        simp only [h1, h2] at h
        unfold toPys
        rw [List.countP_cons, cntD_eq h2, deq_eqv h1]
        cases b with
        | true => cases h; rfl
        | false => cases h; rfl
section
variable {X : Cx} {W : WX} {dk : Addr} {ca : Nat → Addr} {o e : Expr} {fo fe : EF} {apos cpos : Pos}
theorem ce_count (hu : X.A.units + 65 < cLine) (ho : CB X W dk ca o fo) (he : CB X W dk ca e fe) (hbase : attributeBase o "count" X.env (eval o X.env) = eval o X.env := by rfl)
    (hfew : ((backTo cpos (starEach [e] X.env)).all (fun x => !x.1) && (backToKw cpos (keywordEach [] X.env)).all (fun x => x.1.isSome)
      && decide (([e] : List Expr).length + ([] : List Keyword).length + (if ([] : List Keyword).isEmpty then 0 else 1) < 30)) = true := by rfl)
    (hline : (apos.endLine == cpos.line) = true := by rfl) (hs : starEach [e] X.env = (false, eval e X.env) :: starEach [] X.env := by rfl) :
    CE X W dk ca (.Call (.Attribute o "count" apos) [e] [] cpos) (eCnt fo fe) := by
  obtain ⟨t, pt, q⟩ := ho
  obtain ⟨t2, pt2, q2⟩ := he
  refine ⟨_, pe_bm (r := rCntD X.K) F.plainAttrs_list F.slot_list_count F.type_list_count (mt_countD hu) pt (pa_cons pt2 pa_nil (hs.trans rfl)) hbase hfew hline hs, fun Z ρ δ σ H Q s h => q Z ρ δ σ H _ s ?_⟩
  unfold eCnt at h
  cases e1 : fo ρ δ with
  | err => rw [e1] at h; exact h
  | exc c d δ' => rw [e1] at h; exact h
  | ok x δ1 =>
    rw [e1] at h
    simp only at h
    intro v H1 Z1 A1 g1 k1 r1
    split at h
    · rename_i k xs
      cases hk : isLk k with
      | false => simp only [hk] at h; exact h.elim
      | true =>
        simp only [hk] at h
        have hk' : k = .lst ∨ k = .ols := by cases k <;> first | exact .inl rfl | exact .inr rfl | cases hk
        have s1 := s.grow g1 k1
        have ty : tyV X.K "list" v H1 := by
          obtain ⟨a, vs, A', rfl, hs, _⟩ := r1.anyL hk'
          exact .inl ⟨rfl, _, hs⟩
        refine ⟨ty, q2 Z1 ρ δ1 σ H1 _ s1 ?_⟩
        cases e2 : fe ρ δ1 with
        | err => rw [e2] at h; exact h
        | exc c d δ' => rw [e2] at h; exact RX.grow h g1
        | ok y δ2 =>
          rw [e2] at h
          simp only at h
          intro u H2 Z2 A2 g2 k2 r2
          cases c2 : cntC y xs with
          | none => rw [c2] at h; exact h.elim
          | some n =>
            rw [c2] at h
            simp only at h
            unfold cntC at c2
            cases c : okD 60 y && okDs 59 xs with
            | false => rw [c] at c2; cases c2
            | true =>
              rw [c] at c2
              simp only [Bool.and_eq_true] at c
              obtain ⟨a, vs, A', rfl, hs, rr⟩ := (r1.mono g2.same g2.z).anyL hk'
              refine ⟨a, u, toPy y, toPys xs, rfl, rfl, .lst hs (rr.dps c.2), r2.dp c.1, okDs_shapedL c.2 (by decide), okD_shaped c.1 (by decide), ?_⟩
              rw [cntD_eq c2]
              exact h _ H2 Z2 [] (g1.trans g2) k2 (.int _) .nil fun a m => nomatch m
    · exact h.elim
end
end Zv
namespace Zv
open PySem PySem.Spec PyProof.Rows L2 RZ

theorem hu64 {A : Around} {k : Nat} (hr : Room k A) : A.units + 64 < cLine := by have := hr.un; omega
theorem hu65 {A : Around} {k : Nat} (hr : Room k A) : A.units + 65 < cLine := by have := hr.un; omega
/-! ## -e -/
def eNeg (f : EF) : EF := fun ρ δ => match f ρ δ with
  | .ok d δ' => (match d with
    | .int i => forceI (-i) fun j => .ok (.int j) δ'
    | _ => .err)
  | r => r
section
variable {X : Cx} {W : WX} {dk : Addr} {ca : Nat → Addr} {e : Expr} {f : EF} {pos : Pos}
theorem ce_neg (h1 : CB X W dk ca e f) : CE X W dk ca (.UnaryOp .USub e pos) (eNeg f) := by
  obtain ⟨t, p, q⟩ := h1
  refine ⟨_, pe_un un_neg p, fun Z ρ δ σ H Q s h => q Z ρ δ σ H _ s ?_⟩
  unfold eNeg at h
  cases e1 : f ρ δ with
  | err => rw [e1] at h; exact h
  | exc c d δ' => rw [e1] at h; exact h
  | ok d δ1 =>
    rw [e1] at h
    simp only at h
    intro v H1 Z1 A1 g1 k1 r1
    split at h
    · rename_i i
      rw [forceI_eq] at h
      cases r1
      exact ⟨i, rfl, h _ H1 Z1 [] g1 k1 (.int _) .nil fun a m => nomatch m⟩
    · exact h.elim
/-- two new lists, one behind the other: what they own goes over -/
def eCatF (f g : EF) : EF := fun ρ δ => match f ρ δ with
  | .ok x δ1 => (match g ρ δ1 with
    | .ok y δ2 => (match x, y with
      | .seq .ols xs, .seq .ols ys => (match szOk (xs.length + ys.length) with
        | true => .ok (.ols (xs ++ ys)) δ2
        | false => .err)
      | _, _ => .err)
    | r => r)
  | r => r
theorem ce_catF {a b : Expr} {f g : EF} (h1 : CE X W dk ca a f) (h2 : CE X W dk ca b g) : CE X W dk ca (.BinOp a .Add b pos) (eCatF f g) := by
  obtain ⟨t1, p1, q1⟩ := h1
  obtain ⟨t2, p2, q2⟩ := h2
  refine ⟨_, pe_op op_cat p1 p2, fun Z ρ δ σ H Q s h => q1 Z ρ δ σ H _ s ?_⟩
  unfold eCatF at h
  cases e1 : f ρ δ with
  | err => rw [e1] at h; exact h
  | exc c d δ' => rw [e1] at h; exact h
  | ok x δ1 =>
    rw [e1] at h
    simp only at h
    intro v H1 Z1 A1 g1 k1 r1 n1 f1
    refine q2 Z1 ρ δ1 σ H1 _ (s.grow g1 k1) ?_
    cases e2 : g ρ δ1 with
    | err => rw [e2] at h; exact h
    | exc c d δ' => rw [e2] at h; exact RX.grow h g1
    | ok y δ2 =>
      rw [e2] at h
      simp only at h
      intro u H2 Z2 A2 g2 k2 r2 n2 f2
      split at h
      · rename_i xs ys
        cases c : szOk (xs.length + ys.length) with
        | false => simp only [c] at h; exact h.elim
        | true =>
          simp only [c] at h
          obtain ⟨n3, f3⟩ := fresh_app (K := X.K) g1 g2 r1.own r2.own n1 f1 n2 f2
          have r1' := r1.mono g2.same g2.z
          cases r1' with
          | ols nd ea rs =>
            rename_i a vs B1
            cases r2 with
            | ols nd2 eb rs2 =>
              rename_i b us B2
              refine ⟨a, b, vs, us, rfl, rfl, ea, eb, by rw [← rs.len, ← rs2.len]; exact szOk_le c, fun p np => ?_⟩
              have ndp := ne_dk k2 np
              have g3 := g1.trans g2
              have sub : ∀ z ∈ B1 ++ B2, z ∈ (a :: B1) ++ (b :: B2) := fun z m => by
                rcases List.mem_append.mp m with m | m
                · exact List.mem_append.mpr (.inl (List.mem_cons_of_mem _ m))
                · exact List.mem_append.mpr (.inr (List.mem_cons_of_mem _ m))
              have nB : (B1 ++ B2).Nodup := by
                obtain ⟨x1, x2, x3⟩ := List.nodup_append.mp n3
                exact List.nodup_append.mpr ⟨(List.nodup_cons.mp x1).2, (List.nodup_cons.mp x2).2, fun z m w m' => x3 z (List.mem_cons_of_mem _ m) w (List.mem_cons_of_mem _ m')⟩
              have rr := rs.append rs2
              refine h _ _ Z2 (p :: (B1 ++ B2)) (g3.trans (Grow.upd g3.on np)) ((upd_ne (Ne.symm ndp)).trans k2) (.ols ndp upd_same (rr.mono (SameD.upd np) fun _ z => z)) (List.nodup_cons.mpr ⟨fun m => (rr.own p m).2 np, nB⟩) fun z m => ?_
              rcases List.mem_cons.mp m with rfl | m
              · exact ⟨g3.same.none_of ndp np, fun y => (g3.on _ y).2 np⟩
              · exact f3 z (sub z m)
      · exact h.elim
/-- name = [..], a dict locked -/
theorem cs_setCL (i j : Nat) {y : Str} {elt tg iter : Expr} {ifs : List Expr} {rest : List Comprehension} {scope : Scope} {own : List (Str × Nat)} {cpos py spos : Pos} {fi : AF} {gt' : D → List D → Option (List D)} {tt : EF} {fb : CF} (hc : X.calm = true) (hN : X.N.Nodup)
    (ci : CI X W dk ca tg iter fi) (ok : BlkOk X.N X.env.scope scope own)
    (hcl : ∀ (s : Shared) (H : Hp) (C : Addr) (cl : List (Str × Addr)) (fp : List Addr), ClOk (X.blk s H scope (compEnvC scope cl C X.env) fp) dk ca elt (⟨tg, iter, ifs, 0⟩ :: rest) scope cpos 0 (own.map (·.2)) gt' tt fb)
    (hy : X.N[i]? = some y := by rfl) (hyl : X.env.scope.names.lookup y = some .local := by rfl) (hk : X.env.scope.kind = .function := by rfl) (hl : (py.line == cpos.line) = true := by rfl) (ha : (scope.names.any fun (n, k) => n == y && (k == .local || k == .cell)) = false := by rfl) (hs : ∀ x, foldedSetIterable iter X.env x = pure x := by intro _; rfl) :
    CS X W dk ca (.Assign [.Name y py] (.ListComp elt (⟨tg, iter, ifs, 0⟩ :: rest) scope cpos) spos) (sSet i (eLock j (eComp fi gt' tt (own.map (·.2)) fb))) := by
  have p := ps_comp (spos := spos) hc hN hy hyl (sw_true hk hyl hl ha) ci ok hcl hs
  refine ⟨fun D σ H => tLock (tAsg (tE X.K dk ca W (eComp fi gt' tt (own.map (·.2)) fb)) (gName i)) D σ H ∨ tAsg (tE X.K dk ca W (eComp fi gt' tt (own.map (·.2)) fb)) (gName i) D σ H, ⟨fun pins s σ H D I h => ?_⟩, fun Z ρ δ σ H A Dn s h => ?_⟩
  · rcases h with h | h
    · exact (ps_lock p).run pins s σ H D I h
    · exact p.run pins s σ H D I h
  · have h' := lock_run (t := tE X.K dk ca W (eComp fi gt' tt (own.map (·.2)) fb)) j (fun Z ρ δ σ H Q s h => ⟨Z, ρ, δ, s, h⟩) s.sx (set_run s h)
    rcases h' with h' | h'
    · exact .inl h'
    · exact .inr h'
end
/-- a def whose fuel has run out promises nothing -/
theorem fn_err {P : Program} {w : World} {K : PySem.W.Frag} {mg : Str → Option Value} {base : Heap} {ca : Nat → Addr} {f : Addr} {fd : FuncData} {ps : List Str} {k n : Nat} (hn : ps.length = n) : FnOk P w K mg base (L2.CX P w) k f fd ps (Prom K ca n fun _ _ => .err) :=
  ⟨fun vs H Q E h => h.1.trans hn.symm, fun A outer s H args us vs Q E _ _ _ _ h => by
    obtain ⟨_, _, _, _, _, _, _, _, h⟩ := h
    exact h.elim⟩
end Zv
namespace Zv
open PySem PySem.Spec PyProof.Rows L2 RZ

/-! ## the deck -/
theorem same_up {H : Hp} {p : Addr} {o : HO} (h : H p = none) : Same H (upd H p o) := fun b x e => by
  rw [upd_ne (ne_of_none e h)]
  exact e
/-- what a deck holds -/
def Card (x : Int) : Prop := 0 ≤ x ∧ x < 1000003
def Cards (n : Nat) (xs : List Int) : Prop := xs.length = n ∧ ∀ x ∈ xs, Card x
theorem card_mod (x : Int) : Card (x % 1000003) := ⟨Int.emod_nonneg _ (by decide), Int.emod_lt_of_pos _ (by decide)⟩
/-- deck = _law_deck(script, cells, each) -/
def spDeck (K : PySem.W.Frag) : Sp := fun vs H Q _ => ∃ (a : Addr) (ns : List Int) (c e : Nat), vs = [.ref a, .int c, .int e] ∧ SqL K H a (ns.map V.int) ∧ ns.length ≤ 63 ∧ c ≤ 100 ∧ e ≤ 100 ∧
  ∀ H' p δ, Same H H' → H p = none → Cards (c * e) δ → H' p = some (deckO δ) → Q (.ref p) H'
theorem abs_if (i : Int) : 0 ≤ (if i < 0 then -i else i) := by split <;> omega
/-- the seed's range -/
def Seed (s : Int) : Prop := 0 ≤ s ∧ s < 4294967296
theorem seed_mod (x m : Int) (h1 : 0 < m) (h2 : m ≤ 4294967296) : Seed (x % m) := ⟨Int.emod_nonneg _ (by omega), by have := Int.emod_lt_of_pos x h1; omega⟩
theorem seed_cmul {s : Int} {j : Int} (h : Seed s) : CMul s j := .inl ⟨by have := h.1; omega, by
  have h2 := h.2
  have e : ((2 : Int) ^ 64) = 18446744073709551616 := by decide
  rw [e]
  omega⟩
theorem two_cmul {j : Int} : CMul 2 j := .inl ⟨by decide, by decide⟩
theorem cdivw_a {i : Int} : CDivW i 1000003 := ⟨by decide, by decide +kernel⟩
theorem cdivw_b {i : Int} : CDivW i 5 := ⟨by decide, by decide +kernel⟩
theorem cpow30 : CPow 10 30 := ⟨by decide, by decide, by decide⟩
abbrev rLenZ (K : PySem.W.Frag) : List V → Hp → VK → Prop := fun xs H Q => ∃ p ys, xs = [.ref p] ∧ (SqL K H p ys ∨ SqT K H p ys) ∧ Q (.int ys.length) H
abbrev rAbsZ : List V → Hp → VK → Prop := fun xs H Q => ∃ i, xs = [.int i] ∧ Q (.int (if i < 0 then -i else i)) H
abbrev rIntZ : List V → Hp → VK → Prop := fun xs H Q => (∃ i, xs = [.int i] ∧ Q (.int i) H) ∨ ∃ k, xs = [.bl k] ∧ Q (.int (if k then 1 else 0)) H
abbrev rAddZ : R2 := rI0 fun i j => .int (i + j)
abbrev rLtZ : R2 := rI0 fun i j => .bl (decide (i < j))
abbrev rGeZ : R2 := rI0 fun i j => .bl (decide (j ≤ i))
abbrev rModZ : R2 := rI (fun _ j => 0 < j) fun i j => .int (i % j)
abbrev rMulZ : R2 := rI CMul fun i j => .int (i * j)
abbrev rDivZ : R2 := rI CDivW fun i j => .int (i / j)
abbrev rPowZ : R2 := rI CPow fun i j => .int (i ^ j.toNat)
def t_app (K : PySem.W.Frag) (e : TE) : TS := tDrop (tBM K "list" rAppend (tVar 3) (tCons e tNil))
def t_A (K : PySem.W.Frag) : TS := tFor (iRng1 (tCons (tVar 2) tNil)) (gName 8) (tSeq (t_app K (tOp rModZ (tCB rIntZ (tCons (tVar 7) tNil)) (tC (.int 1000003)))) (tAsg (tOp rDivZ (tVar 7) (tC (.int 1000003))) (gName 7)))
def t_B (K : PySem.W.Frag) : TS := tSeq (tAsg (tOp rModZ (tCB rIntZ (tCons (tOp rAddZ (tOp rAddZ (tOp rAddZ (tOp rMulZ (tVar 4) (tC (.int 48271))) (tOp rMulZ (tC (.int 2)) (tVar 7))) (tCB rIntZ (tCons (tOp rLtZ (tVar 6) (tC (.int 0))) tNil))) (tVar 5)) tNil)) (tC (.int 2147483647))) (gName 4))
  (tFor (iRng1 (tCons (tVar 2) tNil)) (gName 8) (tSeq (tAsg (tOp rModZ (tCB rIntZ (tCons (tOp rAddZ (tOp rAddZ (tOp rMulZ (tVar 4) (tC (.int 69621))) (tVar 8)) (tC (.int 1))) tNil)) (tC (.int 2147483629))) (gName 4)) (t_app K (tOp rModZ (tCB rIntZ (tCons (tOp rDivZ (tVar 4) (tC (.int 5))) tNil)) (tC (.int 1000003))))))
def t_tail (K : PySem.W.Frag) : TS := tSeq (tAsg (tCB rAbsZ (tCons (tVar 6) tNil)) (gName 7)) (tIfS (tTest (tOp rGeZ (tVar 7) (tOp rPowZ (tC (.int 10)) (tC (.int 30))))) (t_A K) (t_B K))
/-- but for the deck the heap stays -/
def But (o : Addr) (H H' : Hp) : Prop := ∀ b, b ≠ o → H' b = H b
theorem But.refl {o : Addr} {H : Hp} : But o H H := fun _ _ => rfl
theorem But.upd {o : Addr} {H H' : Hp} {x : HO} (h : But o H H') : But o H (upd H' o x) := fun b n => (upd_ne n).trans (h b n)
theorem But.trans {o : Addr} {H H' H'' : Hp} (h : But o H H') (h' : But o H' H'') : But o H H'' := fun b n => (h' b n).trans (h b n)
theorem Cards.push {n : Nat} {xs : List Int} (h : Cards n xs) {x : Int} (hx : Card x) : Cards (n + 1) (xs ++ [x]) := ⟨by rw [List.length_append, h.1]; rfl, fun y m => by
  rcases List.mem_append.mp m with m | m
  · exact h.2 y m
  · have e : y = x := by simpa using m
    exact e ▸ hx⟩
theorem size_lt {n : Nat} (h : n ≤ 100000) : n < sizeLine := by
  have e : sizeLine = 16777216 := by decide
  rw [e]
  omega
section
variable {K : PySem.W.Frag} {a o : Addr} {c e n : Nat} {H : Hp} {D : Ends} {xs : List Int} {s k z : Int} {y7 y8 : Option V}
/-- the cell's numbers are laid into the deck -/
theorem deck_A {r : Int} (he : e ≤ 100) (hn : n + e ≤ 100000) (hx : Cards n xs) (hs : Seed s) (ho : H o = some (.lst (xs.map V.int)))
    (hq : ∀ H' xs' s' y7 y8, But o H H' → Cards (n + e) xs' → Seed s' → H' o = some (.lst (xs'.map V.int)) → D.nx [some (.ref a), some (.int c), some (.int e), some (.ref o), some (.int s'), some (.int k), some (.int z), y7, y8] H') :
    t_A K D [some (.ref a), some (.int c), some (.int e), some (.ref o), some (.int s), some (.int k), some (.int z), some (.int r), y8] H := by
  refine ⟨.int e, rfl, e, rfl, by omega, by omega, for_range (fun i σ H' => ∃ (xs' : List Int) (r : Int) (y8 : Option V), σ = [some (.ref a), some (.int c), some (.int e), some (.ref o), some (.int s), some (.int k), some (.int z), some (.int r), y8] ∧ But o H H' ∧ Cards (n + i) xs' ∧ H' o = some (.lst (xs'.map V.int)))
    ⟨xs, r, y8, rfl, .refl, hx, ho⟩ ?_ ?_⟩
  · rintro i σ H' hi ⟨xs', r', y8', rfl, b, cx, eo⟩
    have hi' : i < e := by
      have : (e : Int).toNat = e := Int.toNat_natCast e
      omega
    refine ⟨.ref o, rfl, .inl ⟨rfl, _, .inl (.inl eo)⟩, .int r', rfl, .inl ⟨r', rfl, _, _, rfl, rfl, (by decide : (0 : Int) < 1000003), o, _, _, rfl, rfl, eo, ?_, ?_⟩⟩
    · rw [List.length_map, cx.1]
      exact size_lt (by omega)
    · refine ⟨.int r', rfl, _, _, rfl, rfl, cdivw_a, xs' ++ [r' % 1000003], r' / 1000003, _, rfl, b.upd, cx.push (card_mod _), ?_⟩
      rw [upd_same, List.map_append]
      rfl
  · rintro σ H' ⟨xs', r', y8', rfl, b, cx, eo⟩
    rw [Int.toNat_natCast] at cx
    exact hq H' xs' s _ _ b cx hs eo
theorem deck_B {r : Int} (he : e ≤ 100) (hn : n + e ≤ 100000) (hx : Cards n xs) (hs : Seed s) (ho : H o = some (.lst (xs.map V.int)))
    (hq : ∀ H' xs' s' y7 y8, But o H H' → Cards (n + e) xs' → Seed s' → H' o = some (.lst (xs'.map V.int)) → D.nx [some (.ref a), some (.int c), some (.int e), some (.ref o), some (.int s'), some (.int k), some (.int z), y7, y8] H') :
    t_B K D [some (.ref a), some (.int c), some (.int e), some (.ref o), some (.int s), some (.int k), some (.int z), some (.int r), y8] H := by
  refine ⟨.int s, rfl, _, _, rfl, rfl, seed_cmul hs, .int r, rfl, _, _, rfl, rfl, two_cmul, _, _, rfl, rfl, .int z, rfl, _, _, rfl, rfl, .inr ⟨_, rfl, _, _, rfl, rfl, .int k, rfl, _, _, rfl, rfl, .inl ⟨_, rfl, _, _, rfl, rfl, (by decide : (0 : Int) < 2147483647), ?_⟩⟩⟩
  refine ⟨.int e, rfl, e, rfl, by omega, by omega, for_range (fun i σ H' => ∃ (xs' : List Int) (s' : Int) (y8 : Option V), σ = [some (.ref a), some (.int c), some (.int e), some (.ref o), some (.int s'), some (.int k), some (.int z), some (.int r), y8] ∧ But o H H' ∧ Cards (n + i) xs' ∧ Seed s' ∧ H' o = some (.lst (xs'.map V.int)))
    ⟨xs, _, y8, rfl, .refl, hx, seed_mod _ _ (by decide) (by decide), ho⟩ ?_ ?_⟩
  · rintro i σ H' hi ⟨xs', s', y8', rfl, b, cx, hs', eo⟩
    have hi' : i < e := by
      have : (e : Int).toNat = e := Int.toNat_natCast e
      omega
    refine ⟨.int s', rfl, _, _, rfl, rfl, seed_cmul hs', .int _, rfl, _, _, rfl, rfl, _, _, rfl, rfl, .inl ⟨_, rfl, _, _, rfl, rfl, (by decide : (0 : Int) < 2147483629), ?_⟩⟩
    refine ⟨.ref o, rfl, .inl ⟨rfl, _, .inl (.inl eo)⟩, .int _, rfl, _, _, rfl, rfl, cdivw_b, .inl ⟨_, rfl, _, _, rfl, rfl, (by decide : (0 : Int) < 1000003), o, _, _, rfl, rfl, eo, ?_, ?_⟩⟩
    · rw [List.length_map, cx.1]
      exact size_lt (by omega)
    · refine ⟨xs' ++ [(s' * 69621 + (0 + (i : Int)) + 1) % 2147483629 / 5 % 1000003], _, _, rfl, b.upd, cx.push (card_mod _), seed_mod _ _ (by decide) (by decide), ?_⟩
      rw [upd_same, List.map_append]
      rfl
  · rintro σ H' ⟨xs', s', y8', rfl, b, cx, hs', eo⟩
    rw [Int.toNat_natCast] at cx
    exact hq H' xs' s' _ _ b cx hs' eo
theorem deck_tail (he : e ≤ 100) (hn : n + e ≤ 100000) (hx : Cards n xs) (hs : Seed s) (ho : H o = some (.lst (xs.map V.int)))
    (hq : ∀ H' xs' s' y7 y8, But o H H' → Cards (n + e) xs' → Seed s' → H' o = some (.lst (xs'.map V.int)) → D.nx [some (.ref a), some (.int c), some (.int e), some (.ref o), some (.int s'), some (.int k), some (.int z), y7, y8] H') :
    t_tail K D [some (.ref a), some (.int c), some (.int e), some (.ref o), some (.int s), some (.int k), some (.int z), y7, y8] H := by
  refine ⟨.int z, rfl, z, rfl, .int _, rfl, _, _, rfl, rfl, cpow30, _, _, rfl, rfl, _, rfl, ite2 (fun _ => ?_) (fun _ => ?_)⟩
  · exact deck_A he hn hx hs ho hq
  · exact deck_B he hn hx hs ho hq
end
/-! one draw -/
def takeF : FF := fun ds δ => match ds with
  | [.atm .dk, .int m] => (match δ with
    | [] => .ok (.int 0) []
    | x :: δ' => (match decide (0 < m) with
      | true => .ok (.int (x % m)) δ'
      | false => .err))
  | _ => .err
end Zv
namespace Zv
open PySem PySem.Spec PyProof.Rows L2 RZ

/-! ## blocks as lists -/
def frzs (fs : List Nat) (f : SF) : SF := match fs with
  | [] => f
  | i :: is => frzS i (frzs is f)
def blk : List (List Nat × SF) → SF
  | [] => sNil
  | (fs, f) :: r => frzs fs (sSeq f (blk r))
theorem frzs_then {f g h : SF} (e : ∀ ρ δ, f ρ δ = match g ρ δ with | .nx ρ1 δ1 => h ρ1 δ1 | r => r) : ∀ (fs : List Nat) (ρ : List D) (δ : List Int), frzs fs f ρ δ = match frzs fs g ρ δ with | .nx ρ1 δ1 => h ρ1 δ1 | r => r
  | [], ρ, δ => e ρ δ
  | i :: is, ρ, δ => frzs_then e is _ δ
theorem blk_append : ∀ (l1 l2 : List (List Nat × SF)) (ρ : List D) (δ : List Int), blk (l1 ++ l2) ρ δ = match blk l1 ρ δ with | .nx ρ1 δ1 => blk l2 ρ1 δ1 | r => r
  | [], l2, ρ, δ => rfl
  | (fs, f) :: r, l2, ρ, δ => by
    show frzs fs (sSeq f (blk (r ++ l2))) ρ δ = _
    refine frzs_then (f := sSeq f (blk (r ++ l2))) (g := sSeq f (blk r)) (h := blk l2) (fun ρ δ => ?_) fs ρ δ
    unfold sSeq
    cases f ρ δ with
    | nx ρ1 δ1 => exact blk_append r l2 ρ1 δ1
    | bk ρ δ => rfl
    | ct ρ δ => rfl
    | rt d δ => rfl
    | exc c d ρ δ => rfl
    | err => rfl
/-- the front of a block is run -/
theorem blk_go {l1 l2 : List (List Nat × SF)} {ρ ρ' : List D} {δ δ' : List Int} (h : blk l1 ρ δ = .nx ρ' δ') : blk (l1 ++ l2) ρ δ = blk l2 ρ' δ' := by
  rw [blk_append, h]
theorem blk_rt {l1 l2 : List (List Nat × SF)} {ρ : List D} {δ δ' : List Int} {d : D} (h : blk l1 ρ δ = .rt d δ') : blk (l1 ++ l2) ρ δ = .rt d δ' := by
  rw [blk_append, h]
def stOf : SR → List D
  | .nx ρ _ => ρ
  | _ => []
/-! ## the law's own body -/
def tCan (K : PySem.W.Frag) (ca : Nat → Addr) (W : WX) (f : SF) : TS := fun D σ H => ∃ dk Z ρ δ A, Stt K dk ρ δ σ H Z A ∧ RS K dk ca W H Z A (f ρ δ) D
theorem css_can {X : Cx} {W : WX} {ca : Nat → Addr} {sts : List Stmt} {f : SF} (h : ∀ dk, CSs X W dk ca sts f) : PSs X sts (tCan X.K ca W f) := by
  refine ⟨fun pins s σ H D I hw => ?_⟩
  obtain ⟨dk, Z, ρ, δ, A, st, r⟩ := hw
  obtain ⟨t, p, q⟩ := h dk
  exact p.run pins s σ H D I (q Z ρ δ σ H A D st r)
def spLaw (K : PySem.W.Frag) : Sp := fun vs H Q _ => ∃ (a : Addr) (ns : List Int), vs = [.ref a] ∧ SqL K H a (ns.map V.int) ∧ ns.length ≤ 63 ∧ ∀ H', Q (.bl true) H'
theorem law_end {P : Program} {w : World} {K : PySem.W.Frag} {mg : Str → Option Value} {base : Heap} {ca : Nat → Addr} {st : Stmt} {f : Addr} {fd : FuncData} {N : List Str} {k m c e : Nat} {fb : SF} (F : Fun K "law" "law" st f fd) (S : FnScope N ["script"] (defScope st)) (hm : N.length = m + 2) (hc : c ≤ 100) (he : e ≤ 100)
    (hb : ∀ (cdv : Value) (A : Around) (outer : List Env) (s : Shared) (H : Hp) (E : XK), Room k (A.deeper (envOfC "law" (defScope st) s.heap.objs.size f cdv)) → PSs (cxOf (L2.CX P w) P w K mg base N "law" (defScope st) f cdv A outer s H E) (defBody st)
      (tSeq (tAsg (tCall (spDeck K) [] E0 (tCons (tVar 0) (tCons (tC (.int c)) (tCons (tC (.int e)) tNil)))) (gName 1)) (tCan K ca (fun cls d _ H => E cls d H) fb)))
    (hl : ∀ δ, Cards (c * e) δ → ∃ δ', fb (.un :: .dk :: uns m) δ = .rt (.bl true) δ') : FnOk P w K mg base (L2.CX P w) (k + 1) f fd ["script"] (spLaw K) := by
  refine F.okX S (fun vs H Q E h => ?_) fun cdv A outer s H vs Q E hr h => ⟨_, hb cdv A outer s H E hr, ?_⟩
  · obtain ⟨a, ns, rfl, _⟩ := h
    rfl
  · obtain ⟨a, ns, rfl, hS, hlen, q⟩ := h
    have e0 : L2.start N [.ref a] = some (.ref a) :: none :: List.replicate m none := by
      unfold L2.start
      rw [hm]
      show [some (V.ref a)] ++ List.replicate (m + 2 - 1) none = _
      have : m + 2 - 1 = m + 1 := by omega
      rw [this, List.replicate_succ]
      rfl
    rw [e0]
    refine ⟨.ref a, rfl, a, ns, c, e, rfl, hS, hlen, hc, he, fun H' p δ sm np cd ep => ?_⟩
    obtain ⟨δ', e1⟩ := hl δ cd
    refine ⟨p, fun _ => False, .un :: .dk :: uns m, δ, [], ⟨?_, .nil, (fun a m => nomatch m), (fun a z => z.elim), ep⟩, ?_⟩
    · have s2 : Slots K p H' (fun _ => False) (.un :: .dk :: uns m) (some (.ref a) :: some (.ref p) :: List.replicate m none) [] := .un (.cons (A := []) (B := []) .dk (slots_uns m))
      exact s2
    · rw [e1]
      intro v H2 Z2 A2 g on k r n fr
      cases r
      exact q _
theorem cx_false {P : Program} {w : World} {H : Hp} {s : Shared} {e : Value} {s' : Shared} (h : L2.CX P w [] H s (fun _ _ _ => False) e s') : False := by
  obtain ⟨_, _, _, _, _, _, _, _, _, _, _, _, h⟩ := h
  exact h
end Zv
namespace Zv
open PySem PySem.Spec PyProof.Rows L2 RZ

def topS (i : Nat) : Stmt := PySem.Challenge.pw_tablework_k91_whole_symmetry_classes.main.body.getD i (.Pass ⟨0, 0, 0, 0⟩)
abbrev F__law_take : FF := takeF

structure Tx (K : PySem.W.Frag) (mg : Str → Option Value) (a : Nat → Addr) (fd : Nat → FuncData) : Prop where
  f_ratio : Fun K "ratio" "ratio" (topS 1) (a 1) (fd 1)
  m_ratio : mg "ratio" = some (.ref (a 1))
  b_ratio : Binds K (fd 1) ["above", "below"] []
  f_count_box : Fun K "count_box" "count_box" (topS 2) (a 2) (fd 2)
  m_count_box : mg "count_box" = some (.ref (a 2))
  b_count_box : Binds K (fd 2) ["a", "b", "c"] []
  f_is_symmetric : Fun K "is_symmetric" "is_symmetric" (topS 3) (a 3) (fd 3)
  m_is_symmetric : mg "is_symmetric" = some (.ref (a 3))
  b_is_symmetric : Binds K (fd 3) ["rows"] []
  f_is_cyclic : Fun K "is_cyclic" "is_cyclic" (topS 4) (a 4) (fd 4)
  m_is_cyclic : mg "is_cyclic" = some (.ref (a 4))
  b_is_cyclic : Binds K (fd 4) ["rows"] []
  f_is_own_complement : Fun K "is_own_complement" "is_own_complement" (topS 5) (a 5) (fd 5)
  m_is_own_complement : mg "is_own_complement" = some (.ref (a 5))
  b_is_own_complement : Binds K (fd 5) ["rows", "c"] []
  f_count_symmetric : Fun K "count_symmetric" "count_symmetric" (topS 6) (a 6) (fd 6)
  m_count_symmetric : mg "count_symmetric" = some (.ref (a 6))
  b_count_symmetric : Binds K (fd 6) ["a", "c"] []
  f_count_cyclic : Fun K "count_cyclic" "count_cyclic" (topS 7) (a 7) (fd 7)
  m_count_cyclic : mg "count_cyclic" = some (.ref (a 7))
  b_count_cyclic : Binds K (fd 7) ["n"] []
  f_count_total : Fun K "count_total" "count_total" (topS 8) (a 8) (fd 8)
  m_count_total : mg "count_total" = some (.ref (a 8))
  b_count_total : Binds K (fd 8) ["n"] []
  f_count_own_complements : Fun K "count_own_complements" "count_own_complements" (topS 9) (a 9) (fd 9)
  m_count_own_complements : mg "count_own_complements" = some (.ref (a 9))
  b_count_own_complements : Binds K (fd 9) ["a", "b", "c"] []
  f__law_deck : Fun K "_law_deck" "_law_deck" (topS 11) (a 11) (fd 11)
  m__law_deck : mg "_law_deck" = some (.ref (a 11))
  b__law_deck : Binds K (fd 11) ["script", "cells", "each"] []
  f__law_take : Fun K "_law_take" "_law_take" (topS 12) (a 12) (fd 12)
  m__law_take : mg "_law_take" = some (.ref (a 12))
  b__law_take : Binds K (fd 12) ["deck", "many"] []
  f__law_plain : Fun K "_law_plain" "_law_plain" (topS 13) (a 13) (fd 13)
  m__law_plain : mg "_law_plain" = some (.ref (a 13))
  b__law_plain : Binds K (fd 13) ["value"] []
  f__law_rows : Fun K "_law_rows" "_law_rows" (topS 14) (a 14) (fd 14)
  m__law_rows : mg "_law_rows" = some (.ref (a 14))
  b__law_rows : Binds K (fd 14) ["width", "most"] []
  f__law_planes : Fun K "_law_planes" "_law_planes" (topS 15) (a 15) (fd 15)
  m__law_planes : mg "_law_planes" = some (.ref (a 15))
  b__law_planes : Binds K (fd 15) ["a", "b", "c"] []
  f__law_cells : Fun K "_law_cells" "_law_cells" (topS 16) (a 16) (fd 16)
  m__law_cells : mg "_law_cells" = some (.ref (a 16))
  b__law_cells : Binds K (fd 16) ["plane"] []
  f__law_symmetric : Fun K "_law_symmetric" "_law_symmetric" (topS 17) (a 17) (fd 17)
  m__law_symmetric : mg "_law_symmetric" = some (.ref (a 17))
  b__law_symmetric : Binds K (fd 17) ["plane"] []
  f__law_cyclic : Fun K "_law_cyclic" "_law_cyclic" (topS 18) (a 18) (fd 18)
  m__law_cyclic : mg "_law_cyclic" = some (.ref (a 18))
  b__law_cyclic : Binds K (fd 18) ["plane"] []
  f__law_own : Fun K "_law_own" "_law_own" (topS 19) (a 19) (fd 19)
  m__law_own : mg "_law_own" = some (.ref (a 19))
  b__law_own : Binds K (fd 19) ["plane", "a", "b", "c"] []
  f__law_products : Fun K "_law_products" "_law_products" (topS 20) (a 20) (fd 20)
  m__law_products : mg "_law_products" = some (.ref (a 20))
  b__law_products : Binds K (fd 20) ["a", "b", "c"] []
  z_abs : mg "abs" = none
  z_all : mg "all" = none
  z_bool : mg "bool" = none
  z_int : mg "int" = none
  z_isinstance : mg "isinstance" = none
  z_len : mg "len" = none
  z_list : mg "list" = none
  z_range : mg "range" = none
  z_sorted : mg "sorted" = none
  z_str : mg "str" = none
  z_tuple : mg "tuple" = none
  z_zip : mg "zip" = none

theorem sc_ratio : FnScope ["above", "below", "found", "number"] ["above", "below"] (defScope (topS 1)) := ⟨rfl, rfl, rfl, by decide +kernel, rfl, by decide +kernel, by decide +kernel⟩
def fb_ratio : SF := (sSeq (sSet 2 (eC (.int 1)))
    (frzS 0 (sSeq (sFor (iSeq (eVarB 0)) (tgN 3) (sAug 2 gIMul (eVarB 3)))
    (frzS 1 (sSeq (sFor (iSeq (eVarB 1)) (tgN 3) (sAug 2 gIDiv (eVarB 3)))
    (sRetV 2))))))
def F_ratio : FF := fnR 2 fb_ratio
theorem ok_ratio {P : Program} {w : World} {K : PySem.W.Frag} {mg : Str → Option Value} {base : Heap} {ca : Nat → Addr} {a : Nat → Addr} {fd : Nat → FuncData} (T : Tx K mg a fd)  : FnOk P w K mg base (L2.CX P w) 1 (a 1) (fd 1) ["above", "below"] (Prom K ca 2 F_ratio) :=
  fn_val (k := 0) T.f_ratio sc_ratio (n := 2) (m := 2) rfl rfl fun dk cdv A outer s H E hr => (by
    exact (css_cons (cs_set 2 sc_ratio.nd ce_int)
    (css_frz 0 (css_cons (cs_for (passes_of rfl) rfl (ci_seq (cb_var 0)) (cg_name 3 sc_ratio.nd) (css_one (cs_aug 2 sc_ratio.nd g_imul iop_mulW (cb_var 3))))
    (css_frz 1 (css_cons (cs_for (passes_of rfl) rfl (ci_seq (cb_var 1)) (cg_name 3 sc_ratio.nd) (css_one (cs_aug 2 sc_ratio.nd g_idiv iop_fdivW (cb_var 3))))
    (css_one (cs_retV 2))))))))

theorem sc_count_box : FnScope ["a", "b", "c", "sums", "i", "j", "k", "total"] ["a", "b", "c"] (defScope (topS 2)) := ⟨rfl, rfl, rfl, by decide +kernel, rfl, by decide +kernel, by decide +kernel⟩
def fb_count_box : SF := (sSeq (sSet 3 (eComp (iRange2 (eC (.int 1)) (eOp2 gAdd (eVarB 0) (eC (.int 1)))) (tgN 4) (eC (.bl true)) [4, 5, 6] (cFor (iRange2 (eC (.int 1)) (eOp2 gAdd (eVarB 1) (eC (.int 1)))) (tgN 5) (eC (.bl true)) [5, 6] (cFor (iRange2 (eC (.int 1)) (eOp2 gAdd (eVarB 2) (eC (.int 1)))) (tgN 6) (eC (.bl true)) [6] (cElt (eOp2 gAdd (eOp2 gAdd (eVarB 4) (eVarB 5)) (eVarB 6)))))))
    (frzS 3 (sRet (eCall F_ratio (aConsF (eComp (iSeq (eVarB 3)) (tgN 7) (eC (.bl true)) [7] (cElt (eOp2 gSub (eVarB 7) (eC (.int 1))))) (aConsF (eComp (iSeq (eVarB 3)) (tgN 7) (eC (.bl true)) [7] (cElt (eOp2 gSub (eVarB 7) (eC (.int 2))))) aNil))))))
def F_count_box : FF := fnR 5 fb_count_box
theorem ok_count_box {P : Program} {w : World} {K : PySem.W.Frag} {mg : Str → Option Value} {base : Heap} {ca : Nat → Addr} {a : Nat → Addr} {fd : Nat → FuncData} (T : Tx K mg a fd) (G_ratio : FnOk P w K mg base (L2.CX P w) 1 (a 1) (fd 1) ["above", "below"] (Prom K ca 2 F_ratio)) : FnOk P w K mg base (L2.CX P w) 2 (a 2) (fd 2) ["a", "b", "c"] (Prom K ca 3 F_count_box) :=
  fn_val (k := 1) T.f_count_box sc_count_box (n := 3) (m := 5) rfl rfl fun dk cdv A outer s H E hr => (by
    exact (css_cons (cs_setC 3 (own := [("i", 4), ("j", 5), ("k", 6)]) rfl sc_count_box.nd (ci_range2 (by rfl) T.z_range (ce_int).cb (ce_op op_add3 g_add (cb_var 0) (ce_int).cb).cb) (blkOk_by (by first | rfl | kernel_rfl)) (fun s H C cl fp => (cl_more rfl rfl rfl rfl (by intro _; rfl) (cg_name 4 sc_count_box.nd) cts_nil (ci_range2 (by rfl) T.z_range (ce_int).cb (ce_op op_add3 g_add (cb_var 1) (ce_int).cb).cb) (cl_more rfl rfl rfl rfl (by intro _; rfl) (cg_name 5 sc_count_box.nd) cts_nil (ci_range2 (by rfl) T.z_range (ce_int).cb (ce_op op_add3 g_add (cb_var 2) (ce_int).cb).cb) (cl_last rfl rfl rfl (cg_name 6 sc_count_box.nd) cts_nil (ce_op op_add3 g_add (ce_op op_add3 g_add (cb_var 4) (cb_var 5)).cb (cb_var 6)) rfl) rfl rfl) rfl rfl)))
    (css_frz 3 (css_one (cs_ret (ce_call (takes_of rfl rfl rfl rfl) G_ratio (hr.mono (by decide)) (by rfl) T.m_ratio T.f_ratio.kp T.b_ratio (caf_cons (ce_comp (own := [("total", 7)]) rfl sc_count_box.nd (ci_seq (cb_var 3)) (blkOk_by (by first | rfl | kernel_rfl)) (fun s H C cl fp => (cl_last rfl rfl rfl (cg_name 7 sc_count_box.nd) cts_nil (ce_op op_sub g_sub (cb_var 7) (ce_int).cb) rfl))) (caf_cons (ce_comp (own := [("total", 7)]) rfl sc_count_box.nd (ci_seq (cb_var 3)) (blkOk_by (by first | rfl | kernel_rfl)) (fun s H C cl fp => (cl_last rfl rfl rfl (cg_name 7 sc_count_box.nd) cts_nil (ce_op op_sub g_sub (cb_var 7) (ce_int).cb) rfl))) caf_nil)) (aLenF (aLenF aLen0))))))))

theorem sc_is_symmetric : FnScope ["rows", "size", "row", "i", "j"] ["rows"] (defScope (topS 3)) := ⟨rfl, rfl, rfl, by decide +kernel, rfl, by decide +kernel, by decide +kernel⟩
def fb_is_symmetric : SF := (sSeq (sSet 1 (eBlt gLen (aCons (eVarB 0) aNil)))
    (frzS 0 (sSeq (sIf (eTru (eComp (iSeq (eVarB 0)) (tgN 2) (eOp2 gNe (eBlt gLen (aCons (eVarB 2) aNil)) (eVarB 1)) [2] (cElt (eVarV 2)))) (sRet (eC (.bl false))) sNil)
    (sRet (eBlt gAll (aCons (eComp (iRange1 (eVarB 1)) (tgN 3) (eC (.bl true)) [3, 4] (cFor (iRange1 (eVarB 1)) (tgN 4) (eC (.bl true)) [4] (cElt (eOp2 gEq (eOp2 gIx (eOp2 gIx (eVarB 0) (eVarB 3)) (eVarB 4)) (eOp2 gIx (eOp2 gIx (eVarB 0) (eVarB 4)) (eVarB 3)))))) aNil))))))
def F_is_symmetric : FF := fnR 4 fb_is_symmetric
theorem ok_is_symmetric {P : Program} {w : World} {K : PySem.W.Frag} {mg : Str → Option Value} {base : Heap} {ca : Nat → Addr} {a : Nat → Addr} {fd : Nat → FuncData} (T : Tx K mg a fd)  : FnOk P w K mg base (L2.CX P w) 1 (a 3) (fd 3) ["rows"] (Prom K ca 1 F_is_symmetric) :=
  fn_val (k := 0) T.f_is_symmetric sc_is_symmetric (n := 1) (m := 4) rfl rfl fun dk cdv A outer s H E hr => (by
    exact (css_cons (cs_set 1 sc_is_symmetric.nd (ce_blt call_len4 g_len (by rfl) T.z_len PySem.boot_len (cab_cons (cb_var 0) cab_nil)))
    (css_frz 0 (css_cons (cs_if (ct_truth (ce_comp (own := [("row", 2)]) rfl sc_is_symmetric.nd (ci_seq (cb_var 0)) (blkOk_by (by first | rfl | kernel_rfl)) (fun s H C cl fp => (cl_last rfl rfl rfl (cg_name 2 sc_is_symmetric.nd) (cts_one (ct_cmp (op_neD (hu64 hr)) g_ne (ce_blt call_len4 g_len (by rfl) T.z_len PySem.boot_len (cab_cons (cb_var 2) cab_nil)).cb (cb_var 1) (by rfl))) (ce_var 2) rfl))).cb) (css_one (cs_ret ce_bl)) css_nil)
    (css_one (cs_ret (ce_blt (cr_all rfl) g_all (by rfl) T.z_all PyProof.Rows.boot_all (cab_cons (ce_comp (own := [("i", 3), ("j", 4)]) rfl sc_is_symmetric.nd (ci_range1 (by rfl) T.z_range (cb_var 1)) (blkOk_by (by first | rfl | kernel_rfl)) (fun s H C cl fp => (cl_more rfl rfl rfl rfl (by intro _; rfl) (cg_name 3 sc_is_symmetric.nd) cts_nil (ci_range1 (by rfl) T.z_range (cb_var 1)) (cl_last rfl rfl rfl (cg_name 4 sc_is_symmetric.nd) cts_nil (ce_cmp (op_eqD (hu64 hr)) g_eq (cb_ix (hu_of hr) (cb_ix (hu_of hr) (cb_var 0) (cb_var 3) (fun _ _ => rfl)) (cb_var 4) (fun _ _ => rfl)) (cb_ix (hu_of hr) (cb_ix (hu_of hr) (cb_var 0) (cb_var 4) (fun _ _ => rfl)) (cb_var 3) (fun _ _ => rfl)) (by rfl)) rfl) rfl rfl))).cb cab_nil))))))))

theorem sc_is_cyclic : FnScope ["rows", "cells", "i", "j", "k"] ["rows"] (defScope (topS 4)) := ⟨rfl, rfl, rfl, by decide +kernel, rfl, by decide +kernel, by decide +kernel⟩
def fb_is_cyclic : SF := (sSeq (sSet 1 (eC (.odt [])))
    (sSeq (sFor (iRange1 (eBlt gLen (aCons (eVarB 0) aNil))) (tgN 2) (sFor (iRange1 (eBlt gLen (aCons (eOp2 gIx (eVarB 0) (eVarB 2)) aNil))) (tgN 3) (sFor (iRange1 (eOp2 gIx (eOp2 gIx (eVarB 0) (eVarB 2)) (eVarB 3))) (tgN 4) (sDPutD 1 (eTup (aCons (eVarV 2) (aCons (eVarV 3) (aCons (eVarV 4) aNil)))) (eC (.bl true))))))
    (sRet (eBlt gAll (aCons (eLock 1 (eComp (iKeysD (eVarB 1)) (tgS 3 (tgCons (tgN 2) (tgCons (tgN 3) (tgCons (tgN 4) tgNil)))) (eC (.bl true)) [2, 3, 4] (cElt (eOp2 (gInB false) (eTup (aCons (eVarV 3) (aCons (eVarV 4) (aCons (eVarV 2) aNil)))) (eVarB 1))))) aNil)))))
def F_is_cyclic : FF := fnR 4 fb_is_cyclic
theorem ok_is_cyclic {P : Program} {w : World} {K : PySem.W.Frag} {mg : Str → Option Value} {base : Heap} {ca : Nat → Addr} {a : Nat → Addr} {fd : Nat → FuncData} (T : Tx K mg a fd)  : FnOk P w K mg base (L2.CX P w) 1 (a 4) (fd 4) ["rows"] (Prom K ca 1 F_is_cyclic) :=
  fn_val (k := 0) T.f_is_cyclic sc_is_cyclic (n := 1) (m := 4) rfl rfl fun dk cdv A outer s H E hr => (by
    exact (css_cons (cs_set 1 sc_is_cyclic.nd ce_dicT)
    (css_cons (cs_for (passes_of rfl) rfl (ci_range1 (by rfl) T.z_range (ce_blt call_len4 g_len (by rfl) T.z_len PySem.boot_len (cab_cons (cb_var 0) cab_nil)).cb) (cg_name 2 sc_is_cyclic.nd) (css_one (cs_for (passes_of rfl) rfl (ci_range1 (by rfl) T.z_range (ce_blt call_len4 g_len (by rfl) T.z_len PySem.boot_len (cab_cons (cb_ix (hu_of hr) (cb_var 0) (cb_var 2) (fun _ _ => rfl)) cab_nil)).cb) (cg_name 3 sc_is_cyclic.nd) (css_one (cs_for (passes_of rfl) rfl (ci_range1 (by rfl) T.z_range (cb_ix (hu_of hr) (cb_ix (hu_of hr) (cb_var 0) (cb_var 2) (fun _ _ => rfl)) (cb_var 3) (fun _ _ => rfl))) (cg_name 4 sc_is_cyclic.nd) (css_one (cs_dput 1 (hu_of hr) (ce_tup (cav_cons (ce_var 2) (cav_cons (ce_var 3) (cav_cons (ce_var 4) cav_nil)))).cb ce_bl)))))))
    (css_one (cs_ret (ce_blt (cr_all rfl) g_all (by rfl) T.z_all PyProof.Rows.boot_all (cab_cons (ce_lock 1 (ce_comp (own := [("i", 2), ("j", 3), ("k", 4)]) rfl sc_is_cyclic.nd (ci_keys (cb_var 1)) (blkOk_by (by first | rfl | kernel_rfl)) (fun s H C cl fp => (cl_last rfl rfl rfl (cg_seq rfl (cgs_cons (cg_name 2 sc_is_cyclic.nd) (cgs_cons (cg_name 3 sc_is_cyclic.nd) (cgs_cons (cg_name 4 sc_is_cyclic.nd) cgs_nil)))) cts_nil (ce_cmp (op_in3 (hu65 hr)) g_in (ce_tup (cav_cons (ce_var 3) (cav_cons (ce_var 4) (cav_cons (ce_var 2) cav_nil)))).cb (cb_var 1) (by rfl)) rfl)))).cb cab_nil)))))))

theorem sc_is_own_complement : FnScope ["rows", "c", "numbers", "row", "number", "other"] ["rows", "c"] (defScope (topS 5)) := ⟨rfl, rfl, rfl, by decide +kernel, rfl, by decide +kernel, by decide +kernel⟩
def fb_is_own_complement : SF := (frzS 0 (sSeq (sSet 2 (eComp (iSeq (eVarB 0)) (tgN 3) (eC (.bl true)) [3, 4] (cFor (iSeq (eVarB 3)) (tgN 4) (eC (.bl true)) [4] (cElt (eVarV 4)))))
    (sRet (eBlt gAll (aCons (eComp (iZip (aCons (eVarB 2) (aCons (eRevL (eVarB 2)) aNil))) (tgS 2 (tgCons (tgN 4) (tgCons (tgN 5) tgNil))) (eC (.bl true)) [4, 5] (cElt (eOp2 gEq (eOp2 gAdd (eVarB 4) (eVarB 5)) (eVarB 1)))) aNil)))))
def F_is_own_complement : FF := fnR 4 fb_is_own_complement
theorem ok_is_own_complement {P : Program} {w : World} {K : PySem.W.Frag} {mg : Str → Option Value} {base : Heap} {ca : Nat → Addr} {a : Nat → Addr} {fd : Nat → FuncData} (T : Tx K mg a fd)  : FnOk P w K mg base (L2.CX P w) 1 (a 5) (fd 5) ["rows", "c"] (Prom K ca 2 F_is_own_complement) :=
  fn_val (k := 0) T.f_is_own_complement sc_is_own_complement (n := 2) (m := 4) rfl rfl fun dk cdv A outer s H E hr => (by
    exact (css_frz 0 (css_cons (cs_setC 2 (own := [("row", 3), ("number", 4)]) rfl sc_is_own_complement.nd (ci_seq (cb_var 0)) (blkOk_by (by first | rfl | kernel_rfl)) (fun s H C cl fp => (cl_more rfl rfl rfl rfl (by intro _; rfl) (cg_name 3 sc_is_own_complement.nd) cts_nil (ci_seq (cb_var 3)) (cl_last rfl rfl rfl (cg_name 4 sc_is_own_complement.nd) cts_nil (ce_var 4) rfl) rfl rfl)))
    (css_one (cs_ret (ce_blt (cr_all rfl) g_all (by rfl) T.z_all PyProof.Rows.boot_all (cab_cons (ce_comp (own := [("number", 4), ("other", 5)]) rfl sc_is_own_complement.nd (ci_zip (by rfl) T.z_zip (cab_cons (cb_var 2) (cab_cons (ce_revL (cb_var 2)).cb cab_nil))) (blkOk_by (by first | rfl | kernel_rfl)) (fun s H C cl fp => (cl_last rfl rfl rfl (cg_seq rfl (cgs_cons (cg_name 4 sc_is_own_complement.nd) (cgs_cons (cg_name 5 sc_is_own_complement.nd) cgs_nil))) cts_nil (ce_cmp (op_eqD (hu64 hr)) g_eq (ce_op op_add3 g_add (cb_var 4) (cb_var 5)).cb (cb_var 1) (by rfl)) rfl))).cb cab_nil)))))))

theorem sc_count_symmetric : FnScope ["a", "c", "sums", "i", "j", "total"] ["a", "c"] (defScope (topS 6)) := ⟨rfl, rfl, rfl, by decide +kernel, rfl, by decide +kernel, by decide +kernel⟩
def fb_count_symmetric : SF := (sSeq (sSet 2 (eComp (iRange2 (eC (.int 1)) (eOp2 gAdd (eVarB 0) (eC (.int 1)))) (tgN 3) (eC (.bl true)) [3, 4] (cFor (iRange2 (eVarB 3) (eOp2 gAdd (eVarB 0) (eC (.int 1)))) (tgN 4) (eC (.bl true)) [4] (cElt (eOp2 gAdd (eVarB 3) (eVarB 4))))))
    (frzS 2 (sRet (eCall F_ratio (aConsF (eComp (iSeq (eVarB 2)) (tgN 5) (eC (.bl true)) [5] (cElt (eOp2 gSub (eOp2 gAdd (eVarB 5) (eVarB 1)) (eC (.int 1))))) (aConsF (eComp (iSeq (eVarB 2)) (tgN 5) (eC (.bl true)) [5] (cElt (eOp2 gSub (eVarB 5) (eC (.int 1))))) aNil))))))
def F_count_symmetric : FF := fnR 4 fb_count_symmetric
theorem ok_count_symmetric {P : Program} {w : World} {K : PySem.W.Frag} {mg : Str → Option Value} {base : Heap} {ca : Nat → Addr} {a : Nat → Addr} {fd : Nat → FuncData} (T : Tx K mg a fd) (G_ratio : FnOk P w K mg base (L2.CX P w) 1 (a 1) (fd 1) ["above", "below"] (Prom K ca 2 F_ratio)) : FnOk P w K mg base (L2.CX P w) 2 (a 6) (fd 6) ["a", "c"] (Prom K ca 2 F_count_symmetric) :=
  fn_val (k := 1) T.f_count_symmetric sc_count_symmetric (n := 2) (m := 4) rfl rfl fun dk cdv A outer s H E hr => (by
    exact (css_cons (cs_setC 2 (own := [("i", 3), ("j", 4)]) rfl sc_count_symmetric.nd (ci_range2 (by rfl) T.z_range (ce_int).cb (ce_op op_add3 g_add (cb_var 0) (ce_int).cb).cb) (blkOk_by (by first | rfl | kernel_rfl)) (fun s H C cl fp => (cl_more rfl rfl rfl rfl (by intro _; rfl) (cg_name 3 sc_count_symmetric.nd) cts_nil (ci_range2 (by rfl) T.z_range (cb_var 3) (ce_op op_add3 g_add (cb_var 0) (ce_int).cb).cb) (cl_last rfl rfl rfl (cg_name 4 sc_count_symmetric.nd) cts_nil (ce_op op_add3 g_add (cb_var 3) (cb_var 4)) rfl) rfl rfl)))
    (css_frz 2 (css_one (cs_ret (ce_call (takes_of rfl rfl rfl rfl) G_ratio (hr.mono (by decide)) (by rfl) T.m_ratio T.f_ratio.kp T.b_ratio (caf_cons (ce_comp (own := [("total", 5)]) rfl sc_count_symmetric.nd (ci_seq (cb_var 2)) (blkOk_by (by first | rfl | kernel_rfl)) (fun s H C cl fp => (cl_last rfl rfl rfl (cg_name 5 sc_count_symmetric.nd) cts_nil (ce_op op_sub g_sub (ce_op op_add3 g_add (cb_var 5) (cb_var 1)).cb (ce_int).cb) rfl))) (caf_cons (ce_comp (own := [("total", 5)]) rfl sc_count_symmetric.nd (ci_seq (cb_var 2)) (blkOk_by (by first | rfl | kernel_rfl)) (fun s H C cl fp => (cl_last rfl rfl rfl (cg_name 5 sc_count_symmetric.nd) cts_nil (ce_op op_sub g_sub (cb_var 5) (ce_int).cb) rfl))) caf_nil)) (aLenF (aLenF aLen0))))))))

theorem sc_count_cyclic : FnScope ["n", "above", "below", "i", "j"] ["n"] (defScope (topS 7)) := ⟨rfl, rfl, rfl, by decide +kernel, rfl, by decide +kernel, by decide +kernel⟩
def fb_count_cyclic : SF := (sSeq (sSet 1 (eLst aNil))
    (sSeq (sSet 2 (eLst aNil))
    (sSeq (sFor (iRange2 (eC (.int 1)) (eOp2 gAdd (eVarB 0) (eC (.int 1)))) (tgN 3) (sSeq (sApp 1 (eOp2 gSub (eOp2 gMul (eC (.int 3)) (eVarB 3)) (eC (.int 1))))
    (sSeq (sApp 2 (eOp2 gSub (eOp2 gMul (eC (.int 3)) (eVarB 3)) (eC (.int 2))))
    (sFor (iRange2 (eVarB 3) (eOp2 gAdd (eVarB 0) (eC (.int 1)))) (tgN 4) (sSeq (sApp 1 (eOp2 gSub (eOp2 gAdd (eOp2 gAdd (eVarB 0) (eVarB 3)) (eVarB 4)) (eC (.int 1))))
    (sApp 2 (eOp2 gSub (eOp2 gAdd (eOp2 gMul (eC (.int 2)) (eVarB 3)) (eVarB 4)) (eC (.int 1)))))))))
    (sRet (eCall F_ratio (aConsL (eVarB 1) (aConsL (eVarB 2) aNil)))))))
def F_count_cyclic : FF := fnR 4 fb_count_cyclic
theorem ok_count_cyclic {P : Program} {w : World} {K : PySem.W.Frag} {mg : Str → Option Value} {base : Heap} {ca : Nat → Addr} {a : Nat → Addr} {fd : Nat → FuncData} (T : Tx K mg a fd) (G_ratio : FnOk P w K mg base (L2.CX P w) 1 (a 1) (fd 1) ["above", "below"] (Prom K ca 2 F_ratio)) : FnOk P w K mg base (L2.CX P w) 2 (a 7) (fd 7) ["n"] (Prom K ca 1 F_count_cyclic) :=
  fn_val (k := 1) T.f_count_cyclic sc_count_cyclic (n := 1) (m := 4) rfl rfl fun dk cdv A outer s H E hr => (by
    exact (css_cons (cs_set 1 sc_count_cyclic.nd (ce_lst cav_nil))
    (css_cons (cs_set 2 sc_count_cyclic.nd (ce_lst cav_nil))
    (css_cons (cs_for (passes_of rfl) rfl (ci_range2 (by rfl) T.z_range (ce_int).cb (ce_op op_add3 g_add (cb_var 0) (ce_int).cb).cb) (cg_name 3 sc_count_cyclic.nd) (css_cons (cs_append 1 (ce_op op_sub g_sub (ce_op op_mul2 g_mul (ce_int).cb (cb_var 3)).cb (ce_int).cb))
    (css_cons (cs_append 2 (ce_op op_sub g_sub (ce_op op_mul2 g_mul (ce_int).cb (cb_var 3)).cb (ce_int).cb))
    (css_one (cs_for (passes_of rfl) rfl (ci_range2 (by rfl) T.z_range (cb_var 3) (ce_op op_add3 g_add (cb_var 0) (ce_int).cb).cb) (cg_name 4 sc_count_cyclic.nd) (css_cons (cs_append 1 (ce_op op_sub g_sub (ce_op op_add3 g_add (ce_op op_add3 g_add (cb_var 0) (cb_var 3)).cb (cb_var 4)).cb (ce_int).cb))
    (css_one (cs_append 2 (ce_op op_sub g_sub (ce_op op_add3 g_add (ce_op op_mul2 g_mul (ce_int).cb (cb_var 3)).cb (cb_var 4)).cb (ce_int).cb)))))))))
    (css_one (cs_ret (ce_call (takes_of rfl rfl rfl rfl) G_ratio (hr.mono (by decide)) (by rfl) T.m_ratio T.f_ratio.kp T.b_ratio (caf_lend (cb_var 1) (caf_lend (cb_var 2) caf_nil)) (aLenL (aLenL aLen0)))))))))

theorem sc_count_total : FnScope ["n", "sums", "i", "j", "k", "total"] ["n"] (defScope (topS 8)) := ⟨rfl, rfl, rfl, by decide +kernel, rfl, by decide +kernel, by decide +kernel⟩
def fb_count_total : SF := (sSeq (sSet 1 (eComp (iRange2 (eC (.int 1)) (eOp2 gAdd (eVarB 0) (eC (.int 1)))) (tgN 2) (eC (.bl true)) [2, 3, 4] (cFor (iRange2 (eVarB 2) (eOp2 gAdd (eVarB 0) (eC (.int 1)))) (tgN 3) (eC (.bl true)) [3, 4] (cFor (iRange2 (eVarB 3) (eOp2 gAdd (eVarB 0) (eC (.int 1)))) (tgN 4) (eC (.bl true)) [4] (cElt (eOp2 gAdd (eOp2 gAdd (eVarB 2) (eVarB 3)) (eVarB 4)))))))
    (frzS 1 (sRet (eCall F_ratio (aConsF (eComp (iSeq (eVarB 1)) (tgN 5) (eC (.bl true)) [5] (cElt (eOp2 gSub (eVarB 5) (eC (.int 1))))) (aConsF (eComp (iSeq (eVarB 1)) (tgN 5) (eC (.bl true)) [5] (cElt (eOp2 gSub (eVarB 5) (eC (.int 2))))) aNil))))))
def F_count_total : FF := fnR 5 fb_count_total
theorem ok_count_total {P : Program} {w : World} {K : PySem.W.Frag} {mg : Str → Option Value} {base : Heap} {ca : Nat → Addr} {a : Nat → Addr} {fd : Nat → FuncData} (T : Tx K mg a fd) (G_ratio : FnOk P w K mg base (L2.CX P w) 1 (a 1) (fd 1) ["above", "below"] (Prom K ca 2 F_ratio)) : FnOk P w K mg base (L2.CX P w) 2 (a 8) (fd 8) ["n"] (Prom K ca 1 F_count_total) :=
  fn_val (k := 1) T.f_count_total sc_count_total (n := 1) (m := 5) rfl rfl fun dk cdv A outer s H E hr => (by
    exact (css_cons (cs_setC 1 (own := [("i", 2), ("j", 3), ("k", 4)]) rfl sc_count_total.nd (ci_range2 (by rfl) T.z_range (ce_int).cb (ce_op op_add3 g_add (cb_var 0) (ce_int).cb).cb) (blkOk_by (by first | rfl | kernel_rfl)) (fun s H C cl fp => (cl_more rfl rfl rfl rfl (by intro _; rfl) (cg_name 2 sc_count_total.nd) cts_nil (ci_range2 (by rfl) T.z_range (cb_var 2) (ce_op op_add3 g_add (cb_var 0) (ce_int).cb).cb) (cl_more rfl rfl rfl rfl (by intro _; rfl) (cg_name 3 sc_count_total.nd) cts_nil (ci_range2 (by rfl) T.z_range (cb_var 3) (ce_op op_add3 g_add (cb_var 0) (ce_int).cb).cb) (cl_last rfl rfl rfl (cg_name 4 sc_count_total.nd) cts_nil (ce_op op_add3 g_add (ce_op op_add3 g_add (cb_var 2) (cb_var 3)).cb (cb_var 4)) rfl) rfl rfl) rfl rfl)))
    (css_frz 1 (css_one (cs_ret (ce_call (takes_of rfl rfl rfl rfl) G_ratio (hr.mono (by decide)) (by rfl) T.m_ratio T.f_ratio.kp T.b_ratio (caf_cons (ce_comp (own := [("total", 5)]) rfl sc_count_total.nd (ci_seq (cb_var 1)) (blkOk_by (by first | rfl | kernel_rfl)) (fun s H C cl fp => (cl_last rfl rfl rfl (cg_name 5 sc_count_total.nd) cts_nil (ce_op op_sub g_sub (cb_var 5) (ce_int).cb) rfl))) (caf_cons (ce_comp (own := [("total", 5)]) rfl sc_count_total.nd (ci_seq (cb_var 1)) (blkOk_by (by first | rfl | kernel_rfl)) (fun s H C cl fp => (cl_last rfl rfl rfl (cg_name 5 sc_count_total.nd) cts_nil (ce_op op_sub g_sub (cb_var 5) (ce_int).cb) rfl))) caf_nil)) (aLenF (aLenF aLen0))))))))

theorem sc_count_own_complements : FnScope ["a", "b", "c", "sides", "many", "one", "two", "three", "side"] ["a", "b", "c"] (defScope (topS 9)) := ⟨rfl, rfl, rfl, by decide +kernel, rfl, by decide +kernel, by decide +kernel⟩
def fb_count_own_complements : SF := (sSeq (sSet 3 (eCatF (eComp (iSeqF (eTup (aCons (eVarV 0) (aCons (eVarV 1) (aCons (eVarV 2) aNil))))) (tgN 8) (eOp2 gEq (eOp2 gMod (eVarB 8) (eC (.int 2))) (eC (.int 1))) [8] (cElt (eVarV 8))) (eComp (iSeqF (eTup (aCons (eVarV 0) (aCons (eVarV 1) (aCons (eVarV 2) aNil))))) (tgN 8) (eOp2 gEq (eOp2 gMod (eVarB 8) (eC (.int 2))) (eC (.int 0))) [8] (cElt (eVarV 8)))))
    (frzS 3 (sSeq (sSet 4 (eBlt gLen (aCons (eComp (iSeq (eVarB 3)) (tgN 8) (eOp2 gEq (eOp2 gMod (eVarB 8) (eC (.int 2))) (eC (.int 1))) [8] (cElt (eVarV 8))) aNil)))
    (frzS 3 (sSeq (sAsg (eComp (iSeq (eVarB 3)) (tgN 8) (eC (.bl true)) [8] (cElt (eOp2 gDiv (eVarB 8) (eC (.int 2))))) (tgS 3 (tgCons (tgN 5) (tgCons (tgN 6) (tgCons (tgN 7) tgNil)))))
    (sSeq (sIf (eOp2 gEq (eVarB 4) (eC (.int 0))) (sRet (eOp2 gMul (eCall F_count_box (aConsL (eVarB 5) (aConsL (eVarB 6) (aConsL (eVarB 7) aNil)))) (eCall F_count_box (aConsL (eVarB 5) (aConsL (eVarB 6) (aConsL (eVarB 7) aNil)))))) sNil)
    (sSeq (sIf (eOp2 gEq (eVarB 4) (eC (.int 1))) (sRet (eOp2 gMul (eCall F_count_box (aConsL (eVarB 5) (aConsL (eVarB 6) (aConsL (eVarB 7) aNil)))) (eCall F_count_box (aConsF (eOp2 gAdd (eVarB 5) (eC (.int 1))) (aConsL (eVarB 6) (aConsL (eVarB 7) aNil)))))) sNil)
    (sSeq (sIf (eOp2 gEq (eVarB 4) (eC (.int 2))) (sRet (eOp2 gMul (eCall F_count_box (aConsF (eOp2 gAdd (eVarB 5) (eC (.int 1))) (aConsL (eVarB 6) (aConsL (eVarB 7) aNil)))) (eCall F_count_box (aConsL (eVarB 5) (aConsF (eOp2 gAdd (eVarB 6) (eC (.int 1))) (aConsL (eVarB 7) aNil)))))) sNil)
    (sRet (eC (.int 0)))))))))))
def F_count_own_complements : FF := fnR 6 fb_count_own_complements
theorem ok_count_own_complements {P : Program} {w : World} {K : PySem.W.Frag} {mg : Str → Option Value} {base : Heap} {ca : Nat → Addr} {a : Nat → Addr} {fd : Nat → FuncData} (T : Tx K mg a fd) (G_count_box : FnOk P w K mg base (L2.CX P w) 2 (a 2) (fd 2) ["a", "b", "c"] (Prom K ca 3 F_count_box)) : FnOk P w K mg base (L2.CX P w) 3 (a 9) (fd 9) ["a", "b", "c"] (Prom K ca 3 F_count_own_complements) :=
  fn_val (k := 2) T.f_count_own_complements sc_count_own_complements (n := 3) (m := 6) rfl rfl fun dk cdv A outer s H E hr => (by
    exact (css_cons (cs_set 3 sc_count_own_complements.nd (ce_catF (ce_comp (own := [("side", 8)]) rfl sc_count_own_complements.nd (ci_seqF (ce_tup (cav_cons (ce_var 0) (cav_cons (ce_var 1) (cav_cons (ce_var 2) cav_nil))))) (blkOk_by (by first | rfl | kernel_rfl)) (fun s H C cl fp => (cl_last rfl rfl rfl (cg_name 8 sc_count_own_complements.nd) (cts_one (ct_cmp (op_eqD (hu64 hr)) g_eq (ce_op op_mod g_mod (cb_var 8) (ce_int).cb).cb (ce_int).cb (by rfl))) (ce_var 8) rfl))) (ce_comp (own := [("side", 8)]) rfl sc_count_own_complements.nd (ci_seqF (ce_tup (cav_cons (ce_var 0) (cav_cons (ce_var 1) (cav_cons (ce_var 2) cav_nil))))) (blkOk_by (by first | rfl | kernel_rfl)) (fun s H C cl fp => (cl_last rfl rfl rfl (cg_name 8 sc_count_own_complements.nd) (cts_one (ct_cmp (op_eqD (hu64 hr)) g_eq (ce_op op_mod g_mod (cb_var 8) (ce_int).cb).cb (ce_int).cb (by rfl))) (ce_var 8) rfl)))))
    (css_frz 3 (css_cons (cs_set 4 sc_count_own_complements.nd (ce_blt call_len4 g_len (by rfl) T.z_len PySem.boot_len (cab_cons (ce_comp (own := [("side", 8)]) rfl sc_count_own_complements.nd (ci_seq (cb_var 3)) (blkOk_by (by first | rfl | kernel_rfl)) (fun s H C cl fp => (cl_last rfl rfl rfl (cg_name 8 sc_count_own_complements.nd) (cts_one (ct_cmp (op_eqD (hu64 hr)) g_eq (ce_op op_mod g_mod (cb_var 8) (ce_int).cb).cb (ce_int).cb (by rfl))) (ce_var 8) rfl))).cb cab_nil)))
    (css_frz 3 (css_cons (cs_asg (ce_comp (own := [("side", 8)]) rfl sc_count_own_complements.nd (ci_seq (cb_var 3)) (blkOk_by (by first | rfl | kernel_rfl)) (fun s H C cl fp => (cl_last rfl rfl rfl (cg_name 8 sc_count_own_complements.nd) cts_nil (ce_op op_div2 g_div (cb_var 8) (ce_int).cb) rfl))) (cg_seq rfl (cgs_cons (cg_name 5 sc_count_own_complements.nd) (cgs_cons (cg_name 6 sc_count_own_complements.nd) (cgs_cons (cg_name 7 sc_count_own_complements.nd) cgs_nil)))))
    (css_cons (cs_if (ct_cmp (op_eqD (hu64 hr)) g_eq (cb_var 4) (ce_int).cb (by rfl)) (css_one (cs_ret (ce_op op_mul2 g_mul (ce_call (takes_of rfl rfl rfl rfl) G_count_box (hr.mono (by decide)) (by rfl) T.m_count_box T.f_count_box.kp T.b_count_box (caf_lend (cb_var 5) (caf_lend (cb_var 6) (caf_lend (cb_var 7) caf_nil))) (aLenL (aLenL (aLenL aLen0)))).cb (ce_call (takes_of rfl rfl rfl rfl) G_count_box (hr.mono (by decide)) (by rfl) T.m_count_box T.f_count_box.kp T.b_count_box (caf_lend (cb_var 5) (caf_lend (cb_var 6) (caf_lend (cb_var 7) caf_nil))) (aLenL (aLenL (aLenL aLen0)))).cb))) css_nil)
    (css_cons (cs_if (ct_cmp (op_eqD (hu64 hr)) g_eq (cb_var 4) (ce_int).cb (by rfl)) (css_one (cs_ret (ce_op op_mul2 g_mul (ce_call (takes_of rfl rfl rfl rfl) G_count_box (hr.mono (by decide)) (by rfl) T.m_count_box T.f_count_box.kp T.b_count_box (caf_lend (cb_var 5) (caf_lend (cb_var 6) (caf_lend (cb_var 7) caf_nil))) (aLenL (aLenL (aLenL aLen0)))).cb (ce_call (takes_of rfl rfl rfl rfl) G_count_box (hr.mono (by decide)) (by rfl) T.m_count_box T.f_count_box.kp T.b_count_box (caf_cons (ce_op op_add3 g_add (cb_var 5) (ce_int).cb) (caf_lend (cb_var 6) (caf_lend (cb_var 7) caf_nil))) (aLenF (aLenL (aLenL aLen0)))).cb))) css_nil)
    (css_cons (cs_if (ct_cmp (op_eqD (hu64 hr)) g_eq (cb_var 4) (ce_int).cb (by rfl)) (css_one (cs_ret (ce_op op_mul2 g_mul (ce_call (takes_of rfl rfl rfl rfl) G_count_box (hr.mono (by decide)) (by rfl) T.m_count_box T.f_count_box.kp T.b_count_box (caf_cons (ce_op op_add3 g_add (cb_var 5) (ce_int).cb) (caf_lend (cb_var 6) (caf_lend (cb_var 7) caf_nil))) (aLenF (aLenL (aLenL aLen0)))).cb (ce_call (takes_of rfl rfl rfl rfl) G_count_box (hr.mono (by decide)) (by rfl) T.m_count_box T.f_count_box.kp T.b_count_box (caf_lend (cb_var 5) (caf_cons (ce_op op_add3 g_add (cb_var 6) (ce_int).cb) (caf_lend (cb_var 7) caf_nil))) (aLenL (aLenF (aLenL aLen0)))).cb))) css_nil)
    (css_one (cs_ret ce_int)))))))))))

theorem sc__law_deck : FnScope ["script", "cells", "each", "deck", "seed", "k", "cell", "rest", "at"] ["script", "cells", "each"] (defScope (topS 11)) := ⟨rfl, rfl, rfl, by decide +kernel, rfl, by decide +kernel, by decide +kernel⟩
theorem sc__law_take : FnScope ["deck", "many"] ["deck", "many"] (defScope (topS 12)) := ⟨rfl, rfl, rfl, by decide +kernel, rfl, by decide +kernel, by decide +kernel⟩
theorem sc__law_plain : FnScope ["value", "item"] ["value"] (defScope (topS 13)) := ⟨rfl, rfl, rfl, by decide +kernel, rfl, by decide +kernel, by decide +kernel⟩
def fb__law_plain (n : Nat) (F__law_plain : Nat → FF) : SF := (sSeq (sIf (eTru (eIsi [0, 1] (eVarB 0))) (frzS 0 (sRet (eCatF (eLst (aCons (eIsi [1] (eVarB 0)) aNil)) (eComp (iSeq (eVarB 0)) (tgN 1) (eC (.bl true)) [1] (cElt (eCall (F__law_plain n) (aConsL (eVarB 1) aNil))))))) sNil)
    (sSeq (sIf (eOr (eOp2 gIs (eVarB 0) (eC .non)) (eTru (eIsi [2] (eVarB 0)))) (sRet (eOp2 gIxV (eLst (aCons (eC (.str 0)) (aCons (eC (.str 1)) (aCons (eC (.str 2)) aNil)))) (eOp2 gAdd (eBlt gInt (aCons (eOp2 gIsN (eVarB 0) (eC .non)) aNil)) (eBlt gInt (aCons (eOp2 gIs (eVarB 0) (eC (.bl true))) aNil))))) sNil)
    (sSeq (sIf (eTru (eIsi [3, 4] (eVarB 0))) (sRet (eLst (aCons (eIsi [4] (eVarB 0)) (aCons (eVarV 0) aNil)))) sNil)
    (sRet (eC (.str 3))))))
def F__law_plain : Nat → FF
  | 0 => fun _ _ => .err
  | n + 1 => fnR 1 (fb__law_plain n fun _ => F__law_plain n)
theorem ok__law_plain {P : Program} {w : World} {K : PySem.W.Frag} {mg : Str → Option Value} {base : Heap} {ca : Nat → Addr} {a : Nat → Addr} {fd : Nat → FuncData} (T : Tx K mg a fd)  : ∀ n, FnOk P w K mg base (L2.CX P w) (1 + n) (a 13) (fd 13) ["value"] (Prom K ca 1 (F__law_plain n))
  | 0 => fn_err rfl
  | n + 1 => by
    have IH := ok__law_plain T  n (P := P) (w := w) (base := base) (ca := ca)
    exact fn_val T.f__law_plain sc__law_plain (n := 1) (m := 1) rfl rfl fun dk cdv A outer s H E hr => (by
    exact (css_cons (cs_if (ct_truth (ce_isi2 0 1 (by decide) (by decide) (by rfl) T.z_isinstance (by rfl) T.z_tuple boot_tuple (by rfl) T.z_list boot_list (cb_var 0)).cb) (css_frz 0 (css_one (cs_ret (ce_catF (ce_lst (cav_cons (ce_isi1 1 (by decide) (by rfl) T.z_isinstance (by rfl) T.z_list boot_list (cb_var 0)) cav_nil)) (ce_comp (own := [("item", 1)]) rfl sc__law_plain.nd (ci_seq (cb_var 0)) (blkOk_by (by first | rfl | kernel_rfl)) (fun s H C cl fp => (cl_last rfl rfl rfl (cg_name 1 sc__law_plain.nd) cts_nil (ce_call takes0 IH (hr.mono (Nat.le_refl _)) (by rfl) T.m__law_plain T.f__law_plain.kp T.b__law_plain (caf_lend (cb_var 1) caf_nil) (aLenL aLen0)) rfl))))))) css_nil)
    (css_cons (cs_if (CW.ct (cw_or (ct_cmp op_is2 g_is (cb_var 0) (ce_non).cb (by rfl)) (cw_or1 (ct_truth (ce_isi1 2 (by decide) (by rfl) T.z_isinstance (by rfl) T.z_bool boot_bool (cb_var 0)).cb)))) (css_one (cs_ret (ce_ix (hu_of hr) (ce_lst (cav_cons (ce_str 0) (cav_cons (ce_str 1) (cav_cons (ce_str 2) cav_nil)))).cb (ce_op op_add3 g_add (ce_ty call_int1 g_int1 (by rfl) T.z_int boot_int (cab_cons (ce_cmp op_isN2 g_isN (cb_var 0) (ce_non).cb (by rfl)).cb cab_nil)).cb (ce_ty call_int1 g_int1 (by rfl) T.z_int boot_int (cab_cons (ce_cmp op_is2 g_is (cb_var 0) (ce_bl).cb (by rfl)).cb cab_nil)).cb).cb (fun _ _ => rfl)))) css_nil)
    (css_cons (cs_if (ct_truth (ce_isi2 3 4 (by decide) (by decide) (by rfl) T.z_isinstance (by rfl) T.z_int boot_int (by rfl) T.z_str boot_str (cb_var 0)).cb) (css_one (cs_ret (ce_lst (cav_cons (ce_isi1 4 (by decide) (by rfl) T.z_isinstance (by rfl) T.z_str boot_str (cb_var 0)) (cav_cons (ce_var 0) cav_nil))))) css_nil)
    (css_one (cs_ret (ce_str 3)))))))

theorem sc__law_rows : FnScope ["width", "most", "found", "turn", "longer", "row", "highest", "number"] ["width", "most"] (defScope (topS 14)) := ⟨rfl, rfl, rfl, by decide +kernel, rfl, by decide +kernel, by decide +kernel⟩
def fb__law_rows : SF := (sSeq (sSet 2 (eLst (aCons (eTup aNil) aNil)))
    (sSeq (sFor (iRange1 (eVarB 0)) (tgN 3) (sSeq (sSet 4 (eLst aNil))
    (frzS 2 (sSeq (sFor (iSeq (eVarB 2)) (tgN 5) (sSeq (sSet 6 (eIf (eOp2 gGt (eBlt gLen (aCons (eVarB 5) aNil)) (eC (.int 0))) (eOp2 gIxV (eVarB 5) (eNeg (eC (.int 1)))) (eVarV 1)))
    (sExt 4 (eComp (iRange1 (eOp2 gAdd (eVarB 6) (eC (.int 1)))) (tgN 7) (eC (.bl true)) [7] (cElt (eOp2 gAdd (eVarB 5) (eTup (aCons (eVarV 7) aNil))))))))
    (sMove 4 2)))))
    (sRetV 2)))
def F__law_rows : FF := fnR 6 fb__law_rows
theorem ok__law_rows {P : Program} {w : World} {K : PySem.W.Frag} {mg : Str → Option Value} {base : Heap} {ca : Nat → Addr} {a : Nat → Addr} {fd : Nat → FuncData} (T : Tx K mg a fd)  : FnOk P w K mg base (L2.CX P w) 1 (a 14) (fd 14) ["width", "most"] (Prom K ca 2 F__law_rows) :=
  fn_val (k := 0) T.f__law_rows sc__law_rows (n := 2) (m := 6) rfl rfl fun dk cdv A outer s H E hr => (by
    exact (css_cons (cs_set 2 sc__law_rows.nd (ce_lst (cav_cons (ce_tup cav_nil) cav_nil)))
    (css_cons (cs_for (passes_of rfl) rfl (ci_range1 (by rfl) T.z_range (cb_var 0)) (cg_name 3 sc__law_rows.nd) (css_cons (cs_set 4 sc__law_rows.nd (ce_lst cav_nil))
    (css_frz 2 (css_cons (cs_for (passes_of rfl) rfl (ci_seq (cb_var 2)) (cg_name 5 sc__law_rows.nd) (css_cons (cs_set 6 sc__law_rows.nd (ce_if (ct_cmp op_gt g_int (ce_blt call_len4 g_len (by rfl) T.z_len PySem.boot_len (cab_cons (cb_var 5) cab_nil)).cb (ce_int).cb (by rfl)) (ce_ix (hu_of hr) (cb_var 5) (ce_neg (ce_int).cb).cb (fun _ _ => rfl)) (ce_var 1)))
    (css_one (cs_extend 4 (ce_comp (own := [("number", 7)]) rfl sc__law_rows.nd (ci_range1 (by rfl) T.z_range (ce_op op_add3 g_add (cb_var 6) (ce_int).cb).cb) (blkOk_by (by first | rfl | kernel_rfl)) (fun s H C cl fp => (cl_last rfl rfl rfl (cg_name 7 sc__law_rows.nd) cts_nil (ce_op op_add3 g_add (cb_var 5) (ce_tup (cav_cons (ce_var 7) cav_nil)).cb) rfl)))))))
    (css_one (cs_move 4 2 sc__law_rows.nd))))))
    (css_one (cs_retV 2)))))

theorem sc__law_planes : FnScope ["a", "b", "c", "found", "turn", "longer", "plane", "row", "low", "high"] ["a", "b", "c"] (defScope (topS 15)) := ⟨rfl, rfl, rfl, by decide +kernel, rfl, by decide +kernel, by decide +kernel⟩
def fb__law_planes : SF := (sSeq (sSet 3 (eLst (aCons (eTup aNil) aNil)))
    (sSeq (sFor (iRange1 (eVarB 0)) (tgN 4) (sSeq (sSet 5 (eLst aNil))
    (frzS 3 (sSeq (sFor (iSeq (eVarB 3)) (tgN 6) (sFor (iSeqF (eCall F__law_rows (aConsL (eVarB 1) (aConsL (eVarB 2) aNil)))) (tgN 7) (sIf (eOr (eOp2 gEq (eBlt gLen (aCons (eVarB 6) aNil)) (eC (.int 0))) (eOp2 gEq (eBlt gLen (aCons (eComp (iZip (aCons (eVarB 7) (aCons (eOp2 gIx (eVarB 6) (eNeg (eC (.int 1)))) aNil))) (tgS 2 (tgCons (tgN 8) (tgCons (tgN 9) tgNil))) (eOp2 gGt (eVarB 8) (eVarB 9)) [8, 9] (cElt (eC (.int 1)))) aNil)) (eC (.int 0)))) (sApp 5 (eOp2 gAdd (eVarB 6) (eTup (aCons (eVarV 7) aNil)))) sNil)))
    (sMove 5 3)))))
    (sRet (eBlt (gSorted (.l (.l .i))) (aCons (eVarB 3) aNil)))))
def F__law_planes : FF := fnR 7 fb__law_planes
theorem ok__law_planes {P : Program} {w : World} {K : PySem.W.Frag} {mg : Str → Option Value} {base : Heap} {ca : Nat → Addr} {a : Nat → Addr} {fd : Nat → FuncData} (T : Tx K mg a fd) (G__law_rows : FnOk P w K mg base (L2.CX P w) 1 (a 14) (fd 14) ["width", "most"] (Prom K ca 2 F__law_rows)) : FnOk P w K mg base (L2.CX P w) 2 (a 15) (fd 15) ["a", "b", "c"] (Prom K ca 3 F__law_planes) :=
  fn_val (k := 1) T.f__law_planes sc__law_planes (n := 3) (m := 7) rfl rfl fun dk cdv A outer s H E hr => (by
    exact (css_cons (cs_set 3 sc__law_planes.nd (ce_lst (cav_cons (ce_tup cav_nil) cav_nil)))
    (css_cons (cs_for (passes_of rfl) rfl (ci_range1 (by rfl) T.z_range (cb_var 0)) (cg_name 4 sc__law_planes.nd) (css_cons (cs_set 5 sc__law_planes.nd (ce_lst cav_nil))
    (css_frz 3 (css_cons (cs_for (passes_of rfl) rfl (ci_seq (cb_var 3)) (cg_name 6 sc__law_planes.nd) (css_one (cs_for (passes_of rfl) rfl (ci_seqF (ce_call (takes_of rfl rfl rfl rfl) G__law_rows (hr.mono (by decide)) (by rfl) T.m__law_rows T.f__law_rows.kp T.b__law_rows (caf_lend (cb_var 1) (caf_lend (cb_var 2) caf_nil)) (aLenL (aLenL aLen0)))) (cg_name 7 sc__law_planes.nd) (css_one (cs_if (CW.ct (cw_or (ct_cmp (op_eqD (hu64 hr)) g_eq (ce_blt call_len4 g_len (by rfl) T.z_len PySem.boot_len (cab_cons (cb_var 6) cab_nil)).cb (ce_int).cb (by rfl)) (cw_or1 (ct_cmp (op_eqD (hu64 hr)) g_eq (ce_blt call_len4 g_len (by rfl) T.z_len PySem.boot_len (cab_cons (ce_comp (own := [("low", 8), ("high", 9)]) rfl sc__law_planes.nd (ci_zip (by rfl) T.z_zip (cab_cons (cb_var 7) (cab_cons (cb_ix (hu_of hr) (cb_var 6) (ce_neg (ce_int).cb).cb (fun _ _ => rfl)) cab_nil))) (blkOk_by (by first | rfl | kernel_rfl)) (fun s H C cl fp => (cl_last rfl rfl rfl (cg_seq rfl (cgs_cons (cg_name 8 sc__law_planes.nd) (cgs_cons (cg_name 9 sc__law_planes.nd) cgs_nil))) (cts_one (ct_cmp op_gt g_int (cb_var 8) (cb_var 9) (by rfl))) ce_int rfl))).cb cab_nil)).cb (ce_int).cb (by rfl))))) (css_one (cs_append 5 (ce_op op_add3 g_add (cb_var 6) (ce_tup (cav_cons (ce_var 7) cav_nil)).cb))) css_nil)))))
    (css_one (cs_move 5 3 sc__law_planes.nd))))))
    (css_one (cs_ret (ce_blt (call_sortedZ (hu64 hr)) g_sorted (by rfl) T.z_sorted PyProof.Rows.boot_sorted (cab_cons (cb_var 3) cab_nil)))))))

theorem sc__law_cells : FnScope ["plane", "found", "i", "j", "k"] ["plane"] (defScope (topS 16)) := ⟨rfl, rfl, rfl, by decide +kernel, rfl, by decide +kernel, by decide +kernel⟩
def fb__law_cells : SF := (sSeq (sSet 1 (eC (.odt [])))
    (sSeq (sFor (iRange1 (eBlt gLen (aCons (eVarB 0) aNil))) (tgN 2) (sFor (iRange1 (eBlt gLen (aCons (eOp2 gIx (eVarB 0) (eVarB 2)) aNil))) (tgN 3) (sFor (iRange1 (eOp2 gIx (eOp2 gIx (eVarB 0) (eVarB 2)) (eVarB 3))) (tgN 4) (sDPutD 1 (eTup (aCons (eVarV 2) (aCons (eVarV 3) (aCons (eVarV 4) aNil)))) (eC (.bl true))))))
    (sRetV 1)))
def F__law_cells : FF := fnR 4 fb__law_cells
theorem ok__law_cells {P : Program} {w : World} {K : PySem.W.Frag} {mg : Str → Option Value} {base : Heap} {ca : Nat → Addr} {a : Nat → Addr} {fd : Nat → FuncData} (T : Tx K mg a fd)  : FnOk P w K mg base (L2.CX P w) 1 (a 16) (fd 16) ["plane"] (Prom K ca 1 F__law_cells) :=
  fn_val (k := 0) T.f__law_cells sc__law_cells (n := 1) (m := 4) rfl rfl fun dk cdv A outer s H E hr => (by
    exact (css_cons (cs_set 1 sc__law_cells.nd ce_dicT)
    (css_cons (cs_for (passes_of rfl) rfl (ci_range1 (by rfl) T.z_range (ce_blt call_len4 g_len (by rfl) T.z_len PySem.boot_len (cab_cons (cb_var 0) cab_nil)).cb) (cg_name 2 sc__law_cells.nd) (css_one (cs_for (passes_of rfl) rfl (ci_range1 (by rfl) T.z_range (ce_blt call_len4 g_len (by rfl) T.z_len PySem.boot_len (cab_cons (cb_ix (hu_of hr) (cb_var 0) (cb_var 2) (fun _ _ => rfl)) cab_nil)).cb) (cg_name 3 sc__law_cells.nd) (css_one (cs_for (passes_of rfl) rfl (ci_range1 (by rfl) T.z_range (cb_ix (hu_of hr) (cb_ix (hu_of hr) (cb_var 0) (cb_var 2) (fun _ _ => rfl)) (cb_var 3) (fun _ _ => rfl))) (cg_name 4 sc__law_cells.nd) (css_one (cs_dput 1 (hu_of hr) (ce_tup (cav_cons (ce_var 2) (cav_cons (ce_var 3) (cav_cons (ce_var 4) cav_nil)))).cb ce_bl)))))))
    (css_one (cs_retV 1)))))

theorem sc__law_symmetric : FnScope ["plane", "cells", "i", "j", "k"] ["plane"] (defScope (topS 17)) := ⟨rfl, rfl, rfl, by decide +kernel, rfl, by decide +kernel, by decide +kernel⟩
def fb__law_symmetric : SF := (sSeq (sSet 1 (eCall F__law_cells (aConsL (eVarB 0) aNil)))
    (sRet (eOp2 gEq (eBlt gLen (aCons (eLock 1 (eComp (iKeysD (eVarB 1)) (tgS 3 (tgCons (tgN 2) (tgCons (tgN 3) (tgCons (tgN 4) tgNil)))) (eOp2 (gInB true) (eTup (aCons (eVarV 3) (aCons (eVarV 2) (aCons (eVarV 4) aNil)))) (eVarB 1)) [2, 3, 4] (cElt (eC (.int 1))))) aNil)) (eC (.int 0)))))
def F__law_symmetric : FF := fnR 4 fb__law_symmetric
theorem ok__law_symmetric {P : Program} {w : World} {K : PySem.W.Frag} {mg : Str → Option Value} {base : Heap} {ca : Nat → Addr} {a : Nat → Addr} {fd : Nat → FuncData} (T : Tx K mg a fd) (G__law_cells : FnOk P w K mg base (L2.CX P w) 1 (a 16) (fd 16) ["plane"] (Prom K ca 1 F__law_cells)) : FnOk P w K mg base (L2.CX P w) 2 (a 17) (fd 17) ["plane"] (Prom K ca 1 F__law_symmetric) :=
  fn_val (k := 1) T.f__law_symmetric sc__law_symmetric (n := 1) (m := 4) rfl rfl fun dk cdv A outer s H E hr => (by
    exact (css_cons (cs_set 1 sc__law_symmetric.nd (ce_call (takes_of rfl rfl rfl rfl) G__law_cells (hr.mono (by decide)) (by rfl) T.m__law_cells T.f__law_cells.kp T.b__law_cells (caf_lend (cb_var 0) caf_nil) (aLenL aLen0)))
    (css_one (cs_ret (ce_cmp (op_eqD (hu64 hr)) g_eq (ce_blt call_len4 g_len (by rfl) T.z_len PySem.boot_len (cab_cons (ce_lock 1 (ce_comp (own := [("i", 2), ("j", 3), ("k", 4)]) rfl sc__law_symmetric.nd (ci_keys (cb_var 1)) (blkOk_by (by first | rfl | kernel_rfl)) (fun s H C cl fp => (cl_last rfl rfl rfl (cg_seq rfl (cgs_cons (cg_name 2 sc__law_symmetric.nd) (cgs_cons (cg_name 3 sc__law_symmetric.nd) (cgs_cons (cg_name 4 sc__law_symmetric.nd) cgs_nil)))) (cts_one (ct_cmp (op_notIn3 (hu65 hr)) g_notIn (ce_tup (cav_cons (ce_var 3) (cav_cons (ce_var 2) (cav_cons (ce_var 4) cav_nil)))).cb (cb_var 1) (by rfl))) ce_int rfl)))).cb cab_nil)).cb (ce_int).cb (by rfl))))))

theorem sc__law_cyclic : FnScope ["plane", "cells", "i", "j", "k"] ["plane"] (defScope (topS 18)) := ⟨rfl, rfl, rfl, by decide +kernel, rfl, by decide +kernel, by decide +kernel⟩
def fb__law_cyclic : SF := (sSeq (sSet 1 (eCall F__law_cells (aConsL (eVarB 0) aNil)))
    (sRet (eOp2 gEq (eBlt gLen (aCons (eLock 1 (eComp (iKeysD (eVarB 1)) (tgS 3 (tgCons (tgN 2) (tgCons (tgN 3) (tgCons (tgN 4) tgNil)))) (eOp2 (gInB true) (eTup (aCons (eVarV 3) (aCons (eVarV 4) (aCons (eVarV 2) aNil)))) (eVarB 1)) [2, 3, 4] (cElt (eC (.int 1))))) aNil)) (eC (.int 0)))))
def F__law_cyclic : FF := fnR 4 fb__law_cyclic
theorem ok__law_cyclic {P : Program} {w : World} {K : PySem.W.Frag} {mg : Str → Option Value} {base : Heap} {ca : Nat → Addr} {a : Nat → Addr} {fd : Nat → FuncData} (T : Tx K mg a fd) (G__law_cells : FnOk P w K mg base (L2.CX P w) 1 (a 16) (fd 16) ["plane"] (Prom K ca 1 F__law_cells)) : FnOk P w K mg base (L2.CX P w) 2 (a 18) (fd 18) ["plane"] (Prom K ca 1 F__law_cyclic) :=
  fn_val (k := 1) T.f__law_cyclic sc__law_cyclic (n := 1) (m := 4) rfl rfl fun dk cdv A outer s H E hr => (by
    exact (css_cons (cs_set 1 sc__law_cyclic.nd (ce_call (takes_of rfl rfl rfl rfl) G__law_cells (hr.mono (by decide)) (by rfl) T.m__law_cells T.f__law_cells.kp T.b__law_cells (caf_lend (cb_var 0) caf_nil) (aLenL aLen0)))
    (css_one (cs_ret (ce_cmp (op_eqD (hu64 hr)) g_eq (ce_blt call_len4 g_len (by rfl) T.z_len PySem.boot_len (cab_cons (ce_lock 1 (ce_comp (own := [("i", 2), ("j", 3), ("k", 4)]) rfl sc__law_cyclic.nd (ci_keys (cb_var 1)) (blkOk_by (by first | rfl | kernel_rfl)) (fun s H C cl fp => (cl_last rfl rfl rfl (cg_seq rfl (cgs_cons (cg_name 2 sc__law_cyclic.nd) (cgs_cons (cg_name 3 sc__law_cyclic.nd) (cgs_cons (cg_name 4 sc__law_cyclic.nd) cgs_nil)))) (cts_one (ct_cmp (op_notIn3 (hu65 hr)) g_notIn (ce_tup (cav_cons (ce_var 3) (cav_cons (ce_var 4) (cav_cons (ce_var 2) cav_nil)))).cb (cb_var 1) (by rfl))) ce_int rfl)))).cb cab_nil)).cb (ce_int).cb (by rfl))))))

theorem sc__law_own : FnScope ["plane", "a", "b", "c", "cells", "both", "i", "j", "k"] ["plane", "a", "b", "c"] (defScope (topS 19)) := ⟨rfl, rfl, rfl, by decide +kernel, rfl, by decide +kernel, by decide +kernel⟩
def fb__law_own : SF := (sSeq (sSet 4 (eCall F__law_cells (aConsL (eVarB 0) aNil)))
    (sSeq (sSet 5 (eLock 4 (eComp (iKeysD (eVarB 4)) (tgS 3 (tgCons (tgN 6) (tgCons (tgN 7) (tgCons (tgN 8) tgNil)))) (eOp2 (gInB false) (eTup (aCons (eOp2 gSub (eOp2 gSub (eVarB 1) (eC (.int 1))) (eVarB 6)) (aCons (eOp2 gSub (eOp2 gSub (eVarB 2) (eC (.int 1))) (eVarB 7)) (aCons (eOp2 gSub (eOp2 gSub (eVarB 3) (eC (.int 1))) (eVarB 8)) aNil)))) (eVarB 4)) [6, 7, 8] (cElt (eC (.int 1))))))
    (sRet (eAnd (eOp2 gEq (eBlt gLen (aCons (eVarB 5) aNil)) (eC (.int 0))) (eOp2 gEq (eOp2 gMul (eC (.int 2)) (eBlt gLen (aCons (eVarB 4) aNil))) (eOp2 gMul (eOp2 gMul (eVarB 1) (eVarB 2)) (eVarB 3)))))))
def F__law_own : FF := fnR 5 fb__law_own
theorem ok__law_own {P : Program} {w : World} {K : PySem.W.Frag} {mg : Str → Option Value} {base : Heap} {ca : Nat → Addr} {a : Nat → Addr} {fd : Nat → FuncData} (T : Tx K mg a fd) (G__law_cells : FnOk P w K mg base (L2.CX P w) 1 (a 16) (fd 16) ["plane"] (Prom K ca 1 F__law_cells)) : FnOk P w K mg base (L2.CX P w) 2 (a 19) (fd 19) ["plane", "a", "b", "c"] (Prom K ca 4 F__law_own) :=
  fn_val (k := 1) T.f__law_own sc__law_own (n := 4) (m := 5) rfl rfl fun dk cdv A outer s H E hr => (by
    exact (css_cons (cs_set 4 sc__law_own.nd (ce_call (takes_of rfl rfl rfl rfl) G__law_cells (hr.mono (by decide)) (by rfl) T.m__law_cells T.f__law_cells.kp T.b__law_cells (caf_lend (cb_var 0) caf_nil) (aLenL aLen0)))
    (css_cons (cs_setCL 5 4 (own := [("i", 6), ("j", 7), ("k", 8)]) rfl sc__law_own.nd (ci_keys (cb_var 4)) (blkOk_by (by first | rfl | kernel_rfl)) (fun s H C cl fp => (cl_last rfl rfl rfl (cg_seq rfl (cgs_cons (cg_name 6 sc__law_own.nd) (cgs_cons (cg_name 7 sc__law_own.nd) (cgs_cons (cg_name 8 sc__law_own.nd) cgs_nil)))) (cts_one (ct_cmp (op_in3 (hu65 hr)) g_in (ce_tup (cav_cons (ce_op op_sub g_sub (ce_op op_sub g_sub (cb_var 1) (ce_int).cb).cb (cb_var 6)) (cav_cons (ce_op op_sub g_sub (ce_op op_sub g_sub (cb_var 2) (ce_int).cb).cb (cb_var 7)) (cav_cons (ce_op op_sub g_sub (ce_op op_sub g_sub (cb_var 3) (ce_int).cb).cb (cb_var 8)) cav_nil)))).cb (cb_var 4) (by rfl))) ce_int rfl)))
    (css_one (cs_ret (ce_and (ce_cmp (op_eqD (hu64 hr)) g_eq (ce_blt call_len4 g_len (by rfl) T.z_len PySem.boot_len (cab_cons (cb_var 5) cab_nil)).cb (ce_int).cb (by rfl)) (ce_one (ce_cmp (op_eqD (hu64 hr)) g_eq (ce_op op_mul2 g_mul (ce_int).cb (ce_blt call_len4 g_len (by rfl) T.z_len PySem.boot_len (cab_cons (cb_var 4) cab_nil)).cb).cb (ce_op op_mul2 g_mul (ce_op op_mul2 g_mul (cb_var 1) (cb_var 2)).cb (cb_var 3)).cb (by rfl)))))))))

theorem sc__law_products : FnScope ["a", "b", "c", "odd", "even", "x", "y", "z", "side"] ["a", "b", "c"] (defScope (topS 20)) := ⟨rfl, rfl, rfl, by decide +kernel, rfl, by decide +kernel, by decide +kernel⟩
def fb__law_products : SF := (sSeq (sSet 3 (eComp (iSeqF (eTup (aCons (eVarV 0) (aCons (eVarV 1) (aCons (eVarV 2) aNil))))) (tgN 8) (eOp2 gEq (eOp2 gMod (eVarB 8) (eC (.int 2))) (eC (.int 1))) [8] (cElt (eVarV 8))))
    (sSeq (sSet 4 (eComp (iSeqF (eTup (aCons (eVarV 0) (aCons (eVarV 1) (aCons (eVarV 2) aNil))))) (tgN 8) (eOp2 gEq (eOp2 gMod (eVarB 8) (eC (.int 2))) (eC (.int 0))) [8] (cElt (eVarV 8))))
    (sSeq (sAsg (eComp (iSeqF (eOp2 gAdd (eVarB 3) (eVarB 4))) (tgN 8) (eC (.bl true)) [8] (cElt (eOp2 gDiv (eVarB 8) (eC (.int 2))))) (tgS 3 (tgCons (tgN 5) (tgCons (tgN 6) (tgCons (tgN 7) tgNil)))))
    (sSeq (sIf (eOp2 gEq (eBlt gLen (aCons (eVarB 3) aNil)) (eC (.int 3))) (sRet (eC (.int 0))) sNil)
    (sSeq (sIf (eOp2 gEq (eBlt gLen (aCons (eVarB 3) aNil)) (eC (.int 2))) (sRet (eOp2 gMul (eCall F_count_box (aConsF (eOp2 gAdd (eVarB 5) (eC (.int 1))) (aConsL (eVarB 6) (aConsL (eVarB 7) aNil)))) (eCall F_count_box (aConsL (eVarB 5) (aConsF (eOp2 gAdd (eVarB 6) (eC (.int 1))) (aConsL (eVarB 7) aNil)))))) sNil)
    (sRet (eOp2 gMul (eCall F_count_box (aConsL (eVarB 5) (aConsL (eVarB 6) (aConsL (eVarB 7) aNil)))) (eCall F_count_box (aConsF (eOp2 gAdd (eVarB 5) (eBlt gLen (aCons (eVarB 3) aNil))) (aConsL (eVarB 6) (aConsL (eVarB 7) aNil)))))))))))
def F__law_products : FF := fnR 6 fb__law_products
theorem ok__law_products {P : Program} {w : World} {K : PySem.W.Frag} {mg : Str → Option Value} {base : Heap} {ca : Nat → Addr} {a : Nat → Addr} {fd : Nat → FuncData} (T : Tx K mg a fd) (G_count_box : FnOk P w K mg base (L2.CX P w) 2 (a 2) (fd 2) ["a", "b", "c"] (Prom K ca 3 F_count_box)) : FnOk P w K mg base (L2.CX P w) 3 (a 20) (fd 20) ["a", "b", "c"] (Prom K ca 3 F__law_products) :=
  fn_val (k := 2) T.f__law_products sc__law_products (n := 3) (m := 6) rfl rfl fun dk cdv A outer s H E hr => (by
    exact (css_cons (cs_setC 3 (own := [("side", 8)]) rfl sc__law_products.nd (ci_seqF (ce_tup (cav_cons (ce_var 0) (cav_cons (ce_var 1) (cav_cons (ce_var 2) cav_nil))))) (blkOk_by (by first | rfl | kernel_rfl)) (fun s H C cl fp => (cl_last rfl rfl rfl (cg_name 8 sc__law_products.nd) (cts_one (ct_cmp (op_eqD (hu64 hr)) g_eq (ce_op op_mod g_mod (cb_var 8) (ce_int).cb).cb (ce_int).cb (by rfl))) (ce_var 8) rfl)))
    (css_cons (cs_setC 4 (own := [("side", 8)]) rfl sc__law_products.nd (ci_seqF (ce_tup (cav_cons (ce_var 0) (cav_cons (ce_var 1) (cav_cons (ce_var 2) cav_nil))))) (blkOk_by (by first | rfl | kernel_rfl)) (fun s H C cl fp => (cl_last rfl rfl rfl (cg_name 8 sc__law_products.nd) (cts_one (ct_cmp (op_eqD (hu64 hr)) g_eq (ce_op op_mod g_mod (cb_var 8) (ce_int).cb).cb (ce_int).cb (by rfl))) (ce_var 8) rfl)))
    (css_cons (cs_asg (ce_comp (own := [("side", 8)]) rfl sc__law_products.nd (ci_seqF (ce_op op_add3 g_add (cb_var 3) (cb_var 4))) (blkOk_by (by first | rfl | kernel_rfl)) (fun s H C cl fp => (cl_last rfl rfl rfl (cg_name 8 sc__law_products.nd) cts_nil (ce_op op_div2 g_div (cb_var 8) (ce_int).cb) rfl))) (cg_seq rfl (cgs_cons (cg_name 5 sc__law_products.nd) (cgs_cons (cg_name 6 sc__law_products.nd) (cgs_cons (cg_name 7 sc__law_products.nd) cgs_nil)))))
    (css_cons (cs_if (ct_cmp (op_eqD (hu64 hr)) g_eq (ce_blt call_len4 g_len (by rfl) T.z_len PySem.boot_len (cab_cons (cb_var 3) cab_nil)).cb (ce_int).cb (by rfl)) (css_one (cs_ret ce_int)) css_nil)
    (css_cons (cs_if (ct_cmp (op_eqD (hu64 hr)) g_eq (ce_blt call_len4 g_len (by rfl) T.z_len PySem.boot_len (cab_cons (cb_var 3) cab_nil)).cb (ce_int).cb (by rfl)) (css_one (cs_ret (ce_op op_mul2 g_mul (ce_call (takes_of rfl rfl rfl rfl) G_count_box (hr.mono (by decide)) (by rfl) T.m_count_box T.f_count_box.kp T.b_count_box (caf_cons (ce_op op_add3 g_add (cb_var 5) (ce_int).cb) (caf_lend (cb_var 6) (caf_lend (cb_var 7) caf_nil))) (aLenF (aLenL (aLenL aLen0)))).cb (ce_call (takes_of rfl rfl rfl rfl) G_count_box (hr.mono (by decide)) (by rfl) T.m_count_box T.f_count_box.kp T.b_count_box (caf_lend (cb_var 5) (caf_cons (ce_op op_add3 g_add (cb_var 6) (ce_int).cb) (caf_lend (cb_var 7) caf_nil))) (aLenL (aLenF (aLenL aLen0)))).cb))) css_nil)
    (css_one (cs_ret (ce_op op_mul2 g_mul (ce_call (takes_of rfl rfl rfl rfl) G_count_box (hr.mono (by decide)) (by rfl) T.m_count_box T.f_count_box.kp T.b_count_box (caf_lend (cb_var 5) (caf_lend (cb_var 6) (caf_lend (cb_var 7) caf_nil))) (aLenL (aLenL (aLenL aLen0)))).cb (ce_call (takes_of rfl rfl rfl rfl) G_count_box (hr.mono (by decide)) (by rfl) T.m_count_box T.f_count_box.kp T.b_count_box (caf_cons (ce_op op_add3 g_add (cb_var 5) (ce_blt call_len4 g_len (by rfl) T.z_len PySem.boot_len (cab_cons (cb_var 3) cab_nil)).cb) (caf_lend (cb_var 6) (caf_lend (cb_var 7) caf_nil))) (aLenF (aLenL (aLenL aLen0)))).cb)))))))))

end Zv
namespace Zv
open PySem PySem.Spec PyProof.Rows L2 RZ
theorem ok__law_deck {P : Program} {w : World} {K : PySem.W.Frag} {mg : Str → Option Value} {base : Heap} {a : Nat → Addr} {fd : Nat → FuncData} (T : Tx K mg a fd) : FnOk P w K mg base CX0 1 (a 11) (fd 11) ["script", "cells", "each"] (spDeck K) := by
  have sc := sc__law_deck
  refine T.f__law_deck.ok sc (fun vs H Q E h => ?_) (fun cdv A outer s H vs Q E hr h => ?_)
  · obtain ⟨a, ns, c, e, rfl, _⟩ := h
    rfl
  · obtain ⟨a, ns, c, e, rfl, hS, hlen, hc, he, q⟩ := h
    refine ⟨_, pss_cons (ps_set (i := 3) sc.nd rfl (.inl rfl) (pe_lst pa_nil))
      (pss_cons (ps_set (i := 4) sc.nd rfl (.inl rfl) (pe_op op_add pe_int (pe_callB call_len_seq (by rfl) T.z_len PySem.boot_len (pa_cons (pv 0) pa_nil))))
      (pss_cons (ps_for PassesOwn.never rfl (pi_range1 (by rfl) T.z_range (pa_cons (pv 1) pa_nil)) (pg_name (i := 5) sc.nd rfl (.inl rfl))
        (pss_cons (ps_set (i := 6) sc.nd rfl (.inl rfl) pe_int)
        (pss_cons (ps_if (pt_cmpR op_lt (pv 5) (pe_callB call_len_seq (by rfl) T.z_len PySem.boot_len (pa_cons (pv 0) pa_nil)) (nomark _)) (pss_one (ps_set (i := 6) sc.nd rfl (.inl rfl) (pe_ix ix_list (pv 0) (pv 5) (fun _ _ => rfl)))) pss_nil)
        (pss_cons (ps_set (i := 7) sc.nd rfl (.inl rfl) (pe_callB call_abs (by rfl) T.z_abs PyProof.Rows.boot_abs (pa_cons (pv 6) pa_nil)))
        (pss_one (ps_if (pt_cmpR op_ge (pv 7) (pe_op op_pow pe_int pe_int) (nomark _))
          (pss_one (ps_for PassesOwn.never rfl (pi_range1 (by rfl) T.z_range (pa_cons (pv 2) pa_nil)) (pg_name (i := 8) sc.nd rfl (.inl rfl))
            (pss_cons (ps_expr (pe_bm PySem.F.plainAttrs_list PySem.F.slot_list_append PySem.F.type_list_append mt_append (pv 3) (pa_cons (pe_op op_mod (pe_callTy call_int1 (by rfl) T.z_int boot_int (pa_cons (pv 7) pa_nil)) pe_int) pa_nil)))
            (pss_one (ps_set (i := 7) sc.nd rfl (.inl rfl) (pe_op op_fdivW (pv 7) pe_int))))))
          (pss_cons (ps_set (i := 4) sc.nd rfl (.inl rfl) (pe_op op_mod (pe_callTy call_int1 (by rfl) T.z_int boot_int (pa_cons (pe_op op_add (pe_op op_add (pe_op op_add (pe_op op_mul (pv 4) pe_int) (pe_op op_mul pe_int (pv 7))) (pe_callTy call_int1 (by rfl) T.z_int boot_int (pa_cons (pe_cmpR op_lt (pv 6) pe_int (nomark _)) pa_nil))) (pv 5)) pa_nil)) pe_int))
          (pss_one (ps_for PassesOwn.never rfl (pi_range1 (by rfl) T.z_range (pa_cons (pv 2) pa_nil)) (pg_name (i := 8) sc.nd rfl (.inl rfl))
            (pss_cons (ps_set (i := 4) sc.nd rfl (.inl rfl) (pe_op op_mod (pe_callTy call_int1 (by rfl) T.z_int boot_int (pa_cons (pe_op op_add (pe_op op_add (pe_op op_mul (pv 4) pe_int) (pv 8)) pe_int) pa_nil)) pe_int))
            (pss_one (ps_expr (pe_bm PySem.F.plainAttrs_list PySem.F.slot_list_append PySem.F.type_list_append mt_append (pv 3) (pa_cons (pe_op op_mod (pe_callTy call_int1 (by rfl) T.z_int boot_int (pa_cons (pe_op op_fdivW (pv 4) pe_int) pa_nil)) pe_int) pa_nil))))))))))))))
      (pss_cons (ps_expr (pe_bm0 PySem.F.plainAttrs_list PySem.F.slot_list_reverse PySem.F.type_list_reverse mt_reverse (pv 3)))
      (pss_one (ps_ret (pv 3)))))), ?_⟩
    have hlE : (c : Int).toNat = c := Int.toNat_natCast c
    refine ⟨Nat.zero_le _, fun o no => ?_⟩
    have s1 : Same H (upd H o (.lst [])) := same_up no
    refine ⟨.ref a, rfl, a, ns.map V.int, rfl, .inl (s1.seq hS), _, _, rfl, rfl, ?_⟩
    refine ⟨.int c, rfl, c, rfl, by omega, by omega, for_range (fun i σ H' => ∃ (xs : List Int) (s : Int) (y5 y6 y7 y8 : Option V), σ = [some (.ref a), some (.int c), some (.int e), some (.ref o), some (.int s), y5, y6, y7, y8] ∧ But o (upd H o (.lst [])) H' ∧ Cards (i * e) xs ∧ Seed s ∧ H' o = some (.lst (xs.map V.int)))
      ⟨[], _, none, none, none, none, rfl, .refl, ⟨by simp, fun x m => nomatch m⟩, ⟨by omega, by rw [List.length_map]; omega⟩, upd_same⟩ ?_ ?_⟩
    · rintro i σ H' hi ⟨xs, s, y5, y6, y7, y8, rfl, b, cx, hs, eo⟩
      have hi' : i < c := by omega
      have sm : Same H H' := fun x u ex => by
        have nx : x ≠ o := ne_of_none ex no
        rw [b x nx, upd_ne nx]
        exact ex
      have hA : SqL K H' a (ns.map V.int) := sm.seq hS
      have hn : i * e + e ≤ 100000 := by
        have := Nat.mul_le_mul (Nat.le_of_lt hi') he
        have h2 : c * 100 ≤ 10000 := Nat.mul_le_mul_right 100 hc
        omega
      have hee : i * e + e = (i + 1) * e := (Nat.succ_mul i e).symm
      have tail := fun (z : Int) (D : Ends) (hq : ∀ H'' xs' s' y7 y8, But o H' H'' → Cards (i * e + e) xs' → Seed s' → H'' o = some (.lst (xs'.map V.int)) → D.nx [some (.ref a), some (.int c), some (.int e), some (.ref o), some (.int s'), some (.int (0 + (i : Int))), some (.int z), y7, y8] H'') => deck_tail (K := K) (k := 0 + (i : Int)) (z := z) (y7 := y7) (y8 := y8) (a := a) (c := c) he hn cx hs eo hq
      refine ⟨.int _, rfl, .ref a, rfl, a, ns.map V.int, rfl, .inl hA, _, _, rfl, rfl, _, rfl, ite2 (fun hlt => ?_) (fun _ => ?_)⟩
      · have hlt := of_decide_eq_true hlt
        rw [List.length_map] at hlt
        have hin : i < ns.length := by omega
        refine ⟨.ref a, rfl, .int _, rfl, a, _, 0 + (i : Int), .int ns[i], rfl, rfl, hA, ?_, ?_⟩
        · rw [Int.zero_add]
          exact atI_nat (by rw [List.getElem?_map, List.getElem?_eq_getElem hin]; rfl)
        · refine tail ns[i] _ fun H'' xs' s' y7 y8 b' cx' hs' eo' => ?_
          exact ⟨xs', s', _, _, _, _, rfl, b.trans b', hee ▸ cx', hs', eo'⟩
      · refine tail 0 _ fun H'' xs' s' y7 y8 b' cx' hs' eo' => ?_
        exact ⟨xs', s', _, _, _, _, rfl, b.trans b', hee ▸ cx', hs', eo'⟩
    · rintro σ H' ⟨xs, s, y5, y6, y7, y8, rfl, b, cx, hs, eo⟩
      rw [hlE] at cx
      refine ⟨.ref o, rfl, .inl ⟨rfl, _, .inl (.inl eo)⟩, o, _, rfl, rfl, eo, .ref o, rfl, ?_⟩
      refine q _ o xs (fun x u ex => ?_) no cx ?_
      · have nx : x ≠ o := ne_of_none ex no
        rw [upd_ne nx, b x nx, upd_ne nx]
        exact ex
      · rw [upd_same]
        unfold deckO
        rw [List.map_reverse]
end Zv
namespace Zv
open PySem PySem.Spec PyProof.Rows L2 RZ
theorem ok__law_take {P : Program} {w : World} {K : PySem.W.Frag} {mg : Str → Option Value} {base : Heap} {ca : Nat → Addr} {a : Nat → Addr} {fd : Nat → FuncData} (T : Tx K mg a fd) : FnOk P w K mg base (L2.CX P w) 1 (a 12) (fd 12) ["deck", "many"] (Prom K ca 2 F__law_take) := by
  have sc := sc__law_take
  refine T.f__law_take.okX sc (fun vs H Q E h => h.1) (fun cdv A outer s H vs Q E hr h => ?_)
  obtain ⟨hl, dk, Z, ds, δ, on, hd, rs, h⟩ := h
  refine ⟨_, pss_cons (ps_if (pt_cmpR op_eq (pe_callB call_len_seq (by rfl) T.z_len PySem.boot_len (pa_cons (pv 0) pa_nil)) pe_int (nomark _)) (pss_one (ps_ret pe_int)) pss_nil)
    (pss_one (ps_ret (pe_op op_mod (pe_callTy call_int1 (by rfl) T.z_int boot_int (pa_cons (pe_bm0 PySem.F.plainAttrs_list PySem.F.slot_list_pop PySem.F.type_list_pop mt_pop (pv 0)) pa_nil)) (pv 1)))), ?_⟩
  unfold F__law_take takeF at h
  split at h
  · rename_i m
    obtain ⟨v, u, B, C, rfl, rv, ru⟩ := rs.two
    cases rv
    cases ru
    have hs : SqL K H dk (δ.reverse.map V.int) := .inl (.inl hd)
    refine ⟨.ref dk, rfl, dk, _, rfl, .inl hs, rfl, _, rfl, ite2 (fun e => ?_) (fun e => ?_)⟩
    · have e0 := V.int.inj (of_decide_eq_true e)
      rw [List.length_map, List.length_reverse] at e0
      cases δ with
      | nil => exact h _ H Z [] (Grow.refl on) hd (.int 0) .nil fun a m => nomatch m
      | cons x δ' =>
        rw [List.length_cons] at e0
        omega
    · cases δ with
      | nil => exact absurd (decide_eq_true rfl) e
      | cons x δ' =>
        simp only at h
        cases c : decide (0 < m) with
        | false => rw [c] at h; exact h.elim
        | true =>
          rw [c] at h
          have ed : deckO (x :: δ') = .lst (δ'.reverse.map V.int ++ [V.int x]) := by
            unfold deckO
            rw [List.reverse_cons, List.map_append]
            rfl
          rw [ed] at hd
          have hs' : SqL K H dk (δ'.reverse.map V.int ++ [V.int x]) := .inl (.inl hd)
          refine ⟨.ref dk, rfl, .inl ⟨rfl, _, hs'⟩, dk, _, .int x, rfl, rfl, hd, ?_, .inl ⟨x, rfl, .int m, rfl, _, _, rfl, rfl, of_decide_eq_true c, ?_⟩⟩
          · rw [List.length_append, List.length_singleton, Nat.add_sub_cancel, List.getElem?_append_right (Nat.le_refl _), Nat.sub_self]
            rfl
          · rw [List.dropLast_concat]
            refine h _ _ Z [] ⟨fun _ z => z, fun _ z => .inl z, fun b z => ⟨(on b z).1, ?_⟩, fun b u nb eb => (upd_ne nb).trans eb⟩ upd_same (.int _) .nil fun a m => nomatch m
            rw [upd_ne (on b z).1]
            exact (on b z).2
  · exact h.elim
end Zv
namespace Zv
open PySem PySem.Spec PyProof.Rows L2 RZ

theorem sc_law : FnScope ["script", "deck", "a", "b", "c", "planes", "own", "size", "height", "due", "side", "both", "turn", "plane"] ["script"] (defScope (topS 21)) := ⟨rfl, rfl, rfl, by decide +kernel, rfl, by decide +kernel, by decide +kernel⟩
def ls_0 : SF := (sAsg (eComp (iRange1 (eC (.int 3))) (tgN 12) (eC (.bl true)) [12] (cElt (eCall F__law_take (aConsL (eVarB 1) (aConsF (eC (.int 4)) aNil))))) (tgS 3 (tgCons (tgN 2) (tgCons (tgN 3) (tgCons (tgN 4) tgNil)))))
def ls_1 : SF := (sIf (eOp2 gGt (eOp2 gMul (eOp2 gMul (eVarB 2) (eVarB 3)) (eVarB 4)) (eC (.int 12))) (sSet 4 (eC (.int 1))) sNil)
def ls_2 : SF := (sSet 5 (eCall F__law_planes (aConsL (eVarB 2) (aConsL (eVarB 3) (aConsL (eVarB 4) aNil)))))
def ls_3 : SF := (sSet 6 (eComp (iSeq (eVarB 5)) (tgN 13) (eTru (eCall F__law_own (aConsL (eVarB 13) (aConsL (eVarB 2) (aConsL (eVarB 3) (aConsL (eVarB 4) aNil)))))) [13] (cElt (eVarV 13))))
def ls_4 : SF := (sIf (eOp2 gNe (eCall (F__law_plain 6) (aConsF (eComp (iSeq (eVarB 5)) (tgN 13) (eC (.bl true)) [13] (cElt (eCall F_is_own_complement (aConsL (eVarB 13) (aConsL (eVarB 4) aNil))))) aNil)) (eCall (F__law_plain 6) (aConsF (eComp (iSeq (eVarB 5)) (tgN 13) (eC (.bl true)) [13] (cElt (eOp2 (gInB false) (eVarB 13) (eVarB 6)))) aNil))) (sRet (eC (.bl false))) sNil)
def ls_5 : SF := (sIf (eOp2 gNe (eCall (F__law_plain 6) (aConsF (eCall F_count_own_complements (aConsL (eVarB 2) (aConsL (eVarB 3) (aConsL (eVarB 4) aNil)))) aNil)) (eCall (F__law_plain 6) (aConsF (eBlt gLen (aCons (eVarB 6) aNil)) aNil))) (sRet (eC (.bl false))) sNil)
def ls_6 : SF := (sSet 7 (eCall F__law_take (aConsL (eVarB 1) (aConsF (eC (.int 4)) aNil))))
def ls_7 : SF := (sSet 8 (eCall F__law_take (aConsL (eVarB 1) (aConsF (eOp2 gAdd (eC (.int 3)) (eOp2 gMul (eC (.int 2)) (eBlt gInt (aCons (eOp2 gLt (eVarB 7) (eC (.int 3))) aNil)))) aNil))))
def ls_8 : SF := (sSet 5 (eCall F__law_planes (aConsL (eVarB 7) (aConsL (eVarB 7) (aConsL (eVarB 8) aNil)))))
def ls_9 : SF := (sSet 9 (eComp (iSeq (eVarB 5)) (tgN 13) (eC (.bl true)) [13] (cElt (eCall F__law_symmetric (aConsL (eVarB 13) aNil)))))
def ls_10 : SF := (sIf (eOp2 gNe (eCall (F__law_plain 6) (aConsF (eComp (iSeq (eVarB 5)) (tgN 13) (eC (.bl true)) [13] (cElt (eCall F_is_symmetric (aConsL (eVarB 13) aNil)))) aNil)) (eCall (F__law_plain 6) (aConsL (eVarB 9) aNil))) (sRet (eC (.bl false))) sNil)
def ls_11 : SF := (sIf (eOp2 gNe (eCall (F__law_plain 6) (aConsF (eCall F_count_symmetric (aConsL (eVarB 7) (aConsL (eVarB 8) aNil))) aNil)) (eCall (F__law_plain 6) (aConsF (eCnt (eVarB 9) (eC (.bl true))) aNil))) (sRet (eC (.bl false))) sNil)
def ls_12 : SF := (sSet 10 (eCall F__law_take (aConsL (eVarB 1) (aConsF (eC (.int 3)) aNil))))
def ls_13 : SF := (sSet 5 (eCall F__law_planes (aConsL (eVarB 10) (aConsL (eVarB 10) (aConsL (eVarB 10) aNil)))))
def ls_14 : SF := (sSet 9 (eComp (iSeq (eVarB 5)) (tgN 13) (eC (.bl true)) [13] (cElt (eCall F__law_cyclic (aConsL (eVarB 13) aNil)))))
def ls_15 : SF := (sIf (eOp2 gNe (eCall (F__law_plain 6) (aConsF (eComp (iSeq (eVarB 5)) (tgN 13) (eC (.bl true)) [13] (cElt (eCall F_is_cyclic (aConsL (eVarB 13) aNil)))) aNil)) (eCall (F__law_plain 6) (aConsL (eVarB 9) aNil))) (sRet (eC (.bl false))) sNil)
def ls_16 : SF := (sSet 11 (eComp (iSeq (eVarB 5)) (tgN 13) (eAnd (eTru (eCall F__law_cyclic (aConsL (eVarB 13) aNil))) (eTru (eCall F__law_symmetric (aConsL (eVarB 13) aNil)))) [13] (cElt (eVarV 13))))
def ls_17 : SF := (sIf (eOp2 gNe (eCall (F__law_plain 6) (aConsF (eLst (aCons (eCall F_count_cyclic (aConsL (eVarB 10) aNil)) (aCons (eCall F_count_total (aConsL (eVarB 10) aNil)) aNil))) aNil)) (eCall (F__law_plain 6) (aConsF (eLst (aCons (eCnt (eVarB 9) (eC (.bl true))) (aCons (eBlt gLen (aCons (eVarB 11) aNil)) aNil))) aNil))) (sRet (eC (.bl false))) sNil)
def ls_18 : SF := (sIf (eOp2 gNe (eLst (aCons (eCall F_count_cyclic (aConsF (eC (.int 3)) aNil)) (aCons (eCall F_count_total (aConsF (eC (.int 3)) aNil)) (aCons (eCall F_count_cyclic (aConsF (eC (.int 4)) aNil)) (aCons (eCall F_count_total (aConsF (eC (.int 4)) aNil)) aNil))))) (eLst (aCons (eC (.int 20)) (aCons (eC (.int 16)) (aCons (eC (.int 132)) (aCons (eC (.int 66)) aNil)))))) (sRet (eC (.bl false))) sNil)
def ls_19 : SF := (sAsg (eComp (iRange1 (eC (.int 3))) (tgN 12) (eC (.bl true)) [12] (cElt (eCall F__law_take (aConsL (eVarB 1) (aConsF (eC (.int 9)) aNil))))) (tgS 3 (tgCons (tgN 2) (tgCons (tgN 3) (tgCons (tgN 4) tgNil)))))
def ls_20 : SF := (sRet (eOp2 gEq (eCall (F__law_plain 6) (aConsF (eCall F_count_own_complements (aConsL (eVarB 2) (aConsL (eVarB 3) (aConsL (eVarB 4) aNil)))) aNil)) (eCall (F__law_plain 6) (aConsF (eCall F__law_products (aConsL (eVarB 2) (aConsL (eVarB 3) (aConsL (eVarB 4) aNil)))) aNil))))
def law_l : List (List Nat × SF) := [([], ls_0), ([], ls_1), ([], ls_2), ([5], ls_3), ([5], ls_4), ([], ls_5), ([], ls_6), ([], ls_7), ([], ls_8), ([5], ls_9), ([5], ls_10), ([], ls_11), ([], ls_12), ([], ls_13), ([5], ls_14), ([5], ls_15), ([5], ls_16), ([], ls_17), ([], ls_18), ([], ls_19), ([], ls_20)]
def fb_law : SF := (sSeq (sAsg (eComp (iRange1 (eC (.int 3))) (tgN 12) (eC (.bl true)) [12] (cElt (eCall F__law_take (aConsL (eVarB 1) (aConsF (eC (.int 4)) aNil))))) (tgS 3 (tgCons (tgN 2) (tgCons (tgN 3) (tgCons (tgN 4) tgNil)))))
    (sSeq (sIf (eOp2 gGt (eOp2 gMul (eOp2 gMul (eVarB 2) (eVarB 3)) (eVarB 4)) (eC (.int 12))) (sSet 4 (eC (.int 1))) sNil)
    (sSeq (sSet 5 (eCall F__law_planes (aConsL (eVarB 2) (aConsL (eVarB 3) (aConsL (eVarB 4) aNil)))))
    (frzS 5 (sSeq (sSet 6 (eComp (iSeq (eVarB 5)) (tgN 13) (eTru (eCall F__law_own (aConsL (eVarB 13) (aConsL (eVarB 2) (aConsL (eVarB 3) (aConsL (eVarB 4) aNil)))))) [13] (cElt (eVarV 13))))
    (frzS 5 (sSeq (sIf (eOp2 gNe (eCall (F__law_plain 6) (aConsF (eComp (iSeq (eVarB 5)) (tgN 13) (eC (.bl true)) [13] (cElt (eCall F_is_own_complement (aConsL (eVarB 13) (aConsL (eVarB 4) aNil))))) aNil)) (eCall (F__law_plain 6) (aConsF (eComp (iSeq (eVarB 5)) (tgN 13) (eC (.bl true)) [13] (cElt (eOp2 (gInB false) (eVarB 13) (eVarB 6)))) aNil))) (sRet (eC (.bl false))) sNil)
    (sSeq (sIf (eOp2 gNe (eCall (F__law_plain 6) (aConsF (eCall F_count_own_complements (aConsL (eVarB 2) (aConsL (eVarB 3) (aConsL (eVarB 4) aNil)))) aNil)) (eCall (F__law_plain 6) (aConsF (eBlt gLen (aCons (eVarB 6) aNil)) aNil))) (sRet (eC (.bl false))) sNil)
    (sSeq (sSet 7 (eCall F__law_take (aConsL (eVarB 1) (aConsF (eC (.int 4)) aNil))))
    (sSeq (sSet 8 (eCall F__law_take (aConsL (eVarB 1) (aConsF (eOp2 gAdd (eC (.int 3)) (eOp2 gMul (eC (.int 2)) (eBlt gInt (aCons (eOp2 gLt (eVarB 7) (eC (.int 3))) aNil)))) aNil))))
    (sSeq (sSet 5 (eCall F__law_planes (aConsL (eVarB 7) (aConsL (eVarB 7) (aConsL (eVarB 8) aNil)))))
    (frzS 5 (sSeq (sSet 9 (eComp (iSeq (eVarB 5)) (tgN 13) (eC (.bl true)) [13] (cElt (eCall F__law_symmetric (aConsL (eVarB 13) aNil)))))
    (frzS 5 (sSeq (sIf (eOp2 gNe (eCall (F__law_plain 6) (aConsF (eComp (iSeq (eVarB 5)) (tgN 13) (eC (.bl true)) [13] (cElt (eCall F_is_symmetric (aConsL (eVarB 13) aNil)))) aNil)) (eCall (F__law_plain 6) (aConsL (eVarB 9) aNil))) (sRet (eC (.bl false))) sNil)
    (sSeq (sIf (eOp2 gNe (eCall (F__law_plain 6) (aConsF (eCall F_count_symmetric (aConsL (eVarB 7) (aConsL (eVarB 8) aNil))) aNil)) (eCall (F__law_plain 6) (aConsF (eCnt (eVarB 9) (eC (.bl true))) aNil))) (sRet (eC (.bl false))) sNil)
    (sSeq (sSet 10 (eCall F__law_take (aConsL (eVarB 1) (aConsF (eC (.int 3)) aNil))))
    (sSeq (sSet 5 (eCall F__law_planes (aConsL (eVarB 10) (aConsL (eVarB 10) (aConsL (eVarB 10) aNil)))))
    (frzS 5 (sSeq (sSet 9 (eComp (iSeq (eVarB 5)) (tgN 13) (eC (.bl true)) [13] (cElt (eCall F__law_cyclic (aConsL (eVarB 13) aNil)))))
    (frzS 5 (sSeq (sIf (eOp2 gNe (eCall (F__law_plain 6) (aConsF (eComp (iSeq (eVarB 5)) (tgN 13) (eC (.bl true)) [13] (cElt (eCall F_is_cyclic (aConsL (eVarB 13) aNil)))) aNil)) (eCall (F__law_plain 6) (aConsL (eVarB 9) aNil))) (sRet (eC (.bl false))) sNil)
    (frzS 5 (sSeq (sSet 11 (eComp (iSeq (eVarB 5)) (tgN 13) (eAnd (eTru (eCall F__law_cyclic (aConsL (eVarB 13) aNil))) (eTru (eCall F__law_symmetric (aConsL (eVarB 13) aNil)))) [13] (cElt (eVarV 13))))
    (sSeq (sIf (eOp2 gNe (eCall (F__law_plain 6) (aConsF (eLst (aCons (eCall F_count_cyclic (aConsL (eVarB 10) aNil)) (aCons (eCall F_count_total (aConsL (eVarB 10) aNil)) aNil))) aNil)) (eCall (F__law_plain 6) (aConsF (eLst (aCons (eCnt (eVarB 9) (eC (.bl true))) (aCons (eBlt gLen (aCons (eVarB 11) aNil)) aNil))) aNil))) (sRet (eC (.bl false))) sNil)
    (sSeq (sIf (eOp2 gNe (eLst (aCons (eCall F_count_cyclic (aConsF (eC (.int 3)) aNil)) (aCons (eCall F_count_total (aConsF (eC (.int 3)) aNil)) (aCons (eCall F_count_cyclic (aConsF (eC (.int 4)) aNil)) (aCons (eCall F_count_total (aConsF (eC (.int 4)) aNil)) aNil))))) (eLst (aCons (eC (.int 20)) (aCons (eC (.int 16)) (aCons (eC (.int 132)) (aCons (eC (.int 66)) aNil)))))) (sRet (eC (.bl false))) sNil)
    (sSeq (sAsg (eComp (iRange1 (eC (.int 3))) (tgN 12) (eC (.bl true)) [12] (cElt (eCall F__law_take (aConsL (eVarB 1) (aConsF (eC (.int 9)) aNil))))) (tgS 3 (tgCons (tgN 2) (tgCons (tgN 3) (tgCons (tgN 4) tgNil)))))
    (sSeq (sRet (eOp2 gEq (eCall (F__law_plain 6) (aConsF (eCall F_count_own_complements (aConsL (eVarB 2) (aConsL (eVarB 3) (aConsL (eVarB 4) aNil)))) aNil)) (eCall (F__law_plain 6) (aConsF (eCall F__law_products (aConsL (eVarB 2) (aConsL (eVarB 3) (aConsL (eVarB 4) aNil)))) aNil))))
    sNil))))))))))))))))))))))))))))
theorem fb_law_eq : fb_law = blk law_l := rfl
theorem ok_law {P : Program} {w : World} {K : PySem.W.Frag} {mg : Str → Option Value} {base : Heap} {ca : Nat → Addr} {a : Nat → Addr} {fd : Nat → FuncData} {fa : Addr} {fda : FuncData} (T : Tx K mg a fd) (FL : Fun K "law" "law" (topS 21) fa fda)
    (G__law_cyclic : FnOk P w K mg base (L2.CX P w) 2 (a 18) (fd 18) ["plane"] (Prom K ca 1 F__law_cyclic))
    (G__law_own : FnOk P w K mg base (L2.CX P w) 2 (a 19) (fd 19) ["plane", "a", "b", "c"] (Prom K ca 4 F__law_own))
    (G__law_plain : FnOk P w K mg base (L2.CX P w) 7 (a 13) (fd 13) ["value"] (Prom K ca 1 (F__law_plain 6)))
    (G__law_planes : FnOk P w K mg base (L2.CX P w) 2 (a 15) (fd 15) ["a", "b", "c"] (Prom K ca 3 F__law_planes))
    (G__law_products : FnOk P w K mg base (L2.CX P w) 3 (a 20) (fd 20) ["a", "b", "c"] (Prom K ca 3 F__law_products))
    (G__law_symmetric : FnOk P w K mg base (L2.CX P w) 2 (a 17) (fd 17) ["plane"] (Prom K ca 1 F__law_symmetric))
    (G__law_take : FnOk P w K mg base (L2.CX P w) 1 (a 12) (fd 12) ["deck", "many"] (Prom K ca 2 F__law_take))
    (G_count_cyclic : FnOk P w K mg base (L2.CX P w) 2 (a 7) (fd 7) ["n"] (Prom K ca 1 F_count_cyclic))
    (G_count_own_complements : FnOk P w K mg base (L2.CX P w) 3 (a 9) (fd 9) ["a", "b", "c"] (Prom K ca 3 F_count_own_complements))
    (G_count_symmetric : FnOk P w K mg base (L2.CX P w) 2 (a 6) (fd 6) ["a", "c"] (Prom K ca 2 F_count_symmetric))
    (G_count_total : FnOk P w K mg base (L2.CX P w) 2 (a 8) (fd 8) ["n"] (Prom K ca 1 F_count_total))
    (G_is_cyclic : FnOk P w K mg base (L2.CX P w) 1 (a 4) (fd 4) ["rows"] (Prom K ca 1 F_is_cyclic))
    (G_is_own_complement : FnOk P w K mg base (L2.CX P w) 1 (a 5) (fd 5) ["rows", "c"] (Prom K ca 2 F_is_own_complement))
    (G_is_symmetric : FnOk P w K mg base (L2.CX P w) 1 (a 3) (fd 3) ["rows"] (Prom K ca 1 F_is_symmetric))
    (G__law_deck : FnOk P w K mg base CX0 1 (a 11) (fd 11) ["script", "cells", "each"] (spDeck K)) (hl : ∀ δ, Cards (30 * 14) δ → ∃ δ', fb_law (.un :: .dk :: uns 12) δ = .rt (.bl true) δ') : FnOk P w K mg base (L2.CX P w) 8 fa fda ["script"] (spLaw K) :=
  law_end (k := 7) (c := 30) (e := 14) (m := 12) FL sc_law rfl (by decide) (by decide) (fun cdv A outer s H E hr => pss_cons (ps_set (i := 1) sc_law.nd rfl (.inr rfl) (pe_call G__law_deck (hr.mono (by decide)) (by rfl) T.m__law_deck T.f__law_deck.kp T.b__law_deck .nil pass0 (pa_cons (pv 0) (pa_cons pe_int (pa_cons pe_int pa_nil))))) (css_can fun dk => (by
    exact (css_cons (cs_asg (ce_comp (own := [("turn", 12)]) rfl sc_law.nd (ci_range1 (by rfl) T.z_range (ce_int).cb) (blkOk_by (by first | rfl | kernel_rfl)) (fun s H C cl fp => (cl_last rfl rfl rfl (cg_name 12 sc_law.nd) cts_nil (ce_call takes0 G__law_take (hr.mono (by decide)) (by rfl) T.m__law_take T.f__law_take.kp T.b__law_take (caf_lend (cb_var 1) (caf_cons ce_int caf_nil)) (aLenL (aLenF aLen0))) rfl))) (cg_seq rfl (cgs_cons (cg_name 2 sc_law.nd) (cgs_cons (cg_name 3 sc_law.nd) (cgs_cons (cg_name 4 sc_law.nd) cgs_nil)))))
    (css_cons (cs_if (ct_cmp op_gt g_int (ce_op op_mul2 g_mul (ce_op op_mul2 g_mul (cb_var 2) (cb_var 3)).cb (cb_var 4)).cb (ce_int).cb (by rfl)) (css_one (cs_set 4 sc_law.nd ce_int)) css_nil)
    (css_cons (cs_set 5 sc_law.nd (ce_call (takes_of rfl rfl rfl rfl) G__law_planes (hr.mono (by decide)) (by rfl) T.m__law_planes T.f__law_planes.kp T.b__law_planes (caf_lend (cb_var 2) (caf_lend (cb_var 3) (caf_lend (cb_var 4) caf_nil))) (aLenL (aLenL (aLenL aLen0)))))
    (css_frz 5 (css_cons (cs_set 6 sc_law.nd (ce_comp (own := [("plane", 13)]) rfl sc_law.nd (ci_seq (cb_var 5)) (blkOk_by (by first | rfl | kernel_rfl)) (fun s H C cl fp => (cl_last rfl rfl rfl (cg_name 13 sc_law.nd) (cts_one (ct_truth (ce_call takes0 G__law_own (hr.mono (by decide)) (by rfl) T.m__law_own T.f__law_own.kp T.b__law_own (caf_lend (cb_var 13) (caf_lend (cb_var 2) (caf_lend (cb_var 3) (caf_lend (cb_var 4) caf_nil)))) (aLenL (aLenL (aLenL (aLenL aLen0))))).cb)) (ce_var 13) rfl))))
    (css_frz 5 (css_cons (cs_if (ct_cmp (op_neD (hu64 hr)) g_ne (ce_call (takes_of rfl rfl rfl rfl) G__law_plain (hr.mono (by decide)) (by rfl) T.m__law_plain T.f__law_plain.kp T.b__law_plain (caf_cons (ce_comp (own := [("plane", 13)]) rfl sc_law.nd (ci_seq (cb_var 5)) (blkOk_by (by first | rfl | kernel_rfl)) (fun s H C cl fp => (cl_last rfl rfl rfl (cg_name 13 sc_law.nd) cts_nil (ce_call takes0 G_is_own_complement (hr.mono (by decide)) (by rfl) T.m_is_own_complement T.f_is_own_complement.kp T.b_is_own_complement (caf_lend (cb_var 13) (caf_lend (cb_var 4) caf_nil)) (aLenL (aLenL aLen0))) rfl))) caf_nil) (aLenF aLen0)).cb (ce_call (takes_of rfl rfl rfl rfl) G__law_plain (hr.mono (by decide)) (by rfl) T.m__law_plain T.f__law_plain.kp T.b__law_plain (caf_cons (ce_comp (own := [("plane", 13)]) rfl sc_law.nd (ci_seq (cb_var 5)) (blkOk_by (by first | rfl | kernel_rfl)) (fun s H C cl fp => (cl_last rfl rfl rfl (cg_name 13 sc_law.nd) cts_nil (ce_cmp (op_in3 (hu65 hr)) g_in (cb_var 13) (cb_var 6) (by rfl)) rfl))) caf_nil) (aLenF aLen0)).cb (by rfl)) (css_one (cs_ret ce_bl)) css_nil)
    (css_cons (cs_if (ct_cmp (op_neD (hu64 hr)) g_ne (ce_call (takes_of rfl rfl rfl rfl) G__law_plain (hr.mono (by decide)) (by rfl) T.m__law_plain T.f__law_plain.kp T.b__law_plain (caf_cons (ce_call (takes_of rfl rfl rfl rfl) G_count_own_complements (hr.mono (by decide)) (by rfl) T.m_count_own_complements T.f_count_own_complements.kp T.b_count_own_complements (caf_lend (cb_var 2) (caf_lend (cb_var 3) (caf_lend (cb_var 4) caf_nil))) (aLenL (aLenL (aLenL aLen0)))) caf_nil) (aLenF aLen0)).cb (ce_call (takes_of rfl rfl rfl rfl) G__law_plain (hr.mono (by decide)) (by rfl) T.m__law_plain T.f__law_plain.kp T.b__law_plain (caf_cons (ce_blt call_len4 g_len (by rfl) T.z_len PySem.boot_len (cab_cons (cb_var 6) cab_nil)) caf_nil) (aLenF aLen0)).cb (by rfl)) (css_one (cs_ret ce_bl)) css_nil)
    (css_cons (cs_set 7 sc_law.nd (ce_call (takes_of rfl rfl rfl rfl) G__law_take (hr.mono (by decide)) (by rfl) T.m__law_take T.f__law_take.kp T.b__law_take (caf_lend (cb_var 1) (caf_cons ce_int caf_nil)) (aLenL (aLenF aLen0))))
    (css_cons (cs_set 8 sc_law.nd (ce_call (takes_of rfl rfl rfl rfl) G__law_take (hr.mono (by decide)) (by rfl) T.m__law_take T.f__law_take.kp T.b__law_take (caf_lend (cb_var 1) (caf_cons (ce_op op_add3 g_add (ce_int).cb (ce_op op_mul2 g_mul (ce_int).cb (ce_ty call_int1 g_int1 (by rfl) T.z_int boot_int (cab_cons (ce_cmp op_lt g_int (cb_var 7) (ce_int).cb (by rfl)).cb cab_nil)).cb).cb) caf_nil)) (aLenL (aLenF aLen0))))
    (css_cons (cs_set 5 sc_law.nd (ce_call (takes_of rfl rfl rfl rfl) G__law_planes (hr.mono (by decide)) (by rfl) T.m__law_planes T.f__law_planes.kp T.b__law_planes (caf_lend (cb_var 7) (caf_lend (cb_var 7) (caf_lend (cb_var 8) caf_nil))) (aLenL (aLenL (aLenL aLen0)))))
    (css_frz 5 (css_cons (cs_setC 9 (own := [("plane", 13)]) rfl sc_law.nd (ci_seq (cb_var 5)) (blkOk_by (by first | rfl | kernel_rfl)) (fun s H C cl fp => (cl_last rfl rfl rfl (cg_name 13 sc_law.nd) cts_nil (ce_call takes0 G__law_symmetric (hr.mono (by decide)) (by rfl) T.m__law_symmetric T.f__law_symmetric.kp T.b__law_symmetric (caf_lend (cb_var 13) caf_nil) (aLenL aLen0)) rfl)))
    (css_frz 5 (css_cons (cs_if (ct_cmp (op_neD (hu64 hr)) g_ne (ce_call (takes_of rfl rfl rfl rfl) G__law_plain (hr.mono (by decide)) (by rfl) T.m__law_plain T.f__law_plain.kp T.b__law_plain (caf_cons (ce_comp (own := [("plane", 13)]) rfl sc_law.nd (ci_seq (cb_var 5)) (blkOk_by (by first | rfl | kernel_rfl)) (fun s H C cl fp => (cl_last rfl rfl rfl (cg_name 13 sc_law.nd) cts_nil (ce_call takes0 G_is_symmetric (hr.mono (by decide)) (by rfl) T.m_is_symmetric T.f_is_symmetric.kp T.b_is_symmetric (caf_lend (cb_var 13) caf_nil) (aLenL aLen0)) rfl))) caf_nil) (aLenF aLen0)).cb (ce_call (takes_of rfl rfl rfl rfl) G__law_plain (hr.mono (by decide)) (by rfl) T.m__law_plain T.f__law_plain.kp T.b__law_plain (caf_lend (cb_var 9) caf_nil) (aLenL aLen0)).cb (by rfl)) (css_one (cs_ret ce_bl)) css_nil)
    (css_cons (cs_if (ct_cmp (op_neD (hu64 hr)) g_ne (ce_call (takes_of rfl rfl rfl rfl) G__law_plain (hr.mono (by decide)) (by rfl) T.m__law_plain T.f__law_plain.kp T.b__law_plain (caf_cons (ce_call (takes_of rfl rfl rfl rfl) G_count_symmetric (hr.mono (by decide)) (by rfl) T.m_count_symmetric T.f_count_symmetric.kp T.b_count_symmetric (caf_lend (cb_var 7) (caf_lend (cb_var 8) caf_nil)) (aLenL (aLenL aLen0))) caf_nil) (aLenF aLen0)).cb (ce_call (takes_of rfl rfl rfl rfl) G__law_plain (hr.mono (by decide)) (by rfl) T.m__law_plain T.f__law_plain.kp T.b__law_plain (caf_cons (ce_count (hu65 hr) (cb_var 9) (ce_bl).cb) caf_nil) (aLenF aLen0)).cb (by rfl)) (css_one (cs_ret ce_bl)) css_nil)
    (css_cons (cs_set 10 sc_law.nd (ce_call (takes_of rfl rfl rfl rfl) G__law_take (hr.mono (by decide)) (by rfl) T.m__law_take T.f__law_take.kp T.b__law_take (caf_lend (cb_var 1) (caf_cons ce_int caf_nil)) (aLenL (aLenF aLen0))))
    (css_cons (cs_set 5 sc_law.nd (ce_call (takes_of rfl rfl rfl rfl) G__law_planes (hr.mono (by decide)) (by rfl) T.m__law_planes T.f__law_planes.kp T.b__law_planes (caf_lend (cb_var 10) (caf_lend (cb_var 10) (caf_lend (cb_var 10) caf_nil))) (aLenL (aLenL (aLenL aLen0)))))
    (css_frz 5 (css_cons (cs_setC 9 (own := [("plane", 13)]) rfl sc_law.nd (ci_seq (cb_var 5)) (blkOk_by (by first | rfl | kernel_rfl)) (fun s H C cl fp => (cl_last rfl rfl rfl (cg_name 13 sc_law.nd) cts_nil (ce_call takes0 G__law_cyclic (hr.mono (by decide)) (by rfl) T.m__law_cyclic T.f__law_cyclic.kp T.b__law_cyclic (caf_lend (cb_var 13) caf_nil) (aLenL aLen0)) rfl)))
    (css_frz 5 (css_cons (cs_if (ct_cmp (op_neD (hu64 hr)) g_ne (ce_call (takes_of rfl rfl rfl rfl) G__law_plain (hr.mono (by decide)) (by rfl) T.m__law_plain T.f__law_plain.kp T.b__law_plain (caf_cons (ce_comp (own := [("plane", 13)]) rfl sc_law.nd (ci_seq (cb_var 5)) (blkOk_by (by first | rfl | kernel_rfl)) (fun s H C cl fp => (cl_last rfl rfl rfl (cg_name 13 sc_law.nd) cts_nil (ce_call takes0 G_is_cyclic (hr.mono (by decide)) (by rfl) T.m_is_cyclic T.f_is_cyclic.kp T.b_is_cyclic (caf_lend (cb_var 13) caf_nil) (aLenL aLen0)) rfl))) caf_nil) (aLenF aLen0)).cb (ce_call (takes_of rfl rfl rfl rfl) G__law_plain (hr.mono (by decide)) (by rfl) T.m__law_plain T.f__law_plain.kp T.b__law_plain (caf_lend (cb_var 9) caf_nil) (aLenL aLen0)).cb (by rfl)) (css_one (cs_ret ce_bl)) css_nil)
    (css_frz 5 (css_cons (cs_setC 11 (own := [("plane", 13)]) rfl sc_law.nd (ci_seq (cb_var 5)) (blkOk_by (by first | rfl | kernel_rfl)) (fun s H C cl fp => (cl_last rfl rfl rfl (cg_name 13 sc_law.nd) (cts_one (CW.ct (cw_and (ct_truth (ce_call takes0 G__law_cyclic (hr.mono (by decide)) (by rfl) T.m__law_cyclic T.f__law_cyclic.kp T.b__law_cyclic (caf_lend (cb_var 13) caf_nil) (aLenL aLen0)).cb) (cw_and1 (ct_truth (ce_call takes0 G__law_symmetric (hr.mono (by decide)) (by rfl) T.m__law_symmetric T.f__law_symmetric.kp T.b__law_symmetric (caf_lend (cb_var 13) caf_nil) (aLenL aLen0)).cb))))) (ce_var 13) rfl)))
    (css_cons (cs_if (ct_cmp (op_neD (hu64 hr)) g_ne (ce_call (takes_of rfl rfl rfl rfl) G__law_plain (hr.mono (by decide)) (by rfl) T.m__law_plain T.f__law_plain.kp T.b__law_plain (caf_cons (ce_lst (cav_cons (ce_call (takes_of rfl rfl rfl rfl) G_count_cyclic (hr.mono (by decide)) (by rfl) T.m_count_cyclic T.f_count_cyclic.kp T.b_count_cyclic (caf_lend (cb_var 10) caf_nil) (aLenL aLen0)) (cav_cons (ce_call (takes_of rfl rfl rfl rfl) G_count_total (hr.mono (by decide)) (by rfl) T.m_count_total T.f_count_total.kp T.b_count_total (caf_lend (cb_var 10) caf_nil) (aLenL aLen0)) cav_nil))) caf_nil) (aLenF aLen0)).cb (ce_call (takes_of rfl rfl rfl rfl) G__law_plain (hr.mono (by decide)) (by rfl) T.m__law_plain T.f__law_plain.kp T.b__law_plain (caf_cons (ce_lst (cav_cons (ce_count (hu65 hr) (cb_var 9) (ce_bl).cb) (cav_cons (ce_blt call_len4 g_len (by rfl) T.z_len PySem.boot_len (cab_cons (cb_var 11) cab_nil)) cav_nil))) caf_nil) (aLenF aLen0)).cb (by rfl)) (css_one (cs_ret ce_bl)) css_nil)
    (css_cons (cs_if (ct_cmp (op_neD (hu64 hr)) g_ne (ce_lst (cav_cons (ce_call (takes_of rfl rfl rfl rfl) G_count_cyclic (hr.mono (by decide)) (by rfl) T.m_count_cyclic T.f_count_cyclic.kp T.b_count_cyclic (caf_cons ce_int caf_nil) (aLenF aLen0)) (cav_cons (ce_call (takes_of rfl rfl rfl rfl) G_count_total (hr.mono (by decide)) (by rfl) T.m_count_total T.f_count_total.kp T.b_count_total (caf_cons ce_int caf_nil) (aLenF aLen0)) (cav_cons (ce_call (takes_of rfl rfl rfl rfl) G_count_cyclic (hr.mono (by decide)) (by rfl) T.m_count_cyclic T.f_count_cyclic.kp T.b_count_cyclic (caf_cons ce_int caf_nil) (aLenF aLen0)) (cav_cons (ce_call (takes_of rfl rfl rfl rfl) G_count_total (hr.mono (by decide)) (by rfl) T.m_count_total T.f_count_total.kp T.b_count_total (caf_cons ce_int caf_nil) (aLenF aLen0)) cav_nil))))).cb (ce_lst (cav_cons ce_int (cav_cons ce_int (cav_cons ce_int (cav_cons ce_int cav_nil))))).cb (by rfl)) (css_one (cs_ret ce_bl)) css_nil)
    (css_cons (cs_asg (ce_comp (own := [("turn", 12)]) rfl sc_law.nd (ci_range1 (by rfl) T.z_range (ce_int).cb) (blkOk_by (by first | rfl | kernel_rfl)) (fun s H C cl fp => (cl_last rfl rfl rfl (cg_name 12 sc_law.nd) cts_nil (ce_call takes0 G__law_take (hr.mono (by decide)) (by rfl) T.m__law_take T.f__law_take.kp T.b__law_take (caf_lend (cb_var 1) (caf_cons ce_int caf_nil)) (aLenL (aLenF aLen0))) rfl))) (cg_seq rfl (cgs_cons (cg_name 2 sc_law.nd) (cgs_cons (cg_name 3 sc_law.nd) (cgs_cons (cg_name 4 sc_law.nd) cgs_nil)))))
    (css_cons (cs_ret (ce_cmp (op_eqD (hu64 hr)) g_eq (ce_call (takes_of rfl rfl rfl rfl) G__law_plain (hr.mono (by decide)) (by rfl) T.m__law_plain T.f__law_plain.kp T.b__law_plain (caf_cons (ce_call (takes_of rfl rfl rfl rfl) G_count_own_complements (hr.mono (by decide)) (by rfl) T.m_count_own_complements T.f_count_own_complements.kp T.b_count_own_complements (caf_lend (cb_var 2) (caf_lend (cb_var 3) (caf_lend (cb_var 4) caf_nil))) (aLenL (aLenL (aLenL aLen0)))) caf_nil) (aLenF aLen0)).cb (ce_call (takes_of rfl rfl rfl rfl) G__law_plain (hr.mono (by decide)) (by rfl) T.m__law_plain T.f__law_plain.kp T.b__law_plain (caf_cons (ce_call (takes_of rfl rfl rfl rfl) G__law_products (hr.mono (by decide)) (by rfl) T.m__law_products T.f__law_products.kp T.b__law_products (caf_lend (cb_var 2) (caf_lend (cb_var 3) (caf_lend (cb_var 4) caf_nil))) (aLenL (aLenL (aLenL aLen0)))) caf_nil) (aLenF aLen0)).cb (by rfl)))
    css_nil))))))))))))))))))))))))))))))) hl
theorem all_mk {P : Program} {w : World} {K : PySem.W.Frag} {h : Heap} {mg : Str → Option Value} {fa f1 f2 f3 f4 f5 f6 f7 f8 f9 f11 f12 f13 f14 f15 f16 f17 f18 f19 f20 f21 : Addr} (X : K.In h) (G : h.Ns mainGlobals mg) (hfa : mg "law" = some (.ref fa))
    {od1 an1 od2 an2 od3 an3 od4 an4 od5 an5 od6 an6 od7 an7 od8 an8 od9 an9 od11 an11 od12 an12 od13 an13 od14 an14 od15 an15 od16 an16 od17 an17 od18 an18 od19 an19 od20 an20 od21 an21 : Option Addr} {sl1 sl2 sl3 sl4 sl5 sl6 sl7 sl8 sl9 sl11 sl12 sl13 sl14 sl15 sl16 sl17 sl18 sl19 sl20 sl21 : Array (Option Value)} {oc1 kV1 dc1 pm1 cd1 ct1 oc2 kV2 dc2 pm2 cd2 ct2 oc3 kV3 dc3 pm3 cd3 ct3 oc4 kV4 dc4 pm4 cd4 ct4 oc5 kV5 dc5 pm5 cd5 ct5 oc6 kV6 dc6 pm6 cd6 ct6 oc7 kV7 dc7 pm7 cd7 ct7 oc8 kV8 dc8 pm8 cd8 ct8 oc9 kV9 dc9 pm9 cd9 ct9 oc11 kV11 dc11 pm11 cd11 ct11 oc12 kV12 dc12 pm12 cd12 ct12 oc13 kV13 dc13 pm13 cd13 ct13 oc14 kV14 dc14 pm14 cd14 ct14 oc15 kV15 dc15 pm15 cd15 ct15 oc16 kV16 dc16 pm16 cd16 ct16 oc17 kV17 dc17 pm17 cd17 ct17 oc18 kV18 dc18 pm18 cd18 ct18 oc19 kV19 dc19 pm19 cd19 ct19 oc20 kV20 dc20 pm20 cd20 ct20 oc21 kV21 dc21 pm21 cd21 ct21 : Value}
    (a1 : PySem.W.nsIn K mainGlobals "ratio" = some (some (.ref f1))) (l1 : K.lookup f1 = some ⟨oc1, od1, .func (PySem.W.fnOf "ratio" "ratio" (defArgs (topS 1)) (defBody (topS 1)) (defScope (topS 1)) .none kV1 dc1 pm1 an1 cd1 ct1), sl1⟩) (c1 : PySem.W.codeIn K cd1 "ratio" = true) (k1 : PySem.W.keepIn K (.ref f1) = true)
    (a2 : PySem.W.nsIn K mainGlobals "count_box" = some (some (.ref f2))) (l2 : K.lookup f2 = some ⟨oc2, od2, .func (PySem.W.fnOf "count_box" "count_box" (defArgs (topS 2)) (defBody (topS 2)) (defScope (topS 2)) .none kV2 dc2 pm2 an2 cd2 ct2), sl2⟩) (c2 : PySem.W.codeIn K cd2 "count_box" = true) (k2 : PySem.W.keepIn K (.ref f2) = true)
    (a3 : PySem.W.nsIn K mainGlobals "is_symmetric" = some (some (.ref f3))) (l3 : K.lookup f3 = some ⟨oc3, od3, .func (PySem.W.fnOf "is_symmetric" "is_symmetric" (defArgs (topS 3)) (defBody (topS 3)) (defScope (topS 3)) .none kV3 dc3 pm3 an3 cd3 ct3), sl3⟩) (c3 : PySem.W.codeIn K cd3 "is_symmetric" = true) (k3 : PySem.W.keepIn K (.ref f3) = true)
    (a4 : PySem.W.nsIn K mainGlobals "is_cyclic" = some (some (.ref f4))) (l4 : K.lookup f4 = some ⟨oc4, od4, .func (PySem.W.fnOf "is_cyclic" "is_cyclic" (defArgs (topS 4)) (defBody (topS 4)) (defScope (topS 4)) .none kV4 dc4 pm4 an4 cd4 ct4), sl4⟩) (c4 : PySem.W.codeIn K cd4 "is_cyclic" = true) (k4 : PySem.W.keepIn K (.ref f4) = true)
    (a5 : PySem.W.nsIn K mainGlobals "is_own_complement" = some (some (.ref f5))) (l5 : K.lookup f5 = some ⟨oc5, od5, .func (PySem.W.fnOf "is_own_complement" "is_own_complement" (defArgs (topS 5)) (defBody (topS 5)) (defScope (topS 5)) .none kV5 dc5 pm5 an5 cd5 ct5), sl5⟩) (c5 : PySem.W.codeIn K cd5 "is_own_complement" = true) (k5 : PySem.W.keepIn K (.ref f5) = true)
    (a6 : PySem.W.nsIn K mainGlobals "count_symmetric" = some (some (.ref f6))) (l6 : K.lookup f6 = some ⟨oc6, od6, .func (PySem.W.fnOf "count_symmetric" "count_symmetric" (defArgs (topS 6)) (defBody (topS 6)) (defScope (topS 6)) .none kV6 dc6 pm6 an6 cd6 ct6), sl6⟩) (c6 : PySem.W.codeIn K cd6 "count_symmetric" = true) (k6 : PySem.W.keepIn K (.ref f6) = true)
    (a7 : PySem.W.nsIn K mainGlobals "count_cyclic" = some (some (.ref f7))) (l7 : K.lookup f7 = some ⟨oc7, od7, .func (PySem.W.fnOf "count_cyclic" "count_cyclic" (defArgs (topS 7)) (defBody (topS 7)) (defScope (topS 7)) .none kV7 dc7 pm7 an7 cd7 ct7), sl7⟩) (c7 : PySem.W.codeIn K cd7 "count_cyclic" = true) (k7 : PySem.W.keepIn K (.ref f7) = true)
    (a8 : PySem.W.nsIn K mainGlobals "count_total" = some (some (.ref f8))) (l8 : K.lookup f8 = some ⟨oc8, od8, .func (PySem.W.fnOf "count_total" "count_total" (defArgs (topS 8)) (defBody (topS 8)) (defScope (topS 8)) .none kV8 dc8 pm8 an8 cd8 ct8), sl8⟩) (c8 : PySem.W.codeIn K cd8 "count_total" = true) (k8 : PySem.W.keepIn K (.ref f8) = true)
    (a9 : PySem.W.nsIn K mainGlobals "count_own_complements" = some (some (.ref f9))) (l9 : K.lookup f9 = some ⟨oc9, od9, .func (PySem.W.fnOf "count_own_complements" "count_own_complements" (defArgs (topS 9)) (defBody (topS 9)) (defScope (topS 9)) .none kV9 dc9 pm9 an9 cd9 ct9), sl9⟩) (c9 : PySem.W.codeIn K cd9 "count_own_complements" = true) (k9 : PySem.W.keepIn K (.ref f9) = true)
    (a11 : PySem.W.nsIn K mainGlobals "_law_deck" = some (some (.ref f11))) (l11 : K.lookup f11 = some ⟨oc11, od11, .func (PySem.W.fnOf "_law_deck" "_law_deck" (defArgs (topS 11)) (defBody (topS 11)) (defScope (topS 11)) .none kV11 dc11 pm11 an11 cd11 ct11), sl11⟩) (c11 : PySem.W.codeIn K cd11 "_law_deck" = true) (k11 : PySem.W.keepIn K (.ref f11) = true)
    (a12 : PySem.W.nsIn K mainGlobals "_law_take" = some (some (.ref f12))) (l12 : K.lookup f12 = some ⟨oc12, od12, .func (PySem.W.fnOf "_law_take" "_law_take" (defArgs (topS 12)) (defBody (topS 12)) (defScope (topS 12)) .none kV12 dc12 pm12 an12 cd12 ct12), sl12⟩) (c12 : PySem.W.codeIn K cd12 "_law_take" = true) (k12 : PySem.W.keepIn K (.ref f12) = true)
    (a13 : PySem.W.nsIn K mainGlobals "_law_plain" = some (some (.ref f13))) (l13 : K.lookup f13 = some ⟨oc13, od13, .func (PySem.W.fnOf "_law_plain" "_law_plain" (defArgs (topS 13)) (defBody (topS 13)) (defScope (topS 13)) .none kV13 dc13 pm13 an13 cd13 ct13), sl13⟩) (c13 : PySem.W.codeIn K cd13 "_law_plain" = true) (k13 : PySem.W.keepIn K (.ref f13) = true)
    (a14 : PySem.W.nsIn K mainGlobals "_law_rows" = some (some (.ref f14))) (l14 : K.lookup f14 = some ⟨oc14, od14, .func (PySem.W.fnOf "_law_rows" "_law_rows" (defArgs (topS 14)) (defBody (topS 14)) (defScope (topS 14)) .none kV14 dc14 pm14 an14 cd14 ct14), sl14⟩) (c14 : PySem.W.codeIn K cd14 "_law_rows" = true) (k14 : PySem.W.keepIn K (.ref f14) = true)
    (a15 : PySem.W.nsIn K mainGlobals "_law_planes" = some (some (.ref f15))) (l15 : K.lookup f15 = some ⟨oc15, od15, .func (PySem.W.fnOf "_law_planes" "_law_planes" (defArgs (topS 15)) (defBody (topS 15)) (defScope (topS 15)) .none kV15 dc15 pm15 an15 cd15 ct15), sl15⟩) (c15 : PySem.W.codeIn K cd15 "_law_planes" = true) (k15 : PySem.W.keepIn K (.ref f15) = true)
    (a16 : PySem.W.nsIn K mainGlobals "_law_cells" = some (some (.ref f16))) (l16 : K.lookup f16 = some ⟨oc16, od16, .func (PySem.W.fnOf "_law_cells" "_law_cells" (defArgs (topS 16)) (defBody (topS 16)) (defScope (topS 16)) .none kV16 dc16 pm16 an16 cd16 ct16), sl16⟩) (c16 : PySem.W.codeIn K cd16 "_law_cells" = true) (k16 : PySem.W.keepIn K (.ref f16) = true)
    (a17 : PySem.W.nsIn K mainGlobals "_law_symmetric" = some (some (.ref f17))) (l17 : K.lookup f17 = some ⟨oc17, od17, .func (PySem.W.fnOf "_law_symmetric" "_law_symmetric" (defArgs (topS 17)) (defBody (topS 17)) (defScope (topS 17)) .none kV17 dc17 pm17 an17 cd17 ct17), sl17⟩) (c17 : PySem.W.codeIn K cd17 "_law_symmetric" = true) (k17 : PySem.W.keepIn K (.ref f17) = true)
    (a18 : PySem.W.nsIn K mainGlobals "_law_cyclic" = some (some (.ref f18))) (l18 : K.lookup f18 = some ⟨oc18, od18, .func (PySem.W.fnOf "_law_cyclic" "_law_cyclic" (defArgs (topS 18)) (defBody (topS 18)) (defScope (topS 18)) .none kV18 dc18 pm18 an18 cd18 ct18), sl18⟩) (c18 : PySem.W.codeIn K cd18 "_law_cyclic" = true) (k18 : PySem.W.keepIn K (.ref f18) = true)
    (a19 : PySem.W.nsIn K mainGlobals "_law_own" = some (some (.ref f19))) (l19 : K.lookup f19 = some ⟨oc19, od19, .func (PySem.W.fnOf "_law_own" "_law_own" (defArgs (topS 19)) (defBody (topS 19)) (defScope (topS 19)) .none kV19 dc19 pm19 an19 cd19 ct19), sl19⟩) (c19 : PySem.W.codeIn K cd19 "_law_own" = true) (k19 : PySem.W.keepIn K (.ref f19) = true)
    (a20 : PySem.W.nsIn K mainGlobals "_law_products" = some (some (.ref f20))) (l20 : K.lookup f20 = some ⟨oc20, od20, .func (PySem.W.fnOf "_law_products" "_law_products" (defArgs (topS 20)) (defBody (topS 20)) (defScope (topS 20)) .none kV20 dc20 pm20 an20 cd20 ct20), sl20⟩) (c20 : PySem.W.codeIn K cd20 "_law_products" = true) (k20 : PySem.W.keepIn K (.ref f20) = true)
    (a21 : PySem.W.nsIn K mainGlobals "law" = some (some (.ref f21))) (l21 : K.lookup f21 = some ⟨oc21, od21, .func (PySem.W.fnOf "law" "law" (defArgs (topS 21)) (defBody (topS 21)) (defScope (topS 21)) .none kV21 dc21 pm21 an21 cd21 ct21), sl21⟩) (c21 : PySem.W.codeIn K cd21 "law" = true) (k21 : PySem.W.keepIn K (.ref f21) = true)
    (z_abs : PySem.W.nsIn K mainGlobals "abs" = some none)
    (z_all : PySem.W.nsIn K mainGlobals "all" = some none)
    (z_bool : PySem.W.nsIn K mainGlobals "bool" = some none)
    (z_int : PySem.W.nsIn K mainGlobals "int" = some none)
    (z_isinstance : PySem.W.nsIn K mainGlobals "isinstance" = some none)
    (z_len : PySem.W.nsIn K mainGlobals "len" = some none)
    (z_list : PySem.W.nsIn K mainGlobals "list" = some none)
    (z_range : PySem.W.nsIn K mainGlobals "range" = some none)
    (z_sorted : PySem.W.nsIn K mainGlobals "sorted" = some none)
    (z_str : PySem.W.nsIn K mainGlobals "str" = some none)
    (z_tuple : PySem.W.nsIn K mainGlobals "tuple" = some none)
    (z_zip : PySem.W.nsIn K mainGlobals "zip" = some none)
    (hl : ∀ δ, Cards (30 * 14) δ → ∃ δ', fb_law (.un :: .dk :: uns 12) δ = .rt (.bl true) δ') :
    ∃ fd : FuncData, (∀ (s : Shared) (v : Value), BindsTo s fd ⟨[v], []⟩ [("script", v)]) ∧ ∀ base : Heap, K.In base → base.Ns mainGlobals mg → FnOk P w K mg base (L2.CX P w) 8 fa fd ["script"] (spLaw K) := by
  have e := hfa.symm.trans (PySem.W.mg_of X G a21)
  cases e
  have F1 := fun_mk (st := topS 1) l1 c1 k1
  have F2 := fun_mk (st := topS 2) l2 c2 k2
  have F3 := fun_mk (st := topS 3) l3 c3 k3
  have F4 := fun_mk (st := topS 4) l4 c4 k4
  have F5 := fun_mk (st := topS 5) l5 c5 k5
  have F6 := fun_mk (st := topS 6) l6 c6 k6
  have F7 := fun_mk (st := topS 7) l7 c7 k7
  have F8 := fun_mk (st := topS 8) l8 c8 k8
  have F9 := fun_mk (st := topS 9) l9 c9 k9
  have F11 := fun_mk (st := topS 11) l11 c11 k11
  have F12 := fun_mk (st := topS 12) l12 c12 k12
  have F13 := fun_mk (st := topS 13) l13 c13 k13
  have F14 := fun_mk (st := topS 14) l14 c14 k14
  have F15 := fun_mk (st := topS 15) l15 c15 k15
  have F16 := fun_mk (st := topS 16) l16 c16 k16
  have F17 := fun_mk (st := topS 17) l17 c17 k17
  have F18 := fun_mk (st := topS 18) l18 c18 k18
  have F19 := fun_mk (st := topS 19) l19 c19 k19
  have F20 := fun_mk (st := topS 20) l20 c20 k20
  have F21 := fun_mk (st := topS 21) l21 c21 k21
  have T : Tx K mg (fun i => match i with | 1 => f1 | 2 => f2 | 3 => f3 | 4 => f4 | 5 => f5 | 6 => f6 | 7 => f7 | 8 => f8 | 9 => f9 | 11 => f11 | 12 => f12 | 13 => f13 | 14 => f14 | 15 => f15 | 16 => f16 | 17 => f17 | 18 => f18 | 19 => f19 | 20 => f20 | _ => fa) (fun i => match i with | 1 => PySem.W.fnOf "ratio" "ratio" (defArgs (topS 1)) (defBody (topS 1)) (defScope (topS 1)) .none kV1 dc1 pm1 an1 cd1 ct1 | 2 => PySem.W.fnOf "count_box" "count_box" (defArgs (topS 2)) (defBody (topS 2)) (defScope (topS 2)) .none kV2 dc2 pm2 an2 cd2 ct2 | 3 => PySem.W.fnOf "is_symmetric" "is_symmetric" (defArgs (topS 3)) (defBody (topS 3)) (defScope (topS 3)) .none kV3 dc3 pm3 an3 cd3 ct3 | 4 => PySem.W.fnOf "is_cyclic" "is_cyclic" (defArgs (topS 4)) (defBody (topS 4)) (defScope (topS 4)) .none kV4 dc4 pm4 an4 cd4 ct4 | 5 => PySem.W.fnOf "is_own_complement" "is_own_complement" (defArgs (topS 5)) (defBody (topS 5)) (defScope (topS 5)) .none kV5 dc5 pm5 an5 cd5 ct5 | 6 => PySem.W.fnOf "count_symmetric" "count_symmetric" (defArgs (topS 6)) (defBody (topS 6)) (defScope (topS 6)) .none kV6 dc6 pm6 an6 cd6 ct6 | 7 => PySem.W.fnOf "count_cyclic" "count_cyclic" (defArgs (topS 7)) (defBody (topS 7)) (defScope (topS 7)) .none kV7 dc7 pm7 an7 cd7 ct7 | 8 => PySem.W.fnOf "count_total" "count_total" (defArgs (topS 8)) (defBody (topS 8)) (defScope (topS 8)) .none kV8 dc8 pm8 an8 cd8 ct8 | 9 => PySem.W.fnOf "count_own_complements" "count_own_complements" (defArgs (topS 9)) (defBody (topS 9)) (defScope (topS 9)) .none kV9 dc9 pm9 an9 cd9 ct9 | 11 => PySem.W.fnOf "_law_deck" "_law_deck" (defArgs (topS 11)) (defBody (topS 11)) (defScope (topS 11)) .none kV11 dc11 pm11 an11 cd11 ct11 | 12 => PySem.W.fnOf "_law_take" "_law_take" (defArgs (topS 12)) (defBody (topS 12)) (defScope (topS 12)) .none kV12 dc12 pm12 an12 cd12 ct12 | 13 => PySem.W.fnOf "_law_plain" "_law_plain" (defArgs (topS 13)) (defBody (topS 13)) (defScope (topS 13)) .none kV13 dc13 pm13 an13 cd13 ct13 | 14 => PySem.W.fnOf "_law_rows" "_law_rows" (defArgs (topS 14)) (defBody (topS 14)) (defScope (topS 14)) .none kV14 dc14 pm14 an14 cd14 ct14 | 15 => PySem.W.fnOf "_law_planes" "_law_planes" (defArgs (topS 15)) (defBody (topS 15)) (defScope (topS 15)) .none kV15 dc15 pm15 an15 cd15 ct15 | 16 => PySem.W.fnOf "_law_cells" "_law_cells" (defArgs (topS 16)) (defBody (topS 16)) (defScope (topS 16)) .none kV16 dc16 pm16 an16 cd16 ct16 | 17 => PySem.W.fnOf "_law_symmetric" "_law_symmetric" (defArgs (topS 17)) (defBody (topS 17)) (defScope (topS 17)) .none kV17 dc17 pm17 an17 cd17 ct17 | 18 => PySem.W.fnOf "_law_cyclic" "_law_cyclic" (defArgs (topS 18)) (defBody (topS 18)) (defScope (topS 18)) .none kV18 dc18 pm18 an18 cd18 ct18 | 19 => PySem.W.fnOf "_law_own" "_law_own" (defArgs (topS 19)) (defBody (topS 19)) (defScope (topS 19)) .none kV19 dc19 pm19 an19 cd19 ct19 | 20 => PySem.W.fnOf "_law_products" "_law_products" (defArgs (topS 20)) (defBody (topS 20)) (defScope (topS 20)) .none kV20 dc20 pm20 an20 cd20 ct20 | _ => PySem.W.fnOf "law" "law" (defArgs (topS 21)) (defBody (topS 21)) (defScope (topS 21)) .none kV21 dc21 pm21 an21 cd21 ct21) :=
    { f_ratio := F1, m_ratio := PySem.W.mg_of X G a1, b_ratio := F1.binds (ps := ["above", "below"]) fun _ _ _ _ _ _ us hl => match us, hl with | [_, _], _ => rfl,
      f_count_box := F2, m_count_box := PySem.W.mg_of X G a2, b_count_box := F2.binds (ps := ["a", "b", "c"]) fun _ _ _ _ _ _ us hl => match us, hl with | [_, _, _], _ => rfl,
      f_is_symmetric := F3, m_is_symmetric := PySem.W.mg_of X G a3, b_is_symmetric := F3.binds (ps := ["rows"]) fun _ _ _ _ _ _ us hl => match us, hl with | [_], _ => rfl,
      f_is_cyclic := F4, m_is_cyclic := PySem.W.mg_of X G a4, b_is_cyclic := F4.binds (ps := ["rows"]) fun _ _ _ _ _ _ us hl => match us, hl with | [_], _ => rfl,
      f_is_own_complement := F5, m_is_own_complement := PySem.W.mg_of X G a5, b_is_own_complement := F5.binds (ps := ["rows", "c"]) fun _ _ _ _ _ _ us hl => match us, hl with | [_, _], _ => rfl,
      f_count_symmetric := F6, m_count_symmetric := PySem.W.mg_of X G a6, b_count_symmetric := F6.binds (ps := ["a", "c"]) fun _ _ _ _ _ _ us hl => match us, hl with | [_, _], _ => rfl,
      f_count_cyclic := F7, m_count_cyclic := PySem.W.mg_of X G a7, b_count_cyclic := F7.binds (ps := ["n"]) fun _ _ _ _ _ _ us hl => match us, hl with | [_], _ => rfl,
      f_count_total := F8, m_count_total := PySem.W.mg_of X G a8, b_count_total := F8.binds (ps := ["n"]) fun _ _ _ _ _ _ us hl => match us, hl with | [_], _ => rfl,
      f_count_own_complements := F9, m_count_own_complements := PySem.W.mg_of X G a9, b_count_own_complements := F9.binds (ps := ["a", "b", "c"]) fun _ _ _ _ _ _ us hl => match us, hl with | [_, _, _], _ => rfl,
      f__law_deck := F11, m__law_deck := PySem.W.mg_of X G a11, b__law_deck := F11.binds (ps := ["script", "cells", "each"]) fun _ _ _ _ _ _ us hl => match us, hl with | [_, _, _], _ => rfl,
      f__law_take := F12, m__law_take := PySem.W.mg_of X G a12, b__law_take := F12.binds (ps := ["deck", "many"]) fun _ _ _ _ _ _ us hl => match us, hl with | [_, _], _ => rfl,
      f__law_plain := F13, m__law_plain := PySem.W.mg_of X G a13, b__law_plain := F13.binds (ps := ["value"]) fun _ _ _ _ _ _ us hl => match us, hl with | [_], _ => rfl,
      f__law_rows := F14, m__law_rows := PySem.W.mg_of X G a14, b__law_rows := F14.binds (ps := ["width", "most"]) fun _ _ _ _ _ _ us hl => match us, hl with | [_, _], _ => rfl,
      f__law_planes := F15, m__law_planes := PySem.W.mg_of X G a15, b__law_planes := F15.binds (ps := ["a", "b", "c"]) fun _ _ _ _ _ _ us hl => match us, hl with | [_, _, _], _ => rfl,
      f__law_cells := F16, m__law_cells := PySem.W.mg_of X G a16, b__law_cells := F16.binds (ps := ["plane"]) fun _ _ _ _ _ _ us hl => match us, hl with | [_], _ => rfl,
      f__law_symmetric := F17, m__law_symmetric := PySem.W.mg_of X G a17, b__law_symmetric := F17.binds (ps := ["plane"]) fun _ _ _ _ _ _ us hl => match us, hl with | [_], _ => rfl,
      f__law_cyclic := F18, m__law_cyclic := PySem.W.mg_of X G a18, b__law_cyclic := F18.binds (ps := ["plane"]) fun _ _ _ _ _ _ us hl => match us, hl with | [_], _ => rfl,
      f__law_own := F19, m__law_own := PySem.W.mg_of X G a19, b__law_own := F19.binds (ps := ["plane", "a", "b", "c"]) fun _ _ _ _ _ _ us hl => match us, hl with | [_, _, _, _], _ => rfl,
      f__law_products := F20, m__law_products := PySem.W.mg_of X G a20, b__law_products := F20.binds (ps := ["a", "b", "c"]) fun _ _ _ _ _ _ us hl => match us, hl with | [_, _, _], _ => rfl,
      z_abs := PySem.W.mg_none_of X G z_abs, z_all := PySem.W.mg_none_of X G z_all, z_bool := PySem.W.mg_none_of X G z_bool, z_int := PySem.W.mg_none_of X G z_int, z_isinstance := PySem.W.mg_none_of X G z_isinstance, z_len := PySem.W.mg_none_of X G z_len, z_list := PySem.W.mg_none_of X G z_list, z_range := PySem.W.mg_none_of X G z_range, z_sorted := PySem.W.mg_none_of X G z_sorted, z_str := PySem.W.mg_none_of X G z_str, z_tuple := PySem.W.mg_none_of X G z_tuple, z_zip := PySem.W.mg_none_of X G z_zip }
  refine ⟨PySem.W.fnOf "law" "law" (defArgs (topS 21)) (defBody (topS 21)) (defScope (topS 21)) .none kV21 dc21 pm21 an21 cd21 ct21, fun s v => .of_eq rfl, fun base _ _ => ?_⟩
  have G__law_cells := ok__law_cells (P := P) (w := w) (base := base) (ca := fun _ => 0) T 
  have G__law_cyclic := ok__law_cyclic (P := P) (w := w) (base := base) (ca := fun _ => 0) T G__law_cells
  have G__law_deck := ok__law_deck (P := P) (w := w) (base := base) T
  have G__law_own := ok__law_own (P := P) (w := w) (base := base) (ca := fun _ => 0) T G__law_cells
  have G__law_plain := ok__law_plain (P := P) (w := w) (base := base) (ca := fun _ => 0) T  6
  have G__law_rows := ok__law_rows (P := P) (w := w) (base := base) (ca := fun _ => 0) T 
  have G__law_planes := ok__law_planes (P := P) (w := w) (base := base) (ca := fun _ => 0) T G__law_rows
  have G_ratio := ok_ratio (P := P) (w := w) (base := base) (ca := fun _ => 0) T 
  have G_count_box := ok_count_box (P := P) (w := w) (base := base) (ca := fun _ => 0) T G_ratio
  have G__law_products := ok__law_products (P := P) (w := w) (base := base) (ca := fun _ => 0) T G_count_box
  have G__law_symmetric := ok__law_symmetric (P := P) (w := w) (base := base) (ca := fun _ => 0) T G__law_cells
  have G__law_take := ok__law_take (P := P) (w := w) (base := base) (ca := fun _ => 0) T 
  have G_count_cyclic := ok_count_cyclic (P := P) (w := w) (base := base) (ca := fun _ => 0) T G_ratio
  have G_count_own_complements := ok_count_own_complements (P := P) (w := w) (base := base) (ca := fun _ => 0) T G_count_box
  have G_count_symmetric := ok_count_symmetric (P := P) (w := w) (base := base) (ca := fun _ => 0) T G_ratio
  have G_count_total := ok_count_total (P := P) (w := w) (base := base) (ca := fun _ => 0) T G_ratio
  have G_is_cyclic := ok_is_cyclic (P := P) (w := w) (base := base) (ca := fun _ => 0) T 
  have G_is_own_complement := ok_is_own_complement (P := P) (w := w) (base := base) (ca := fun _ => 0) T 
  have G_is_symmetric := ok_is_symmetric (P := P) (w := w) (base := base) (ca := fun _ => 0) T 
  exact ok_law T F21 G__law_cyclic G__law_own G__law_plain G__law_planes G__law_products G__law_symmetric G__law_take G_count_cyclic G_count_own_complements G_count_symmetric G_count_total G_is_cyclic G_is_own_complement G_is_symmetric G__law_deck hl
end Zv
namespace Zv
open PySem PySem.Spec PyProof.Rows L2 RZ
/-! ## the plain law -/
theorem b4 (x : Int) : x % 4 = 0 ∨ x % 4 = 1 ∨ x % 4 = 2 ∨ x % 4 = 3 := by omega
theorem b3 (x : Int) : x % 3 = 0 ∨ x % 3 = 1 ∨ x % 3 = 2 := by omega
theorem b5 (x : Int) : x % 5 = 0 ∨ x % 5 = 1 ∨ x % 5 = 2 ∨ x % 5 = 3 ∨ x % 5 = 4 := by omega
theorem b9 (x : Int) : ∃ n : Nat, n < 9 ∧ x % 9 = (n : Int) := ⟨(x % 9).toNat, by omega, by omega⟩
def la : List (List Nat × SF) := [([], ls_0)]
def lb : List (List Nat × SF) := [([], ls_1), ([], ls_2), ([5], ls_3), ([5], ls_4), ([], ls_5)]
def lc : List (List Nat × SF) := [([], ls_6)]
def ld : List (List Nat × SF) := [([], ls_7)]
def le : List (List Nat × SF) := [([], ls_8), ([5], ls_9), ([5], ls_10), ([], ls_11)]
def lf : List (List Nat × SF) := [([], ls_12)]
def lg : List (List Nat × SF) := [([], ls_13), ([5], ls_14), ([5], ls_15), ([5], ls_16), ([], ls_17), ([], ls_18)]
def lh : List (List Nat × SF) := [([], ls_19)]
def li : List (List Nat × SF) := [([], ls_20)]
theorem law_parts : law_l = la ++ (lb ++ (lc ++ (ld ++ (le ++ (lf ++ (lg ++ (lh ++ li))))))) := rfl
theorem pa (x y z : Int) (δ : List Int) : blk la (.un :: .dk :: uns 12) (x :: y :: z :: δ) = .nx [.un, .dk, .int (x % 4), .int (y % 4), .int (z % 4), .un, .un, .un, .un, .un, .un, .un, .un, .un] δ := by kernel_rfl
theorem pc (b c d p o : D) (x : Int) (δ : List Int) : blk lc [.un, .dk, b, c, d, p, o, .un, .un, .un, .un, .un, .un, .un] (x :: δ) = .nx [.un, .dk, b, c, d, p, o, .int (x % 4), .un, .un, .un, .un, .un, .un] δ := by kernel_rfl
theorem pf (b c d p o s h u : D) (x : Int) (δ : List Int) : blk lf [.un, .dk, b, c, d, p, o, s, h, u, .un, .un, .un, .un] (x :: δ) = .nx [.un, .dk, b, c, d, p, o, s, h, u, .int (x % 3), .un, .un, .un] δ := by kernel_rfl
theorem ph (b c d p o s h u i v : D) (x y z : Int) (δ : List Int) : blk lh [.un, .dk, b, c, d, p, o, s, h, u, i, v, .un, .un] (x :: y :: z :: δ) = .nx [.un, .dk, .int (x % 9), .int (y % 9), .int (z % 9), p, o, s, h, u, i, v, .un, .un] δ := by kernel_rfl
def Pb (a b c : Int) : Prop := ∀ δ, ∃ d p o, blk lb [.un, .dk, .int a, .int b, .int c, .un, .un, .un, .un, .un, .un, .un, .un, .un] δ = .nx [.un, .dk, .int a, .int b, d, p, o, .un, .un, .un, .un, .un, .un, .un] δ
theorem pb000 : Pb 0 0 0 := fun δ => ⟨gt (stOf (blk lb [.un, .dk, .int 0, .int 0, .int 0, .un, .un, .un, .un, .un, .un, .un, .un, .un] δ)) 4, gt (stOf (blk lb [.un, .dk, .int 0, .int 0, .int 0, .un, .un, .un, .un, .un, .un, .un, .un, .un] δ)) 5, gt (stOf (blk lb [.un, .dk, .int 0, .int 0, .int 0, .un, .un, .un, .un, .un, .un, .un, .un, .un] δ)) 6, by kernel_rfl⟩
theorem pb001 : Pb 0 0 1 := fun δ => ⟨gt (stOf (blk lb [.un, .dk, .int 0, .int 0, .int 1, .un, .un, .un, .un, .un, .un, .un, .un, .un] δ)) 4, gt (stOf (blk lb [.un, .dk, .int 0, .int 0, .int 1, .un, .un, .un, .un, .un, .un, .un, .un, .un] δ)) 5, gt (stOf (blk lb [.un, .dk, .int 0, .int 0, .int 1, .un, .un, .un, .un, .un, .un, .un, .un, .un] δ)) 6, by kernel_rfl⟩
theorem pb002 : Pb 0 0 2 := fun δ => ⟨gt (stOf (blk lb [.un, .dk, .int 0, .int 0, .int 2, .un, .un, .un, .un, .un, .un, .un, .un, .un] δ)) 4, gt (stOf (blk lb [.un, .dk, .int 0, .int 0, .int 2, .un, .un, .un, .un, .un, .un, .un, .un, .un] δ)) 5, gt (stOf (blk lb [.un, .dk, .int 0, .int 0, .int 2, .un, .un, .un, .un, .un, .un, .un, .un, .un] δ)) 6, by kernel_rfl⟩
theorem pb003 : Pb 0 0 3 := fun δ => ⟨gt (stOf (blk lb [.un, .dk, .int 0, .int 0, .int 3, .un, .un, .un, .un, .un, .un, .un, .un, .un] δ)) 4, gt (stOf (blk lb [.un, .dk, .int 0, .int 0, .int 3, .un, .un, .un, .un, .un, .un, .un, .un, .un] δ)) 5, gt (stOf (blk lb [.un, .dk, .int 0, .int 0, .int 3, .un, .un, .un, .un, .un, .un, .un, .un, .un] δ)) 6, by kernel_rfl⟩
theorem pb010 : Pb 0 1 0 := fun δ => ⟨gt (stOf (blk lb [.un, .dk, .int 0, .int 1, .int 0, .un, .un, .un, .un, .un, .un, .un, .un, .un] δ)) 4, gt (stOf (blk lb [.un, .dk, .int 0, .int 1, .int 0, .un, .un, .un, .un, .un, .un, .un, .un, .un] δ)) 5, gt (stOf (blk lb [.un, .dk, .int 0, .int 1, .int 0, .un, .un, .un, .un, .un, .un, .un, .un, .un] δ)) 6, by kernel_rfl⟩
theorem pb011 : Pb 0 1 1 := fun δ => ⟨gt (stOf (blk lb [.un, .dk, .int 0, .int 1, .int 1, .un, .un, .un, .un, .un, .un, .un, .un, .un] δ)) 4, gt (stOf (blk lb [.un, .dk, .int 0, .int 1, .int 1, .un, .un, .un, .un, .un, .un, .un, .un, .un] δ)) 5, gt (stOf (blk lb [.un, .dk, .int 0, .int 1, .int 1, .un, .un, .un, .un, .un, .un, .un, .un, .un] δ)) 6, by kernel_rfl⟩
theorem pb012 : Pb 0 1 2 := fun δ => ⟨gt (stOf (blk lb [.un, .dk, .int 0, .int 1, .int 2, .un, .un, .un, .un, .un, .un, .un, .un, .un] δ)) 4, gt (stOf (blk lb [.un, .dk, .int 0, .int 1, .int 2, .un, .un, .un, .un, .un, .un, .un, .un, .un] δ)) 5, gt (stOf (blk lb [.un, .dk, .int 0, .int 1, .int 2, .un, .un, .un, .un, .un, .un, .un, .un, .un] δ)) 6, by kernel_rfl⟩
theorem pb013 : Pb 0 1 3 := fun δ => ⟨gt (stOf (blk lb [.un, .dk, .int 0, .int 1, .int 3, .un, .un, .un, .un, .un, .un, .un, .un, .un] δ)) 4, gt (stOf (blk lb [.un, .dk, .int 0, .int 1, .int 3, .un, .un, .un, .un, .un, .un, .un, .un, .un] δ)) 5, gt (stOf (blk lb [.un, .dk, .int 0, .int 1, .int 3, .un, .un, .un, .un, .un, .un, .un, .un, .un] δ)) 6, by kernel_rfl⟩
theorem pb020 : Pb 0 2 0 := fun δ => ⟨gt (stOf (blk lb [.un, .dk, .int 0, .int 2, .int 0, .un, .un, .un, .un, .un, .un, .un, .un, .un] δ)) 4, gt (stOf (blk lb [.un, .dk, .int 0, .int 2, .int 0, .un, .un, .un, .un, .un, .un, .un, .un, .un] δ)) 5, gt (stOf (blk lb [.un, .dk, .int 0, .int 2, .int 0, .un, .un, .un, .un, .un, .un, .un, .un, .un] δ)) 6, by kernel_rfl⟩
theorem pb021 : Pb 0 2 1 := fun δ => ⟨gt (stOf (blk lb [.un, .dk, .int 0, .int 2, .int 1, .un, .un, .un, .un, .un, .un, .un, .un, .un] δ)) 4, gt (stOf (blk lb [.un, .dk, .int 0, .int 2, .int 1, .un, .un, .un, .un, .un, .un, .un, .un, .un] δ)) 5, gt (stOf (blk lb [.un, .dk, .int 0, .int 2, .int 1, .un, .un, .un, .un, .un, .un, .un, .un, .un] δ)) 6, by kernel_rfl⟩
theorem pb022 : Pb 0 2 2 := fun δ => ⟨gt (stOf (blk lb [.un, .dk, .int 0, .int 2, .int 2, .un, .un, .un, .un, .un, .un, .un, .un, .un] δ)) 4, gt (stOf (blk lb [.un, .dk, .int 0, .int 2, .int 2, .un, .un, .un, .un, .un, .un, .un, .un, .un] δ)) 5, gt (stOf (blk lb [.un, .dk, .int 0, .int 2, .int 2, .un, .un, .un, .un, .un, .un, .un, .un, .un] δ)) 6, by kernel_rfl⟩
theorem pb023 : Pb 0 2 3 := fun δ => ⟨gt (stOf (blk lb [.un, .dk, .int 0, .int 2, .int 3, .un, .un, .un, .un, .un, .un, .un, .un, .un] δ)) 4, gt (stOf (blk lb [.un, .dk, .int 0, .int 2, .int 3, .un, .un, .un, .un, .un, .un, .un, .un, .un] δ)) 5, gt (stOf (blk lb [.un, .dk, .int 0, .int 2, .int 3, .un, .un, .un, .un, .un, .un, .un, .un, .un] δ)) 6, by kernel_rfl⟩
theorem pb030 : Pb 0 3 0 := fun δ => ⟨gt (stOf (blk lb [.un, .dk, .int 0, .int 3, .int 0, .un, .un, .un, .un, .un, .un, .un, .un, .un] δ)) 4, gt (stOf (blk lb [.un, .dk, .int 0, .int 3, .int 0, .un, .un, .un, .un, .un, .un, .un, .un, .un] δ)) 5, gt (stOf (blk lb [.un, .dk, .int 0, .int 3, .int 0, .un, .un, .un, .un, .un, .un, .un, .un, .un] δ)) 6, by kernel_rfl⟩
theorem pb031 : Pb 0 3 1 := fun δ => ⟨gt (stOf (blk lb [.un, .dk, .int 0, .int 3, .int 1, .un, .un, .un, .un, .un, .un, .un, .un, .un] δ)) 4, gt (stOf (blk lb [.un, .dk, .int 0, .int 3, .int 1, .un, .un, .un, .un, .un, .un, .un, .un, .un] δ)) 5, gt (stOf (blk lb [.un, .dk, .int 0, .int 3, .int 1, .un, .un, .un, .un, .un, .un, .un, .un, .un] δ)) 6, by kernel_rfl⟩
theorem pb032 : Pb 0 3 2 := fun δ => ⟨gt (stOf (blk lb [.un, .dk, .int 0, .int 3, .int 2, .un, .un, .un, .un, .un, .un, .un, .un, .un] δ)) 4, gt (stOf (blk lb [.un, .dk, .int 0, .int 3, .int 2, .un, .un, .un, .un, .un, .un, .un, .un, .un] δ)) 5, gt (stOf (blk lb [.un, .dk, .int 0, .int 3, .int 2, .un, .un, .un, .un, .un, .un, .un, .un, .un] δ)) 6, by kernel_rfl⟩
theorem pb033 : Pb 0 3 3 := fun δ => ⟨gt (stOf (blk lb [.un, .dk, .int 0, .int 3, .int 3, .un, .un, .un, .un, .un, .un, .un, .un, .un] δ)) 4, gt (stOf (blk lb [.un, .dk, .int 0, .int 3, .int 3, .un, .un, .un, .un, .un, .un, .un, .un, .un] δ)) 5, gt (stOf (blk lb [.un, .dk, .int 0, .int 3, .int 3, .un, .un, .un, .un, .un, .un, .un, .un, .un] δ)) 6, by kernel_rfl⟩
theorem pb100 : Pb 1 0 0 := fun δ => ⟨gt (stOf (blk lb [.un, .dk, .int 1, .int 0, .int 0, .un, .un, .un, .un, .un, .un, .un, .un, .un] δ)) 4, gt (stOf (blk lb [.un, .dk, .int 1, .int 0, .int 0, .un, .un, .un, .un, .un, .un, .un, .un, .un] δ)) 5, gt (stOf (blk lb [.un, .dk, .int 1, .int 0, .int 0, .un, .un, .un, .un, .un, .un, .un, .un, .un] δ)) 6, by kernel_rfl⟩
theorem pb101 : Pb 1 0 1 := fun δ => ⟨gt (stOf (blk lb [.un, .dk, .int 1, .int 0, .int 1, .un, .un, .un, .un, .un, .un, .un, .un, .un] δ)) 4, gt (stOf (blk lb [.un, .dk, .int 1, .int 0, .int 1, .un, .un, .un, .un, .un, .un, .un, .un, .un] δ)) 5, gt (stOf (blk lb [.un, .dk, .int 1, .int 0, .int 1, .un, .un, .un, .un, .un, .un, .un, .un, .un] δ)) 6, by kernel_rfl⟩
theorem pb102 : Pb 1 0 2 := fun δ => ⟨gt (stOf (blk lb [.un, .dk, .int 1, .int 0, .int 2, .un, .un, .un, .un, .un, .un, .un, .un, .un] δ)) 4, gt (stOf (blk lb [.un, .dk, .int 1, .int 0, .int 2, .un, .un, .un, .un, .un, .un, .un, .un, .un] δ)) 5, gt (stOf (blk lb [.un, .dk, .int 1, .int 0, .int 2, .un, .un, .un, .un, .un, .un, .un, .un, .un] δ)) 6, by kernel_rfl⟩
theorem pb103 : Pb 1 0 3 := fun δ => ⟨gt (stOf (blk lb [.un, .dk, .int 1, .int 0, .int 3, .un, .un, .un, .un, .un, .un, .un, .un, .un] δ)) 4, gt (stOf (blk lb [.un, .dk, .int 1, .int 0, .int 3, .un, .un, .un, .un, .un, .un, .un, .un, .un] δ)) 5, gt (stOf (blk lb [.un, .dk, .int 1, .int 0, .int 3, .un, .un, .un, .un, .un, .un, .un, .un, .un] δ)) 6, by kernel_rfl⟩
theorem pb110 : Pb 1 1 0 := fun δ => ⟨gt (stOf (blk lb [.un, .dk, .int 1, .int 1, .int 0, .un, .un, .un, .un, .un, .un, .un, .un, .un] δ)) 4, gt (stOf (blk lb [.un, .dk, .int 1, .int 1, .int 0, .un, .un, .un, .un, .un, .un, .un, .un, .un] δ)) 5, gt (stOf (blk lb [.un, .dk, .int 1, .int 1, .int 0, .un, .un, .un, .un, .un, .un, .un, .un, .un] δ)) 6, by kernel_rfl⟩
theorem pb111 : Pb 1 1 1 := fun δ => ⟨gt (stOf (blk lb [.un, .dk, .int 1, .int 1, .int 1, .un, .un, .un, .un, .un, .un, .un, .un, .un] δ)) 4, gt (stOf (blk lb [.un, .dk, .int 1, .int 1, .int 1, .un, .un, .un, .un, .un, .un, .un, .un, .un] δ)) 5, gt (stOf (blk lb [.un, .dk, .int 1, .int 1, .int 1, .un, .un, .un, .un, .un, .un, .un, .un, .un] δ)) 6, by kernel_rfl⟩
theorem pb112 : Pb 1 1 2 := fun δ => ⟨gt (stOf (blk lb [.un, .dk, .int 1, .int 1, .int 2, .un, .un, .un, .un, .un, .un, .un, .un, .un] δ)) 4, gt (stOf (blk lb [.un, .dk, .int 1, .int 1, .int 2, .un, .un, .un, .un, .un, .un, .un, .un, .un] δ)) 5, gt (stOf (blk lb [.un, .dk, .int 1, .int 1, .int 2, .un, .un, .un, .un, .un, .un, .un, .un, .un] δ)) 6, by kernel_rfl⟩
theorem pb113 : Pb 1 1 3 := fun δ => ⟨gt (stOf (blk lb [.un, .dk, .int 1, .int 1, .int 3, .un, .un, .un, .un, .un, .un, .un, .un, .un] δ)) 4, gt (stOf (blk lb [.un, .dk, .int 1, .int 1, .int 3, .un, .un, .un, .un, .un, .un, .un, .un, .un] δ)) 5, gt (stOf (blk lb [.un, .dk, .int 1, .int 1, .int 3, .un, .un, .un, .un, .un, .un, .un, .un, .un] δ)) 6, by kernel_rfl⟩
theorem pb120 : Pb 1 2 0 := fun δ => ⟨gt (stOf (blk lb [.un, .dk, .int 1, .int 2, .int 0, .un, .un, .un, .un, .un, .un, .un, .un, .un] δ)) 4, gt (stOf (blk lb [.un, .dk, .int 1, .int 2, .int 0, .un, .un, .un, .un, .un, .un, .un, .un, .un] δ)) 5, gt (stOf (blk lb [.un, .dk, .int 1, .int 2, .int 0, .un, .un, .un, .un, .un, .un, .un, .un, .un] δ)) 6, by kernel_rfl⟩
theorem pb121 : Pb 1 2 1 := fun δ => ⟨gt (stOf (blk lb [.un, .dk, .int 1, .int 2, .int 1, .un, .un, .un, .un, .un, .un, .un, .un, .un] δ)) 4, gt (stOf (blk lb [.un, .dk, .int 1, .int 2, .int 1, .un, .un, .un, .un, .un, .un, .un, .un, .un] δ)) 5, gt (stOf (blk lb [.un, .dk, .int 1, .int 2, .int 1, .un, .un, .un, .un, .un, .un, .un, .un, .un] δ)) 6, by kernel_rfl⟩
theorem pb122 : Pb 1 2 2 := fun δ => ⟨gt (stOf (blk lb [.un, .dk, .int 1, .int 2, .int 2, .un, .un, .un, .un, .un, .un, .un, .un, .un] δ)) 4, gt (stOf (blk lb [.un, .dk, .int 1, .int 2, .int 2, .un, .un, .un, .un, .un, .un, .un, .un, .un] δ)) 5, gt (stOf (blk lb [.un, .dk, .int 1, .int 2, .int 2, .un, .un, .un, .un, .un, .un, .un, .un, .un] δ)) 6, by kernel_rfl⟩
theorem pb123 : Pb 1 2 3 := fun δ => ⟨gt (stOf (blk lb [.un, .dk, .int 1, .int 2, .int 3, .un, .un, .un, .un, .un, .un, .un, .un, .un] δ)) 4, gt (stOf (blk lb [.un, .dk, .int 1, .int 2, .int 3, .un, .un, .un, .un, .un, .un, .un, .un, .un] δ)) 5, gt (stOf (blk lb [.un, .dk, .int 1, .int 2, .int 3, .un, .un, .un, .un, .un, .un, .un, .un, .un] δ)) 6, by kernel_rfl⟩
theorem pb130 : Pb 1 3 0 := fun δ => ⟨gt (stOf (blk lb [.un, .dk, .int 1, .int 3, .int 0, .un, .un, .un, .un, .un, .un, .un, .un, .un] δ)) 4, gt (stOf (blk lb [.un, .dk, .int 1, .int 3, .int 0, .un, .un, .un, .un, .un, .un, .un, .un, .un] δ)) 5, gt (stOf (blk lb [.un, .dk, .int 1, .int 3, .int 0, .un, .un, .un, .un, .un, .un, .un, .un, .un] δ)) 6, by kernel_rfl⟩
theorem pb131 : Pb 1 3 1 := fun δ => ⟨gt (stOf (blk lb [.un, .dk, .int 1, .int 3, .int 1, .un, .un, .un, .un, .un, .un, .un, .un, .un] δ)) 4, gt (stOf (blk lb [.un, .dk, .int 1, .int 3, .int 1, .un, .un, .un, .un, .un, .un, .un, .un, .un] δ)) 5, gt (stOf (blk lb [.un, .dk, .int 1, .int 3, .int 1, .un, .un, .un, .un, .un, .un, .un, .un, .un] δ)) 6, by kernel_rfl⟩
theorem pb132 : Pb 1 3 2 := fun δ => ⟨gt (stOf (blk lb [.un, .dk, .int 1, .int 3, .int 2, .un, .un, .un, .un, .un, .un, .un, .un, .un] δ)) 4, gt (stOf (blk lb [.un, .dk, .int 1, .int 3, .int 2, .un, .un, .un, .un, .un, .un, .un, .un, .un] δ)) 5, gt (stOf (blk lb [.un, .dk, .int 1, .int 3, .int 2, .un, .un, .un, .un, .un, .un, .un, .un, .un] δ)) 6, by kernel_rfl⟩
theorem pb133 : Pb 1 3 3 := fun δ => ⟨gt (stOf (blk lb [.un, .dk, .int 1, .int 3, .int 3, .un, .un, .un, .un, .un, .un, .un, .un, .un] δ)) 4, gt (stOf (blk lb [.un, .dk, .int 1, .int 3, .int 3, .un, .un, .un, .un, .un, .un, .un, .un, .un] δ)) 5, gt (stOf (blk lb [.un, .dk, .int 1, .int 3, .int 3, .un, .un, .un, .un, .un, .un, .un, .un, .un] δ)) 6, by kernel_rfl⟩
theorem pb200 : Pb 2 0 0 := fun δ => ⟨gt (stOf (blk lb [.un, .dk, .int 2, .int 0, .int 0, .un, .un, .un, .un, .un, .un, .un, .un, .un] δ)) 4, gt (stOf (blk lb [.un, .dk, .int 2, .int 0, .int 0, .un, .un, .un, .un, .un, .un, .un, .un, .un] δ)) 5, gt (stOf (blk lb [.un, .dk, .int 2, .int 0, .int 0, .un, .un, .un, .un, .un, .un, .un, .un, .un] δ)) 6, by kernel_rfl⟩
theorem pb201 : Pb 2 0 1 := fun δ => ⟨gt (stOf (blk lb [.un, .dk, .int 2, .int 0, .int 1, .un, .un, .un, .un, .un, .un, .un, .un, .un] δ)) 4, gt (stOf (blk lb [.un, .dk, .int 2, .int 0, .int 1, .un, .un, .un, .un, .un, .un, .un, .un, .un] δ)) 5, gt (stOf (blk lb [.un, .dk, .int 2, .int 0, .int 1, .un, .un, .un, .un, .un, .un, .un, .un, .un] δ)) 6, by kernel_rfl⟩
theorem pb202 : Pb 2 0 2 := fun δ => ⟨gt (stOf (blk lb [.un, .dk, .int 2, .int 0, .int 2, .un, .un, .un, .un, .un, .un, .un, .un, .un] δ)) 4, gt (stOf (blk lb [.un, .dk, .int 2, .int 0, .int 2, .un, .un, .un, .un, .un, .un, .un, .un, .un] δ)) 5, gt (stOf (blk lb [.un, .dk, .int 2, .int 0, .int 2, .un, .un, .un, .un, .un, .un, .un, .un, .un] δ)) 6, by kernel_rfl⟩
theorem pb203 : Pb 2 0 3 := fun δ => ⟨gt (stOf (blk lb [.un, .dk, .int 2, .int 0, .int 3, .un, .un, .un, .un, .un, .un, .un, .un, .un] δ)) 4, gt (stOf (blk lb [.un, .dk, .int 2, .int 0, .int 3, .un, .un, .un, .un, .un, .un, .un, .un, .un] δ)) 5, gt (stOf (blk lb [.un, .dk, .int 2, .int 0, .int 3, .un, .un, .un, .un, .un, .un, .un, .un, .un] δ)) 6, by kernel_rfl⟩
theorem pb210 : Pb 2 1 0 := fun δ => ⟨gt (stOf (blk lb [.un, .dk, .int 2, .int 1, .int 0, .un, .un, .un, .un, .un, .un, .un, .un, .un] δ)) 4, gt (stOf (blk lb [.un, .dk, .int 2, .int 1, .int 0, .un, .un, .un, .un, .un, .un, .un, .un, .un] δ)) 5, gt (stOf (blk lb [.un, .dk, .int 2, .int 1, .int 0, .un, .un, .un, .un, .un, .un, .un, .un, .un] δ)) 6, by kernel_rfl⟩
theorem pb211 : Pb 2 1 1 := fun δ => ⟨gt (stOf (blk lb [.un, .dk, .int 2, .int 1, .int 1, .un, .un, .un, .un, .un, .un, .un, .un, .un] δ)) 4, gt (stOf (blk lb [.un, .dk, .int 2, .int 1, .int 1, .un, .un, .un, .un, .un, .un, .un, .un, .un] δ)) 5, gt (stOf (blk lb [.un, .dk, .int 2, .int 1, .int 1, .un, .un, .un, .un, .un, .un, .un, .un, .un] δ)) 6, by kernel_rfl⟩
theorem pb212 : Pb 2 1 2 := fun δ => ⟨gt (stOf (blk lb [.un, .dk, .int 2, .int 1, .int 2, .un, .un, .un, .un, .un, .un, .un, .un, .un] δ)) 4, gt (stOf (blk lb [.un, .dk, .int 2, .int 1, .int 2, .un, .un, .un, .un, .un, .un, .un, .un, .un] δ)) 5, gt (stOf (blk lb [.un, .dk, .int 2, .int 1, .int 2, .un, .un, .un, .un, .un, .un, .un, .un, .un] δ)) 6, by kernel_rfl⟩
theorem pb213 : Pb 2 1 3 := fun δ => ⟨gt (stOf (blk lb [.un, .dk, .int 2, .int 1, .int 3, .un, .un, .un, .un, .un, .un, .un, .un, .un] δ)) 4, gt (stOf (blk lb [.un, .dk, .int 2, .int 1, .int 3, .un, .un, .un, .un, .un, .un, .un, .un, .un] δ)) 5, gt (stOf (blk lb [.un, .dk, .int 2, .int 1, .int 3, .un, .un, .un, .un, .un, .un, .un, .un, .un] δ)) 6, by kernel_rfl⟩
theorem pb220 : Pb 2 2 0 := fun δ => ⟨gt (stOf (blk lb [.un, .dk, .int 2, .int 2, .int 0, .un, .un, .un, .un, .un, .un, .un, .un, .un] δ)) 4, gt (stOf (blk lb [.un, .dk, .int 2, .int 2, .int 0, .un, .un, .un, .un, .un, .un, .un, .un, .un] δ)) 5, gt (stOf (blk lb [.un, .dk, .int 2, .int 2, .int 0, .un, .un, .un, .un, .un, .un, .un, .un, .un] δ)) 6, by kernel_rfl⟩
theorem pb221 : Pb 2 2 1 := fun δ => ⟨gt (stOf (blk lb [.un, .dk, .int 2, .int 2, .int 1, .un, .un, .un, .un, .un, .un, .un, .un, .un] δ)) 4, gt (stOf (blk lb [.un, .dk, .int 2, .int 2, .int 1, .un, .un, .un, .un, .un, .un, .un, .un, .un] δ)) 5, gt (stOf (blk lb [.un, .dk, .int 2, .int 2, .int 1, .un, .un, .un, .un, .un, .un, .un, .un, .un] δ)) 6, by kernel_rfl⟩
theorem pb222 : Pb 2 2 2 := fun δ => ⟨gt (stOf (blk lb [.un, .dk, .int 2, .int 2, .int 2, .un, .un, .un, .un, .un, .un, .un, .un, .un] δ)) 4, gt (stOf (blk lb [.un, .dk, .int 2, .int 2, .int 2, .un, .un, .un, .un, .un, .un, .un, .un, .un] δ)) 5, gt (stOf (blk lb [.un, .dk, .int 2, .int 2, .int 2, .un, .un, .un, .un, .un, .un, .un, .un, .un] δ)) 6, by kernel_rfl⟩
theorem pb223 : Pb 2 2 3 := fun δ => ⟨gt (stOf (blk lb [.un, .dk, .int 2, .int 2, .int 3, .un, .un, .un, .un, .un, .un, .un, .un, .un] δ)) 4, gt (stOf (blk lb [.un, .dk, .int 2, .int 2, .int 3, .un, .un, .un, .un, .un, .un, .un, .un, .un] δ)) 5, gt (stOf (blk lb [.un, .dk, .int 2, .int 2, .int 3, .un, .un, .un, .un, .un, .un, .un, .un, .un] δ)) 6, by kernel_rfl⟩
theorem pb230 : Pb 2 3 0 := fun δ => ⟨gt (stOf (blk lb [.un, .dk, .int 2, .int 3, .int 0, .un, .un, .un, .un, .un, .un, .un, .un, .un] δ)) 4, gt (stOf (blk lb [.un, .dk, .int 2, .int 3, .int 0, .un, .un, .un, .un, .un, .un, .un, .un, .un] δ)) 5, gt (stOf (blk lb [.un, .dk, .int 2, .int 3, .int 0, .un, .un, .un, .un, .un, .un, .un, .un, .un] δ)) 6, by kernel_rfl⟩
theorem pb231 : Pb 2 3 1 := fun δ => ⟨gt (stOf (blk lb [.un, .dk, .int 2, .int 3, .int 1, .un, .un, .un, .un, .un, .un, .un, .un, .un] δ)) 4, gt (stOf (blk lb [.un, .dk, .int 2, .int 3, .int 1, .un, .un, .un, .un, .un, .un, .un, .un, .un] δ)) 5, gt (stOf (blk lb [.un, .dk, .int 2, .int 3, .int 1, .un, .un, .un, .un, .un, .un, .un, .un, .un] δ)) 6, by kernel_rfl⟩
theorem pb232 : Pb 2 3 2 := fun δ => ⟨gt (stOf (blk lb [.un, .dk, .int 2, .int 3, .int 2, .un, .un, .un, .un, .un, .un, .un, .un, .un] δ)) 4, gt (stOf (blk lb [.un, .dk, .int 2, .int 3, .int 2, .un, .un, .un, .un, .un, .un, .un, .un, .un] δ)) 5, gt (stOf (blk lb [.un, .dk, .int 2, .int 3, .int 2, .un, .un, .un, .un, .un, .un, .un, .un, .un] δ)) 6, by kernel_rfl⟩
theorem pb233 : Pb 2 3 3 := fun δ => ⟨gt (stOf (blk lb [.un, .dk, .int 2, .int 3, .int 3, .un, .un, .un, .un, .un, .un, .un, .un, .un] δ)) 4, gt (stOf (blk lb [.un, .dk, .int 2, .int 3, .int 3, .un, .un, .un, .un, .un, .un, .un, .un, .un] δ)) 5, gt (stOf (blk lb [.un, .dk, .int 2, .int 3, .int 3, .un, .un, .un, .un, .un, .un, .un, .un, .un] δ)) 6, by kernel_rfl⟩
theorem pb300 : Pb 3 0 0 := fun δ => ⟨gt (stOf (blk lb [.un, .dk, .int 3, .int 0, .int 0, .un, .un, .un, .un, .un, .un, .un, .un, .un] δ)) 4, gt (stOf (blk lb [.un, .dk, .int 3, .int 0, .int 0, .un, .un, .un, .un, .un, .un, .un, .un, .un] δ)) 5, gt (stOf (blk lb [.un, .dk, .int 3, .int 0, .int 0, .un, .un, .un, .un, .un, .un, .un, .un, .un] δ)) 6, by kernel_rfl⟩
theorem pb301 : Pb 3 0 1 := fun δ => ⟨gt (stOf (blk lb [.un, .dk, .int 3, .int 0, .int 1, .un, .un, .un, .un, .un, .un, .un, .un, .un] δ)) 4, gt (stOf (blk lb [.un, .dk, .int 3, .int 0, .int 1, .un, .un, .un, .un, .un, .un, .un, .un, .un] δ)) 5, gt (stOf (blk lb [.un, .dk, .int 3, .int 0, .int 1, .un, .un, .un, .un, .un, .un, .un, .un, .un] δ)) 6, by kernel_rfl⟩
theorem pb302 : Pb 3 0 2 := fun δ => ⟨gt (stOf (blk lb [.un, .dk, .int 3, .int 0, .int 2, .un, .un, .un, .un, .un, .un, .un, .un, .un] δ)) 4, gt (stOf (blk lb [.un, .dk, .int 3, .int 0, .int 2, .un, .un, .un, .un, .un, .un, .un, .un, .un] δ)) 5, gt (stOf (blk lb [.un, .dk, .int 3, .int 0, .int 2, .un, .un, .un, .un, .un, .un, .un, .un, .un] δ)) 6, by kernel_rfl⟩
theorem pb303 : Pb 3 0 3 := fun δ => ⟨gt (stOf (blk lb [.un, .dk, .int 3, .int 0, .int 3, .un, .un, .un, .un, .un, .un, .un, .un, .un] δ)) 4, gt (stOf (blk lb [.un, .dk, .int 3, .int 0, .int 3, .un, .un, .un, .un, .un, .un, .un, .un, .un] δ)) 5, gt (stOf (blk lb [.un, .dk, .int 3, .int 0, .int 3, .un, .un, .un, .un, .un, .un, .un, .un, .un] δ)) 6, by kernel_rfl⟩
theorem pb310 : Pb 3 1 0 := fun δ => ⟨gt (stOf (blk lb [.un, .dk, .int 3, .int 1, .int 0, .un, .un, .un, .un, .un, .un, .un, .un, .un] δ)) 4, gt (stOf (blk lb [.un, .dk, .int 3, .int 1, .int 0, .un, .un, .un, .un, .un, .un, .un, .un, .un] δ)) 5, gt (stOf (blk lb [.un, .dk, .int 3, .int 1, .int 0, .un, .un, .un, .un, .un, .un, .un, .un, .un] δ)) 6, by kernel_rfl⟩
theorem pb311 : Pb 3 1 1 := fun δ => ⟨gt (stOf (blk lb [.un, .dk, .int 3, .int 1, .int 1, .un, .un, .un, .un, .un, .un, .un, .un, .un] δ)) 4, gt (stOf (blk lb [.un, .dk, .int 3, .int 1, .int 1, .un, .un, .un, .un, .un, .un, .un, .un, .un] δ)) 5, gt (stOf (blk lb [.un, .dk, .int 3, .int 1, .int 1, .un, .un, .un, .un, .un, .un, .un, .un, .un] δ)) 6, by kernel_rfl⟩
theorem pb312 : Pb 3 1 2 := fun δ => ⟨gt (stOf (blk lb [.un, .dk, .int 3, .int 1, .int 2, .un, .un, .un, .un, .un, .un, .un, .un, .un] δ)) 4, gt (stOf (blk lb [.un, .dk, .int 3, .int 1, .int 2, .un, .un, .un, .un, .un, .un, .un, .un, .un] δ)) 5, gt (stOf (blk lb [.un, .dk, .int 3, .int 1, .int 2, .un, .un, .un, .un, .un, .un, .un, .un, .un] δ)) 6, by kernel_rfl⟩
theorem pb313 : Pb 3 1 3 := fun δ => ⟨gt (stOf (blk lb [.un, .dk, .int 3, .int 1, .int 3, .un, .un, .un, .un, .un, .un, .un, .un, .un] δ)) 4, gt (stOf (blk lb [.un, .dk, .int 3, .int 1, .int 3, .un, .un, .un, .un, .un, .un, .un, .un, .un] δ)) 5, gt (stOf (blk lb [.un, .dk, .int 3, .int 1, .int 3, .un, .un, .un, .un, .un, .un, .un, .un, .un] δ)) 6, by kernel_rfl⟩
theorem pb320 : Pb 3 2 0 := fun δ => ⟨gt (stOf (blk lb [.un, .dk, .int 3, .int 2, .int 0, .un, .un, .un, .un, .un, .un, .un, .un, .un] δ)) 4, gt (stOf (blk lb [.un, .dk, .int 3, .int 2, .int 0, .un, .un, .un, .un, .un, .un, .un, .un, .un] δ)) 5, gt (stOf (blk lb [.un, .dk, .int 3, .int 2, .int 0, .un, .un, .un, .un, .un, .un, .un, .un, .un] δ)) 6, by kernel_rfl⟩
theorem pb321 : Pb 3 2 1 := fun δ => ⟨gt (stOf (blk lb [.un, .dk, .int 3, .int 2, .int 1, .un, .un, .un, .un, .un, .un, .un, .un, .un] δ)) 4, gt (stOf (blk lb [.un, .dk, .int 3, .int 2, .int 1, .un, .un, .un, .un, .un, .un, .un, .un, .un] δ)) 5, gt (stOf (blk lb [.un, .dk, .int 3, .int 2, .int 1, .un, .un, .un, .un, .un, .un, .un, .un, .un] δ)) 6, by kernel_rfl⟩
theorem pb322 : Pb 3 2 2 := fun δ => ⟨gt (stOf (blk lb [.un, .dk, .int 3, .int 2, .int 2, .un, .un, .un, .un, .un, .un, .un, .un, .un] δ)) 4, gt (stOf (blk lb [.un, .dk, .int 3, .int 2, .int 2, .un, .un, .un, .un, .un, .un, .un, .un, .un] δ)) 5, gt (stOf (blk lb [.un, .dk, .int 3, .int 2, .int 2, .un, .un, .un, .un, .un, .un, .un, .un, .un] δ)) 6, by kernel_rfl⟩
theorem pb323 : Pb 3 2 3 := fun δ => ⟨gt (stOf (blk lb [.un, .dk, .int 3, .int 2, .int 3, .un, .un, .un, .un, .un, .un, .un, .un, .un] δ)) 4, gt (stOf (blk lb [.un, .dk, .int 3, .int 2, .int 3, .un, .un, .un, .un, .un, .un, .un, .un, .un] δ)) 5, gt (stOf (blk lb [.un, .dk, .int 3, .int 2, .int 3, .un, .un, .un, .un, .un, .un, .un, .un, .un] δ)) 6, by kernel_rfl⟩
theorem pb330 : Pb 3 3 0 := fun δ => ⟨gt (stOf (blk lb [.un, .dk, .int 3, .int 3, .int 0, .un, .un, .un, .un, .un, .un, .un, .un, .un] δ)) 4, gt (stOf (blk lb [.un, .dk, .int 3, .int 3, .int 0, .un, .un, .un, .un, .un, .un, .un, .un, .un] δ)) 5, gt (stOf (blk lb [.un, .dk, .int 3, .int 3, .int 0, .un, .un, .un, .un, .un, .un, .un, .un, .un] δ)) 6, by kernel_rfl⟩
theorem pb331 : Pb 3 3 1 := fun δ => ⟨gt (stOf (blk lb [.un, .dk, .int 3, .int 3, .int 1, .un, .un, .un, .un, .un, .un, .un, .un, .un] δ)) 4, gt (stOf (blk lb [.un, .dk, .int 3, .int 3, .int 1, .un, .un, .un, .un, .un, .un, .un, .un, .un] δ)) 5, gt (stOf (blk lb [.un, .dk, .int 3, .int 3, .int 1, .un, .un, .un, .un, .un, .un, .un, .un, .un] δ)) 6, by kernel_rfl⟩
theorem pb332 : Pb 3 3 2 := fun δ => ⟨gt (stOf (blk lb [.un, .dk, .int 3, .int 3, .int 2, .un, .un, .un, .un, .un, .un, .un, .un, .un] δ)) 4, gt (stOf (blk lb [.un, .dk, .int 3, .int 3, .int 2, .un, .un, .un, .un, .un, .un, .un, .un, .un] δ)) 5, gt (stOf (blk lb [.un, .dk, .int 3, .int 3, .int 2, .un, .un, .un, .un, .un, .un, .un, .un, .un] δ)) 6, by kernel_rfl⟩
theorem pb333 : Pb 3 3 3 := fun δ => ⟨gt (stOf (blk lb [.un, .dk, .int 3, .int 3, .int 3, .un, .un, .un, .un, .un, .un, .un, .un, .un] δ)) 4, gt (stOf (blk lb [.un, .dk, .int 3, .int 3, .int 3, .un, .un, .un, .un, .un, .un, .un, .un, .un] δ)) 5, gt (stOf (blk lb [.un, .dk, .int 3, .int 3, .int 3, .un, .un, .un, .un, .un, .un, .un, .un, .un] δ)) 6, by kernel_rfl⟩
theorem pb (x y z : Int) : Pb (x % 4) (y % 4) (z % 4) := by
  rcases b4 x with e | e | e | e <;> rcases b4 y with f | f | f | f <;> rcases b4 z with g | g | g | g <;> rw [e, f, g]
  · exact pb000
  · exact pb001
  · exact pb002
  · exact pb003
  · exact pb010
  · exact pb011
  · exact pb012
  · exact pb013
  · exact pb020
  · exact pb021
  · exact pb022
  · exact pb023
  · exact pb030
  · exact pb031
  · exact pb032
  · exact pb033
  · exact pb100
  · exact pb101
  · exact pb102
  · exact pb103
  · exact pb110
  · exact pb111
  · exact pb112
  · exact pb113
  · exact pb120
  · exact pb121
  · exact pb122
  · exact pb123
  · exact pb130
  · exact pb131
  · exact pb132
  · exact pb133
  · exact pb200
  · exact pb201
  · exact pb202
  · exact pb203
  · exact pb210
  · exact pb211
  · exact pb212
  · exact pb213
  · exact pb220
  · exact pb221
  · exact pb222
  · exact pb223
  · exact pb230
  · exact pb231
  · exact pb232
  · exact pb233
  · exact pb300
  · exact pb301
  · exact pb302
  · exact pb303
  · exact pb310
  · exact pb311
  · exact pb312
  · exact pb313
  · exact pb320
  · exact pb321
  · exact pb322
  · exact pb323
  · exact pb330
  · exact pb331
  · exact pb332
  · exact pb333
def Pe (s h : Int) : Prop := ∀ (b c d p o : D) (δ : List Int), ∃ p' u, blk le [.un, .dk, b, c, d, p, o, .int s, .int h, .un, .un, .un, .un, .un] δ = .nx [.un, .dk, b, c, d, p', o, .int s, .int h, u, .un, .un, .un, .un] δ
theorem pe00 : Pe 0 0 := fun b c d p o δ => ⟨gt (stOf (blk le [.un, .dk, b, c, d, p, o, .int 0, .int 0, .un, .un, .un, .un, .un] δ)) 5, gt (stOf (blk le [.un, .dk, b, c, d, p, o, .int 0, .int 0, .un, .un, .un, .un, .un] δ)) 9, by kernel_rfl⟩
theorem pe01 : Pe 0 1 := fun b c d p o δ => ⟨gt (stOf (blk le [.un, .dk, b, c, d, p, o, .int 0, .int 1, .un, .un, .un, .un, .un] δ)) 5, gt (stOf (blk le [.un, .dk, b, c, d, p, o, .int 0, .int 1, .un, .un, .un, .un, .un] δ)) 9, by kernel_rfl⟩
theorem pe02 : Pe 0 2 := fun b c d p o δ => ⟨gt (stOf (blk le [.un, .dk, b, c, d, p, o, .int 0, .int 2, .un, .un, .un, .un, .un] δ)) 5, gt (stOf (blk le [.un, .dk, b, c, d, p, o, .int 0, .int 2, .un, .un, .un, .un, .un] δ)) 9, by kernel_rfl⟩
theorem pe03 : Pe 0 3 := fun b c d p o δ => ⟨gt (stOf (blk le [.un, .dk, b, c, d, p, o, .int 0, .int 3, .un, .un, .un, .un, .un] δ)) 5, gt (stOf (blk le [.un, .dk, b, c, d, p, o, .int 0, .int 3, .un, .un, .un, .un, .un] δ)) 9, by kernel_rfl⟩
theorem pe04 : Pe 0 4 := fun b c d p o δ => ⟨gt (stOf (blk le [.un, .dk, b, c, d, p, o, .int 0, .int 4, .un, .un, .un, .un, .un] δ)) 5, gt (stOf (blk le [.un, .dk, b, c, d, p, o, .int 0, .int 4, .un, .un, .un, .un, .un] δ)) 9, by kernel_rfl⟩
theorem pe10 : Pe 1 0 := fun b c d p o δ => ⟨gt (stOf (blk le [.un, .dk, b, c, d, p, o, .int 1, .int 0, .un, .un, .un, .un, .un] δ)) 5, gt (stOf (blk le [.un, .dk, b, c, d, p, o, .int 1, .int 0, .un, .un, .un, .un, .un] δ)) 9, by kernel_rfl⟩
theorem pe11 : Pe 1 1 := fun b c d p o δ => ⟨gt (stOf (blk le [.un, .dk, b, c, d, p, o, .int 1, .int 1, .un, .un, .un, .un, .un] δ)) 5, gt (stOf (blk le [.un, .dk, b, c, d, p, o, .int 1, .int 1, .un, .un, .un, .un, .un] δ)) 9, by kernel_rfl⟩
theorem pe12 : Pe 1 2 := fun b c d p o δ => ⟨gt (stOf (blk le [.un, .dk, b, c, d, p, o, .int 1, .int 2, .un, .un, .un, .un, .un] δ)) 5, gt (stOf (blk le [.un, .dk, b, c, d, p, o, .int 1, .int 2, .un, .un, .un, .un, .un] δ)) 9, by kernel_rfl⟩
theorem pe13 : Pe 1 3 := fun b c d p o δ => ⟨gt (stOf (blk le [.un, .dk, b, c, d, p, o, .int 1, .int 3, .un, .un, .un, .un, .un] δ)) 5, gt (stOf (blk le [.un, .dk, b, c, d, p, o, .int 1, .int 3, .un, .un, .un, .un, .un] δ)) 9, by kernel_rfl⟩
theorem pe14 : Pe 1 4 := fun b c d p o δ => ⟨gt (stOf (blk le [.un, .dk, b, c, d, p, o, .int 1, .int 4, .un, .un, .un, .un, .un] δ)) 5, gt (stOf (blk le [.un, .dk, b, c, d, p, o, .int 1, .int 4, .un, .un, .un, .un, .un] δ)) 9, by kernel_rfl⟩
theorem pe20 : Pe 2 0 := fun b c d p o δ => ⟨gt (stOf (blk le [.un, .dk, b, c, d, p, o, .int 2, .int 0, .un, .un, .un, .un, .un] δ)) 5, gt (stOf (blk le [.un, .dk, b, c, d, p, o, .int 2, .int 0, .un, .un, .un, .un, .un] δ)) 9, by kernel_rfl⟩
theorem pe21 : Pe 2 1 := fun b c d p o δ => ⟨gt (stOf (blk le [.un, .dk, b, c, d, p, o, .int 2, .int 1, .un, .un, .un, .un, .un] δ)) 5, gt (stOf (blk le [.un, .dk, b, c, d, p, o, .int 2, .int 1, .un, .un, .un, .un, .un] δ)) 9, by kernel_rfl⟩
theorem pe22 : Pe 2 2 := fun b c d p o δ => ⟨gt (stOf (blk le [.un, .dk, b, c, d, p, o, .int 2, .int 2, .un, .un, .un, .un, .un] δ)) 5, gt (stOf (blk le [.un, .dk, b, c, d, p, o, .int 2, .int 2, .un, .un, .un, .un, .un] δ)) 9, by kernel_rfl⟩
theorem pe23 : Pe 2 3 := fun b c d p o δ => ⟨gt (stOf (blk le [.un, .dk, b, c, d, p, o, .int 2, .int 3, .un, .un, .un, .un, .un] δ)) 5, gt (stOf (blk le [.un, .dk, b, c, d, p, o, .int 2, .int 3, .un, .un, .un, .un, .un] δ)) 9, by kernel_rfl⟩
theorem pe24 : Pe 2 4 := fun b c d p o δ => ⟨gt (stOf (blk le [.un, .dk, b, c, d, p, o, .int 2, .int 4, .un, .un, .un, .un, .un] δ)) 5, gt (stOf (blk le [.un, .dk, b, c, d, p, o, .int 2, .int 4, .un, .un, .un, .un, .un] δ)) 9, by kernel_rfl⟩
theorem pe30 : Pe 3 0 := fun b c d p o δ => ⟨gt (stOf (blk le [.un, .dk, b, c, d, p, o, .int 3, .int 0, .un, .un, .un, .un, .un] δ)) 5, gt (stOf (blk le [.un, .dk, b, c, d, p, o, .int 3, .int 0, .un, .un, .un, .un, .un] δ)) 9, by kernel_rfl⟩
theorem pe31 : Pe 3 1 := fun b c d p o δ => ⟨gt (stOf (blk le [.un, .dk, b, c, d, p, o, .int 3, .int 1, .un, .un, .un, .un, .un] δ)) 5, gt (stOf (blk le [.un, .dk, b, c, d, p, o, .int 3, .int 1, .un, .un, .un, .un, .un] δ)) 9, by kernel_rfl⟩
theorem pe32 : Pe 3 2 := fun b c d p o δ => ⟨gt (stOf (blk le [.un, .dk, b, c, d, p, o, .int 3, .int 2, .un, .un, .un, .un, .un] δ)) 5, gt (stOf (blk le [.un, .dk, b, c, d, p, o, .int 3, .int 2, .un, .un, .un, .un, .un] δ)) 9, by kernel_rfl⟩
theorem pd0 (b c d p o : D) (x : Int) (δ : List Int) : blk ld [.un, .dk, b, c, d, p, o, .int 0, .un, .un, .un, .un, .un, .un] (x :: δ) = .nx [.un, .dk, b, c, d, p, o, .int 0, .int (x % 5), .un, .un, .un, .un, .un] δ := by kernel_rfl
theorem pd1 (b c d p o : D) (x : Int) (δ : List Int) : blk ld [.un, .dk, b, c, d, p, o, .int 1, .un, .un, .un, .un, .un, .un] (x :: δ) = .nx [.un, .dk, b, c, d, p, o, .int 1, .int (x % 5), .un, .un, .un, .un, .un] δ := by kernel_rfl
theorem pd2 (b c d p o : D) (x : Int) (δ : List Int) : blk ld [.un, .dk, b, c, d, p, o, .int 2, .un, .un, .un, .un, .un, .un] (x :: δ) = .nx [.un, .dk, b, c, d, p, o, .int 2, .int (x % 5), .un, .un, .un, .un, .un] δ := by kernel_rfl
theorem pd3 (b c d p o : D) (x : Int) (δ : List Int) : blk ld [.un, .dk, b, c, d, p, o, .int 3, .un, .un, .un, .un, .un, .un] (x :: δ) = .nx [.un, .dk, b, c, d, p, o, .int 3, .int (x % 3), .un, .un, .un, .un, .un] δ := by kernel_rfl
theorem pde (x y : Int) (b c d p o : D) (δ : List Int) : ∃ h p' u, blk (ld ++ le) [.un, .dk, b, c, d, p, o, .int (x % 4), .un, .un, .un, .un, .un, .un] (y :: δ) = .nx [.un, .dk, b, c, d, p', o, .int (x % 4), h, u, .un, .un, .un, .un] δ := by
  rcases b4 x with e | e | e | e <;> rw [e]
  · rw [blk_go (pd0 b c d p o y δ)]
    rcases b5 y with f | f | f | f | f <;> rw [f]
    · obtain ⟨p', u, h⟩ := pe00 b c d p o δ
      exact ⟨_, p', u, h⟩
    · obtain ⟨p', u, h⟩ := pe01 b c d p o δ
      exact ⟨_, p', u, h⟩
    · obtain ⟨p', u, h⟩ := pe02 b c d p o δ
      exact ⟨_, p', u, h⟩
    · obtain ⟨p', u, h⟩ := pe03 b c d p o δ
      exact ⟨_, p', u, h⟩
    · obtain ⟨p', u, h⟩ := pe04 b c d p o δ
      exact ⟨_, p', u, h⟩
  · rw [blk_go (pd1 b c d p o y δ)]
    rcases b5 y with f | f | f | f | f <;> rw [f]
    · obtain ⟨p', u, h⟩ := pe10 b c d p o δ
      exact ⟨_, p', u, h⟩
    · obtain ⟨p', u, h⟩ := pe11 b c d p o δ
      exact ⟨_, p', u, h⟩
    · obtain ⟨p', u, h⟩ := pe12 b c d p o δ
      exact ⟨_, p', u, h⟩
    · obtain ⟨p', u, h⟩ := pe13 b c d p o δ
      exact ⟨_, p', u, h⟩
    · obtain ⟨p', u, h⟩ := pe14 b c d p o δ
      exact ⟨_, p', u, h⟩
  · rw [blk_go (pd2 b c d p o y δ)]
    rcases b5 y with f | f | f | f | f <;> rw [f]
    · obtain ⟨p', u, h⟩ := pe20 b c d p o δ
      exact ⟨_, p', u, h⟩
    · obtain ⟨p', u, h⟩ := pe21 b c d p o δ
      exact ⟨_, p', u, h⟩
    · obtain ⟨p', u, h⟩ := pe22 b c d p o δ
      exact ⟨_, p', u, h⟩
    · obtain ⟨p', u, h⟩ := pe23 b c d p o δ
      exact ⟨_, p', u, h⟩
    · obtain ⟨p', u, h⟩ := pe24 b c d p o δ
      exact ⟨_, p', u, h⟩
  · rw [blk_go (pd3 b c d p o y δ)]
    rcases b3 y with f | f | f <;> rw [f]
    · obtain ⟨p', u, h⟩ := pe30 b c d p o δ
      exact ⟨_, p', u, h⟩
    · obtain ⟨p', u, h⟩ := pe31 b c d p o δ
      exact ⟨_, p', u, h⟩
    · obtain ⟨p', u, h⟩ := pe32 b c d p o δ
      exact ⟨_, p', u, h⟩
def Pg (i : Int) : Prop := ∀ (b c d p o s h u : D) (δ : List Int), ∃ p' u' v, blk lg [.un, .dk, b, c, d, p, o, s, h, u, .int i, .un, .un, .un] δ = .nx [.un, .dk, b, c, d, p', o, s, h, u', .int i, v, .un, .un] δ
theorem pg0 : Pg 0 := fun b c d p o s h u δ => ⟨gt (stOf (blk lg [.un, .dk, b, c, d, p, o, s, h, u, .int 0, .un, .un, .un] δ)) 5, gt (stOf (blk lg [.un, .dk, b, c, d, p, o, s, h, u, .int 0, .un, .un, .un] δ)) 9, gt (stOf (blk lg [.un, .dk, b, c, d, p, o, s, h, u, .int 0, .un, .un, .un] δ)) 11, by kernel_rfl⟩
theorem pg1 : Pg 1 := fun b c d p o s h u δ => ⟨gt (stOf (blk lg [.un, .dk, b, c, d, p, o, s, h, u, .int 1, .un, .un, .un] δ)) 5, gt (stOf (blk lg [.un, .dk, b, c, d, p, o, s, h, u, .int 1, .un, .un, .un] δ)) 9, gt (stOf (blk lg [.un, .dk, b, c, d, p, o, s, h, u, .int 1, .un, .un, .un] δ)) 11, by kernel_rfl⟩
theorem pg2 : Pg 2 := fun b c d p o s h u δ => ⟨gt (stOf (blk lg [.un, .dk, b, c, d, p, o, s, h, u, .int 2, .un, .un, .un] δ)) 5, gt (stOf (blk lg [.un, .dk, b, c, d, p, o, s, h, u, .int 2, .un, .un, .un] δ)) 9, gt (stOf (blk lg [.un, .dk, b, c, d, p, o, s, h, u, .int 2, .un, .un, .un] δ)) 11, by kernel_rfl⟩
theorem pg (x : Int) : Pg (x % 3) := by
  rcases b3 x with e | e | e <;> rw [e]
  · exact pg0
  · exact pg1
  · exact pg2
def boxT : List (List (List Nat)) := [[[1, 1, 1, 1, 1], [1, 1, 1, 1, 1], [1, 1, 1, 1, 1], [1, 1, 1, 1, 1], [1, 1, 1, 1, 1]], [[1, 1, 1, 1, 1], [1, 2, 3, 4, 5], [1, 3, 6, 10, 15], [1, 4, 10, 20, 35], [1, 5, 15, 35, 70]], [[1, 1, 1, 1, 1], [1, 3, 6, 10, 15], [1, 6, 20, 50, 105], [1, 10, 50, 175, 490], [1, 15, 105, 490, 1764]], [[1, 1, 1, 1, 1], [1, 4, 10, 20, 35], [1, 10, 50, 175, 490], [1, 20, 175, 980, 4116], [1, 35, 490, 4116, 24696]], [[1, 1, 1, 1, 1], [1, 5, 15, 35, 70], [1, 15, 105, 490, 1764], [1, 35, 490, 4116, 24696], [1, 70, 1764, 24696, 232848]]]
def six : List Nat := [0, 1, 2, 3, 4]
def boxV (x y z : Nat) : Nat := ((boxT.getD x []).getD y []).getD z 0
def boxB : FF := fun ds δ => match ds with
  | [.int (.ofNat x), .int (.ofNat y), .int (.ofNat z)] => (match Nat.blt x 5 && Nat.blt y 5 && Nat.blt z 5 with
    | true => .ok (.int (.ofNat (boxV x y z))) δ
    | false => F_count_box ds δ)
  | _ => F_count_box ds δ
theorem bx000 (δ : List Int) : F_count_box [.int (.ofNat 0), .int (.ofNat 0), .int (.ofNat 0)] δ = .ok (.int (.ofNat 1)) δ := by kernel_rfl
theorem bx001 (δ : List Int) : F_count_box [.int (.ofNat 0), .int (.ofNat 0), .int (.ofNat 1)] δ = .ok (.int (.ofNat 1)) δ := by kernel_rfl
theorem bx002 (δ : List Int) : F_count_box [.int (.ofNat 0), .int (.ofNat 0), .int (.ofNat 2)] δ = .ok (.int (.ofNat 1)) δ := by kernel_rfl
theorem bx003 (δ : List Int) : F_count_box [.int (.ofNat 0), .int (.ofNat 0), .int (.ofNat 3)] δ = .ok (.int (.ofNat 1)) δ := by kernel_rfl
theorem bx004 (δ : List Int) : F_count_box [.int (.ofNat 0), .int (.ofNat 0), .int (.ofNat 4)] δ = .ok (.int (.ofNat 1)) δ := by kernel_rfl
theorem bx010 (δ : List Int) : F_count_box [.int (.ofNat 0), .int (.ofNat 1), .int (.ofNat 0)] δ = .ok (.int (.ofNat 1)) δ := by kernel_rfl
theorem bx011 (δ : List Int) : F_count_box [.int (.ofNat 0), .int (.ofNat 1), .int (.ofNat 1)] δ = .ok (.int (.ofNat 1)) δ := by kernel_rfl
theorem bx012 (δ : List Int) : F_count_box [.int (.ofNat 0), .int (.ofNat 1), .int (.ofNat 2)] δ = .ok (.int (.ofNat 1)) δ := by kernel_rfl
theorem bx013 (δ : List Int) : F_count_box [.int (.ofNat 0), .int (.ofNat 1), .int (.ofNat 3)] δ = .ok (.int (.ofNat 1)) δ := by kernel_rfl
theorem bx014 (δ : List Int) : F_count_box [.int (.ofNat 0), .int (.ofNat 1), .int (.ofNat 4)] δ = .ok (.int (.ofNat 1)) δ := by kernel_rfl
theorem bx020 (δ : List Int) : F_count_box [.int (.ofNat 0), .int (.ofNat 2), .int (.ofNat 0)] δ = .ok (.int (.ofNat 1)) δ := by kernel_rfl
theorem bx021 (δ : List Int) : F_count_box [.int (.ofNat 0), .int (.ofNat 2), .int (.ofNat 1)] δ = .ok (.int (.ofNat 1)) δ := by kernel_rfl
theorem bx022 (δ : List Int) : F_count_box [.int (.ofNat 0), .int (.ofNat 2), .int (.ofNat 2)] δ = .ok (.int (.ofNat 1)) δ := by kernel_rfl
theorem bx023 (δ : List Int) : F_count_box [.int (.ofNat 0), .int (.ofNat 2), .int (.ofNat 3)] δ = .ok (.int (.ofNat 1)) δ := by kernel_rfl
theorem bx024 (δ : List Int) : F_count_box [.int (.ofNat 0), .int (.ofNat 2), .int (.ofNat 4)] δ = .ok (.int (.ofNat 1)) δ := by kernel_rfl
theorem bx030 (δ : List Int) : F_count_box [.int (.ofNat 0), .int (.ofNat 3), .int (.ofNat 0)] δ = .ok (.int (.ofNat 1)) δ := by kernel_rfl
theorem bx031 (δ : List Int) : F_count_box [.int (.ofNat 0), .int (.ofNat 3), .int (.ofNat 1)] δ = .ok (.int (.ofNat 1)) δ := by kernel_rfl
theorem bx032 (δ : List Int) : F_count_box [.int (.ofNat 0), .int (.ofNat 3), .int (.ofNat 2)] δ = .ok (.int (.ofNat 1)) δ := by kernel_rfl
theorem bx033 (δ : List Int) : F_count_box [.int (.ofNat 0), .int (.ofNat 3), .int (.ofNat 3)] δ = .ok (.int (.ofNat 1)) δ := by kernel_rfl
theorem bx034 (δ : List Int) : F_count_box [.int (.ofNat 0), .int (.ofNat 3), .int (.ofNat 4)] δ = .ok (.int (.ofNat 1)) δ := by kernel_rfl
theorem bx040 (δ : List Int) : F_count_box [.int (.ofNat 0), .int (.ofNat 4), .int (.ofNat 0)] δ = .ok (.int (.ofNat 1)) δ := by kernel_rfl
theorem bx041 (δ : List Int) : F_count_box [.int (.ofNat 0), .int (.ofNat 4), .int (.ofNat 1)] δ = .ok (.int (.ofNat 1)) δ := by kernel_rfl
theorem bx042 (δ : List Int) : F_count_box [.int (.ofNat 0), .int (.ofNat 4), .int (.ofNat 2)] δ = .ok (.int (.ofNat 1)) δ := by kernel_rfl
theorem bx043 (δ : List Int) : F_count_box [.int (.ofNat 0), .int (.ofNat 4), .int (.ofNat 3)] δ = .ok (.int (.ofNat 1)) δ := by kernel_rfl
theorem bx044 (δ : List Int) : F_count_box [.int (.ofNat 0), .int (.ofNat 4), .int (.ofNat 4)] δ = .ok (.int (.ofNat 1)) δ := by kernel_rfl
theorem bx100 (δ : List Int) : F_count_box [.int (.ofNat 1), .int (.ofNat 0), .int (.ofNat 0)] δ = .ok (.int (.ofNat 1)) δ := by kernel_rfl
theorem bx101 (δ : List Int) : F_count_box [.int (.ofNat 1), .int (.ofNat 0), .int (.ofNat 1)] δ = .ok (.int (.ofNat 1)) δ := by kernel_rfl
theorem bx102 (δ : List Int) : F_count_box [.int (.ofNat 1), .int (.ofNat 0), .int (.ofNat 2)] δ = .ok (.int (.ofNat 1)) δ := by kernel_rfl
theorem bx103 (δ : List Int) : F_count_box [.int (.ofNat 1), .int (.ofNat 0), .int (.ofNat 3)] δ = .ok (.int (.ofNat 1)) δ := by kernel_rfl
theorem bx104 (δ : List Int) : F_count_box [.int (.ofNat 1), .int (.ofNat 0), .int (.ofNat 4)] δ = .ok (.int (.ofNat 1)) δ := by kernel_rfl
theorem bx110 (δ : List Int) : F_count_box [.int (.ofNat 1), .int (.ofNat 1), .int (.ofNat 0)] δ = .ok (.int (.ofNat 1)) δ := by kernel_rfl
theorem bx111 (δ : List Int) : F_count_box [.int (.ofNat 1), .int (.ofNat 1), .int (.ofNat 1)] δ = .ok (.int (.ofNat 2)) δ := by kernel_rfl
theorem bx112 (δ : List Int) : F_count_box [.int (.ofNat 1), .int (.ofNat 1), .int (.ofNat 2)] δ = .ok (.int (.ofNat 3)) δ := by kernel_rfl
theorem bx113 (δ : List Int) : F_count_box [.int (.ofNat 1), .int (.ofNat 1), .int (.ofNat 3)] δ = .ok (.int (.ofNat 4)) δ := by kernel_rfl
theorem bx114 (δ : List Int) : F_count_box [.int (.ofNat 1), .int (.ofNat 1), .int (.ofNat 4)] δ = .ok (.int (.ofNat 5)) δ := by kernel_rfl
theorem bx120 (δ : List Int) : F_count_box [.int (.ofNat 1), .int (.ofNat 2), .int (.ofNat 0)] δ = .ok (.int (.ofNat 1)) δ := by kernel_rfl
theorem bx121 (δ : List Int) : F_count_box [.int (.ofNat 1), .int (.ofNat 2), .int (.ofNat 1)] δ = .ok (.int (.ofNat 3)) δ := by kernel_rfl
theorem bx122 (δ : List Int) : F_count_box [.int (.ofNat 1), .int (.ofNat 2), .int (.ofNat 2)] δ = .ok (.int (.ofNat 6)) δ := by kernel_rfl
theorem bx123 (δ : List Int) : F_count_box [.int (.ofNat 1), .int (.ofNat 2), .int (.ofNat 3)] δ = .ok (.int (.ofNat 10)) δ := by kernel_rfl
theorem bx124 (δ : List Int) : F_count_box [.int (.ofNat 1), .int (.ofNat 2), .int (.ofNat 4)] δ = .ok (.int (.ofNat 15)) δ := by kernel_rfl
theorem bx130 (δ : List Int) : F_count_box [.int (.ofNat 1), .int (.ofNat 3), .int (.ofNat 0)] δ = .ok (.int (.ofNat 1)) δ := by kernel_rfl
theorem bx131 (δ : List Int) : F_count_box [.int (.ofNat 1), .int (.ofNat 3), .int (.ofNat 1)] δ = .ok (.int (.ofNat 4)) δ := by kernel_rfl
theorem bx132 (δ : List Int) : F_count_box [.int (.ofNat 1), .int (.ofNat 3), .int (.ofNat 2)] δ = .ok (.int (.ofNat 10)) δ := by kernel_rfl
theorem bx133 (δ : List Int) : F_count_box [.int (.ofNat 1), .int (.ofNat 3), .int (.ofNat 3)] δ = .ok (.int (.ofNat 20)) δ := by kernel_rfl
theorem bx134 (δ : List Int) : F_count_box [.int (.ofNat 1), .int (.ofNat 3), .int (.ofNat 4)] δ = .ok (.int (.ofNat 35)) δ := by kernel_rfl
theorem bx140 (δ : List Int) : F_count_box [.int (.ofNat 1), .int (.ofNat 4), .int (.ofNat 0)] δ = .ok (.int (.ofNat 1)) δ := by kernel_rfl
theorem bx141 (δ : List Int) : F_count_box [.int (.ofNat 1), .int (.ofNat 4), .int (.ofNat 1)] δ = .ok (.int (.ofNat 5)) δ := by kernel_rfl
theorem bx142 (δ : List Int) : F_count_box [.int (.ofNat 1), .int (.ofNat 4), .int (.ofNat 2)] δ = .ok (.int (.ofNat 15)) δ := by kernel_rfl
theorem bx143 (δ : List Int) : F_count_box [.int (.ofNat 1), .int (.ofNat 4), .int (.ofNat 3)] δ = .ok (.int (.ofNat 35)) δ := by kernel_rfl
theorem bx144 (δ : List Int) : F_count_box [.int (.ofNat 1), .int (.ofNat 4), .int (.ofNat 4)] δ = .ok (.int (.ofNat 70)) δ := by kernel_rfl
theorem bx200 (δ : List Int) : F_count_box [.int (.ofNat 2), .int (.ofNat 0), .int (.ofNat 0)] δ = .ok (.int (.ofNat 1)) δ := by kernel_rfl
theorem bx201 (δ : List Int) : F_count_box [.int (.ofNat 2), .int (.ofNat 0), .int (.ofNat 1)] δ = .ok (.int (.ofNat 1)) δ := by kernel_rfl
theorem bx202 (δ : List Int) : F_count_box [.int (.ofNat 2), .int (.ofNat 0), .int (.ofNat 2)] δ = .ok (.int (.ofNat 1)) δ := by kernel_rfl
theorem bx203 (δ : List Int) : F_count_box [.int (.ofNat 2), .int (.ofNat 0), .int (.ofNat 3)] δ = .ok (.int (.ofNat 1)) δ := by kernel_rfl
theorem bx204 (δ : List Int) : F_count_box [.int (.ofNat 2), .int (.ofNat 0), .int (.ofNat 4)] δ = .ok (.int (.ofNat 1)) δ := by kernel_rfl
theorem bx210 (δ : List Int) : F_count_box [.int (.ofNat 2), .int (.ofNat 1), .int (.ofNat 0)] δ = .ok (.int (.ofNat 1)) δ := by kernel_rfl
theorem bx211 (δ : List Int) : F_count_box [.int (.ofNat 2), .int (.ofNat 1), .int (.ofNat 1)] δ = .ok (.int (.ofNat 3)) δ := by kernel_rfl
theorem bx212 (δ : List Int) : F_count_box [.int (.ofNat 2), .int (.ofNat 1), .int (.ofNat 2)] δ = .ok (.int (.ofNat 6)) δ := by kernel_rfl
theorem bx213 (δ : List Int) : F_count_box [.int (.ofNat 2), .int (.ofNat 1), .int (.ofNat 3)] δ = .ok (.int (.ofNat 10)) δ := by kernel_rfl
theorem bx214 (δ : List Int) : F_count_box [.int (.ofNat 2), .int (.ofNat 1), .int (.ofNat 4)] δ = .ok (.int (.ofNat 15)) δ := by kernel_rfl
theorem bx220 (δ : List Int) : F_count_box [.int (.ofNat 2), .int (.ofNat 2), .int (.ofNat 0)] δ = .ok (.int (.ofNat 1)) δ := by kernel_rfl
theorem bx221 (δ : List Int) : F_count_box [.int (.ofNat 2), .int (.ofNat 2), .int (.ofNat 1)] δ = .ok (.int (.ofNat 6)) δ := by kernel_rfl
theorem bx222 (δ : List Int) : F_count_box [.int (.ofNat 2), .int (.ofNat 2), .int (.ofNat 2)] δ = .ok (.int (.ofNat 20)) δ := by kernel_rfl
theorem bx223 (δ : List Int) : F_count_box [.int (.ofNat 2), .int (.ofNat 2), .int (.ofNat 3)] δ = .ok (.int (.ofNat 50)) δ := by kernel_rfl
theorem bx224 (δ : List Int) : F_count_box [.int (.ofNat 2), .int (.ofNat 2), .int (.ofNat 4)] δ = .ok (.int (.ofNat 105)) δ := by kernel_rfl
theorem bx230 (δ : List Int) : F_count_box [.int (.ofNat 2), .int (.ofNat 3), .int (.ofNat 0)] δ = .ok (.int (.ofNat 1)) δ := by kernel_rfl
theorem bx231 (δ : List Int) : F_count_box [.int (.ofNat 2), .int (.ofNat 3), .int (.ofNat 1)] δ = .ok (.int (.ofNat 10)) δ := by kernel_rfl
theorem bx232 (δ : List Int) : F_count_box [.int (.ofNat 2), .int (.ofNat 3), .int (.ofNat 2)] δ = .ok (.int (.ofNat 50)) δ := by kernel_rfl
theorem bx233 (δ : List Int) : F_count_box [.int (.ofNat 2), .int (.ofNat 3), .int (.ofNat 3)] δ = .ok (.int (.ofNat 175)) δ := by kernel_rfl
theorem bx234 (δ : List Int) : F_count_box [.int (.ofNat 2), .int (.ofNat 3), .int (.ofNat 4)] δ = .ok (.int (.ofNat 490)) δ := by kernel_rfl
theorem bx240 (δ : List Int) : F_count_box [.int (.ofNat 2), .int (.ofNat 4), .int (.ofNat 0)] δ = .ok (.int (.ofNat 1)) δ := by kernel_rfl
theorem bx241 (δ : List Int) : F_count_box [.int (.ofNat 2), .int (.ofNat 4), .int (.ofNat 1)] δ = .ok (.int (.ofNat 15)) δ := by kernel_rfl
theorem bx242 (δ : List Int) : F_count_box [.int (.ofNat 2), .int (.ofNat 4), .int (.ofNat 2)] δ = .ok (.int (.ofNat 105)) δ := by kernel_rfl
theorem bx243 (δ : List Int) : F_count_box [.int (.ofNat 2), .int (.ofNat 4), .int (.ofNat 3)] δ = .ok (.int (.ofNat 490)) δ := by kernel_rfl
theorem bx244 (δ : List Int) : F_count_box [.int (.ofNat 2), .int (.ofNat 4), .int (.ofNat 4)] δ = .ok (.int (.ofNat 1764)) δ := by kernel_rfl
theorem bx300 (δ : List Int) : F_count_box [.int (.ofNat 3), .int (.ofNat 0), .int (.ofNat 0)] δ = .ok (.int (.ofNat 1)) δ := by kernel_rfl
theorem bx301 (δ : List Int) : F_count_box [.int (.ofNat 3), .int (.ofNat 0), .int (.ofNat 1)] δ = .ok (.int (.ofNat 1)) δ := by kernel_rfl
theorem bx302 (δ : List Int) : F_count_box [.int (.ofNat 3), .int (.ofNat 0), .int (.ofNat 2)] δ = .ok (.int (.ofNat 1)) δ := by kernel_rfl
theorem bx303 (δ : List Int) : F_count_box [.int (.ofNat 3), .int (.ofNat 0), .int (.ofNat 3)] δ = .ok (.int (.ofNat 1)) δ := by kernel_rfl
theorem bx304 (δ : List Int) : F_count_box [.int (.ofNat 3), .int (.ofNat 0), .int (.ofNat 4)] δ = .ok (.int (.ofNat 1)) δ := by kernel_rfl
theorem bx310 (δ : List Int) : F_count_box [.int (.ofNat 3), .int (.ofNat 1), .int (.ofNat 0)] δ = .ok (.int (.ofNat 1)) δ := by kernel_rfl
theorem bx311 (δ : List Int) : F_count_box [.int (.ofNat 3), .int (.ofNat 1), .int (.ofNat 1)] δ = .ok (.int (.ofNat 4)) δ := by kernel_rfl
theorem bx312 (δ : List Int) : F_count_box [.int (.ofNat 3), .int (.ofNat 1), .int (.ofNat 2)] δ = .ok (.int (.ofNat 10)) δ := by kernel_rfl
theorem bx313 (δ : List Int) : F_count_box [.int (.ofNat 3), .int (.ofNat 1), .int (.ofNat 3)] δ = .ok (.int (.ofNat 20)) δ := by kernel_rfl
theorem bx314 (δ : List Int) : F_count_box [.int (.ofNat 3), .int (.ofNat 1), .int (.ofNat 4)] δ = .ok (.int (.ofNat 35)) δ := by kernel_rfl
theorem bx320 (δ : List Int) : F_count_box [.int (.ofNat 3), .int (.ofNat 2), .int (.ofNat 0)] δ = .ok (.int (.ofNat 1)) δ := by kernel_rfl
theorem bx321 (δ : List Int) : F_count_box [.int (.ofNat 3), .int (.ofNat 2), .int (.ofNat 1)] δ = .ok (.int (.ofNat 10)) δ := by kernel_rfl
theorem bx322 (δ : List Int) : F_count_box [.int (.ofNat 3), .int (.ofNat 2), .int (.ofNat 2)] δ = .ok (.int (.ofNat 50)) δ := by kernel_rfl
theorem bx323 (δ : List Int) : F_count_box [.int (.ofNat 3), .int (.ofNat 2), .int (.ofNat 3)] δ = .ok (.int (.ofNat 175)) δ := by kernel_rfl
theorem bx324 (δ : List Int) : F_count_box [.int (.ofNat 3), .int (.ofNat 2), .int (.ofNat 4)] δ = .ok (.int (.ofNat 490)) δ := by kernel_rfl
theorem bx330 (δ : List Int) : F_count_box [.int (.ofNat 3), .int (.ofNat 3), .int (.ofNat 0)] δ = .ok (.int (.ofNat 1)) δ := by kernel_rfl
theorem bx331 (δ : List Int) : F_count_box [.int (.ofNat 3), .int (.ofNat 3), .int (.ofNat 1)] δ = .ok (.int (.ofNat 20)) δ := by kernel_rfl
theorem bx332 (δ : List Int) : F_count_box [.int (.ofNat 3), .int (.ofNat 3), .int (.ofNat 2)] δ = .ok (.int (.ofNat 175)) δ := by kernel_rfl
theorem bx333 (δ : List Int) : F_count_box [.int (.ofNat 3), .int (.ofNat 3), .int (.ofNat 3)] δ = .ok (.int (.ofNat 980)) δ := by kernel_rfl
theorem bx334 (δ : List Int) : F_count_box [.int (.ofNat 3), .int (.ofNat 3), .int (.ofNat 4)] δ = .ok (.int (.ofNat 4116)) δ := by kernel_rfl
theorem bx340 (δ : List Int) : F_count_box [.int (.ofNat 3), .int (.ofNat 4), .int (.ofNat 0)] δ = .ok (.int (.ofNat 1)) δ := by kernel_rfl
theorem bx341 (δ : List Int) : F_count_box [.int (.ofNat 3), .int (.ofNat 4), .int (.ofNat 1)] δ = .ok (.int (.ofNat 35)) δ := by kernel_rfl
theorem bx342 (δ : List Int) : F_count_box [.int (.ofNat 3), .int (.ofNat 4), .int (.ofNat 2)] δ = .ok (.int (.ofNat 490)) δ := by kernel_rfl
theorem bx343 (δ : List Int) : F_count_box [.int (.ofNat 3), .int (.ofNat 4), .int (.ofNat 3)] δ = .ok (.int (.ofNat 4116)) δ := by kernel_rfl
theorem bx344 (δ : List Int) : F_count_box [.int (.ofNat 3), .int (.ofNat 4), .int (.ofNat 4)] δ = .ok (.int (.ofNat 24696)) δ := by kernel_rfl
theorem bx400 (δ : List Int) : F_count_box [.int (.ofNat 4), .int (.ofNat 0), .int (.ofNat 0)] δ = .ok (.int (.ofNat 1)) δ := by kernel_rfl
theorem bx401 (δ : List Int) : F_count_box [.int (.ofNat 4), .int (.ofNat 0), .int (.ofNat 1)] δ = .ok (.int (.ofNat 1)) δ := by kernel_rfl
theorem bx402 (δ : List Int) : F_count_box [.int (.ofNat 4), .int (.ofNat 0), .int (.ofNat 2)] δ = .ok (.int (.ofNat 1)) δ := by kernel_rfl
theorem bx403 (δ : List Int) : F_count_box [.int (.ofNat 4), .int (.ofNat 0), .int (.ofNat 3)] δ = .ok (.int (.ofNat 1)) δ := by kernel_rfl
theorem bx404 (δ : List Int) : F_count_box [.int (.ofNat 4), .int (.ofNat 0), .int (.ofNat 4)] δ = .ok (.int (.ofNat 1)) δ := by kernel_rfl
theorem bx410 (δ : List Int) : F_count_box [.int (.ofNat 4), .int (.ofNat 1), .int (.ofNat 0)] δ = .ok (.int (.ofNat 1)) δ := by kernel_rfl
theorem bx411 (δ : List Int) : F_count_box [.int (.ofNat 4), .int (.ofNat 1), .int (.ofNat 1)] δ = .ok (.int (.ofNat 5)) δ := by kernel_rfl
theorem bx412 (δ : List Int) : F_count_box [.int (.ofNat 4), .int (.ofNat 1), .int (.ofNat 2)] δ = .ok (.int (.ofNat 15)) δ := by kernel_rfl
theorem bx413 (δ : List Int) : F_count_box [.int (.ofNat 4), .int (.ofNat 1), .int (.ofNat 3)] δ = .ok (.int (.ofNat 35)) δ := by kernel_rfl
theorem bx414 (δ : List Int) : F_count_box [.int (.ofNat 4), .int (.ofNat 1), .int (.ofNat 4)] δ = .ok (.int (.ofNat 70)) δ := by kernel_rfl
theorem bx420 (δ : List Int) : F_count_box [.int (.ofNat 4), .int (.ofNat 2), .int (.ofNat 0)] δ = .ok (.int (.ofNat 1)) δ := by kernel_rfl
theorem bx421 (δ : List Int) : F_count_box [.int (.ofNat 4), .int (.ofNat 2), .int (.ofNat 1)] δ = .ok (.int (.ofNat 15)) δ := by kernel_rfl
theorem bx422 (δ : List Int) : F_count_box [.int (.ofNat 4), .int (.ofNat 2), .int (.ofNat 2)] δ = .ok (.int (.ofNat 105)) δ := by kernel_rfl
theorem bx423 (δ : List Int) : F_count_box [.int (.ofNat 4), .int (.ofNat 2), .int (.ofNat 3)] δ = .ok (.int (.ofNat 490)) δ := by kernel_rfl
theorem bx424 (δ : List Int) : F_count_box [.int (.ofNat 4), .int (.ofNat 2), .int (.ofNat 4)] δ = .ok (.int (.ofNat 1764)) δ := by kernel_rfl
theorem bx430 (δ : List Int) : F_count_box [.int (.ofNat 4), .int (.ofNat 3), .int (.ofNat 0)] δ = .ok (.int (.ofNat 1)) δ := by kernel_rfl
theorem bx431 (δ : List Int) : F_count_box [.int (.ofNat 4), .int (.ofNat 3), .int (.ofNat 1)] δ = .ok (.int (.ofNat 35)) δ := by kernel_rfl
theorem bx432 (δ : List Int) : F_count_box [.int (.ofNat 4), .int (.ofNat 3), .int (.ofNat 2)] δ = .ok (.int (.ofNat 490)) δ := by kernel_rfl
theorem bx433 (δ : List Int) : F_count_box [.int (.ofNat 4), .int (.ofNat 3), .int (.ofNat 3)] δ = .ok (.int (.ofNat 4116)) δ := by kernel_rfl
theorem bx434 (δ : List Int) : F_count_box [.int (.ofNat 4), .int (.ofNat 3), .int (.ofNat 4)] δ = .ok (.int (.ofNat 24696)) δ := by kernel_rfl
theorem bx440 (δ : List Int) : F_count_box [.int (.ofNat 4), .int (.ofNat 4), .int (.ofNat 0)] δ = .ok (.int (.ofNat 1)) δ := by kernel_rfl
theorem bx441 (δ : List Int) : F_count_box [.int (.ofNat 4), .int (.ofNat 4), .int (.ofNat 1)] δ = .ok (.int (.ofNat 70)) δ := by kernel_rfl
theorem bx442 (δ : List Int) : F_count_box [.int (.ofNat 4), .int (.ofNat 4), .int (.ofNat 2)] δ = .ok (.int (.ofNat 1764)) δ := by kernel_rfl
theorem bx443 (δ : List Int) : F_count_box [.int (.ofNat 4), .int (.ofNat 4), .int (.ofNat 3)] δ = .ok (.int (.ofNat 24696)) δ := by kernel_rfl
theorem bx444 (δ : List Int) : F_count_box [.int (.ofNat 4), .int (.ofNat 4), .int (.ofNat 4)] δ = .ok (.int (.ofNat 232848)) δ := by kernel_rfl
theorem box_at {x y z : Nat} (hx : x < 5) (hy : y < 5) (hz : z < 5) (δ : List Int) : F_count_box [.int (.ofNat x), .int (.ofNat y), .int (.ofNat z)] δ = .ok (.int (.ofNat (boxV x y z))) δ := by
  match x, hx with
  | 0, _ => match y, hy with
    | 0, _ => match z, hz with
      | 0, _ => exact bx000 δ
      | 1, _ => exact bx001 δ
      | 2, _ => exact bx002 δ
      | 3, _ => exact bx003 δ
      | 4, _ => exact bx004 δ
    | 1, _ => match z, hz with
      | 0, _ => exact bx010 δ
      | 1, _ => exact bx011 δ
      | 2, _ => exact bx012 δ
      | 3, _ => exact bx013 δ
      | 4, _ => exact bx014 δ
    | 2, _ => match z, hz with
      | 0, _ => exact bx020 δ
      | 1, _ => exact bx021 δ
      | 2, _ => exact bx022 δ
      | 3, _ => exact bx023 δ
      | 4, _ => exact bx024 δ
    | 3, _ => match z, hz with
      | 0, _ => exact bx030 δ
      | 1, _ => exact bx031 δ
      | 2, _ => exact bx032 δ
      | 3, _ => exact bx033 δ
      | 4, _ => exact bx034 δ
    | 4, _ => match z, hz with
      | 0, _ => exact bx040 δ
      | 1, _ => exact bx041 δ
      | 2, _ => exact bx042 δ
      | 3, _ => exact bx043 δ
      | 4, _ => exact bx044 δ
  | 1, _ => match y, hy with
    | 0, _ => match z, hz with
      | 0, _ => exact bx100 δ
      | 1, _ => exact bx101 δ
      | 2, _ => exact bx102 δ
      | 3, _ => exact bx103 δ
      | 4, _ => exact bx104 δ
    | 1, _ => match z, hz with
      | 0, _ => exact bx110 δ
      | 1, _ => exact bx111 δ
      | 2, _ => exact bx112 δ
      | 3, _ => exact bx113 δ
      | 4, _ => exact bx114 δ
    | 2, _ => match z, hz with
      | 0, _ => exact bx120 δ
      | 1, _ => exact bx121 δ
      | 2, _ => exact bx122 δ
      | 3, _ => exact bx123 δ
      | 4, _ => exact bx124 δ
    | 3, _ => match z, hz with
      | 0, _ => exact bx130 δ
      | 1, _ => exact bx131 δ
      | 2, _ => exact bx132 δ
      | 3, _ => exact bx133 δ
      | 4, _ => exact bx134 δ
    | 4, _ => match z, hz with
      | 0, _ => exact bx140 δ
      | 1, _ => exact bx141 δ
      | 2, _ => exact bx142 δ
      | 3, _ => exact bx143 δ
      | 4, _ => exact bx144 δ
  | 2, _ => match y, hy with
    | 0, _ => match z, hz with
      | 0, _ => exact bx200 δ
      | 1, _ => exact bx201 δ
      | 2, _ => exact bx202 δ
      | 3, _ => exact bx203 δ
      | 4, _ => exact bx204 δ
    | 1, _ => match z, hz with
      | 0, _ => exact bx210 δ
      | 1, _ => exact bx211 δ
      | 2, _ => exact bx212 δ
      | 3, _ => exact bx213 δ
      | 4, _ => exact bx214 δ
    | 2, _ => match z, hz with
      | 0, _ => exact bx220 δ
      | 1, _ => exact bx221 δ
      | 2, _ => exact bx222 δ
      | 3, _ => exact bx223 δ
      | 4, _ => exact bx224 δ
    | 3, _ => match z, hz with
      | 0, _ => exact bx230 δ
      | 1, _ => exact bx231 δ
      | 2, _ => exact bx232 δ
      | 3, _ => exact bx233 δ
      | 4, _ => exact bx234 δ
    | 4, _ => match z, hz with
      | 0, _ => exact bx240 δ
      | 1, _ => exact bx241 δ
      | 2, _ => exact bx242 δ
      | 3, _ => exact bx243 δ
      | 4, _ => exact bx244 δ
  | 3, _ => match y, hy with
    | 0, _ => match z, hz with
      | 0, _ => exact bx300 δ
      | 1, _ => exact bx301 δ
      | 2, _ => exact bx302 δ
      | 3, _ => exact bx303 δ
      | 4, _ => exact bx304 δ
    | 1, _ => match z, hz with
      | 0, _ => exact bx310 δ
      | 1, _ => exact bx311 δ
      | 2, _ => exact bx312 δ
      | 3, _ => exact bx313 δ
      | 4, _ => exact bx314 δ
    | 2, _ => match z, hz with
      | 0, _ => exact bx320 δ
      | 1, _ => exact bx321 δ
      | 2, _ => exact bx322 δ
      | 3, _ => exact bx323 δ
      | 4, _ => exact bx324 δ
    | 3, _ => match z, hz with
      | 0, _ => exact bx330 δ
      | 1, _ => exact bx331 δ
      | 2, _ => exact bx332 δ
      | 3, _ => exact bx333 δ
      | 4, _ => exact bx334 δ
    | 4, _ => match z, hz with
      | 0, _ => exact bx340 δ
      | 1, _ => exact bx341 δ
      | 2, _ => exact bx342 δ
      | 3, _ => exact bx343 δ
      | 4, _ => exact bx344 δ
  | 4, _ => match y, hy with
    | 0, _ => match z, hz with
      | 0, _ => exact bx400 δ
      | 1, _ => exact bx401 δ
      | 2, _ => exact bx402 δ
      | 3, _ => exact bx403 δ
      | 4, _ => exact bx404 δ
    | 1, _ => match z, hz with
      | 0, _ => exact bx410 δ
      | 1, _ => exact bx411 δ
      | 2, _ => exact bx412 δ
      | 3, _ => exact bx413 δ
      | 4, _ => exact bx414 δ
    | 2, _ => match z, hz with
      | 0, _ => exact bx420 δ
      | 1, _ => exact bx421 δ
      | 2, _ => exact bx422 δ
      | 3, _ => exact bx423 δ
      | 4, _ => exact bx424 δ
    | 3, _ => match z, hz with
      | 0, _ => exact bx430 δ
      | 1, _ => exact bx431 δ
      | 2, _ => exact bx432 δ
      | 3, _ => exact bx433 δ
      | 4, _ => exact bx434 δ
    | 4, _ => match z, hz with
      | 0, _ => exact bx440 δ
      | 1, _ => exact bx441 δ
      | 2, _ => exact bx442 δ
      | 3, _ => exact bx443 δ
      | 4, _ => exact bx444 δ
theorem box_eq : F_count_box = boxB := by
  funext ds δ
  unfold boxB
  split
  · rename_i x y z
    cases c : Nat.blt x 5 && Nat.blt y 5 && Nat.blt z 5 with
    | false => rfl
    | true =>
      simp only [Bool.and_eq_true] at c
      exact box_at (Nat.le_of_ble_eq_true c.1.1) (Nat.le_of_ble_eq_true c.1.2) (Nat.le_of_ble_eq_true c.2) δ
  · rfl
def H_count_own_complements (B : FF) : FF := fnR 6 (sSeq (sSet 3 (eCatF (eComp (iSeqF (eTup (aCons (eVarV 0) (aCons (eVarV 1) (aCons (eVarV 2) aNil))))) (tgN 8) (eOp2 gEq (eOp2 gMod (eVarB 8) (eC (.int 2))) (eC (.int 1))) [8] (cElt (eVarV 8))) (eComp (iSeqF (eTup (aCons (eVarV 0) (aCons (eVarV 1) (aCons (eVarV 2) aNil))))) (tgN 8) (eOp2 gEq (eOp2 gMod (eVarB 8) (eC (.int 2))) (eC (.int 0))) [8] (cElt (eVarV 8)))))
    (frzS 3 (sSeq (sSet 4 (eBlt gLen (aCons (eComp (iSeq (eVarB 3)) (tgN 8) (eOp2 gEq (eOp2 gMod (eVarB 8) (eC (.int 2))) (eC (.int 1))) [8] (cElt (eVarV 8))) aNil)))
    (frzS 3 (sSeq (sAsg (eComp (iSeq (eVarB 3)) (tgN 8) (eC (.bl true)) [8] (cElt (eOp2 gDiv (eVarB 8) (eC (.int 2))))) (tgS 3 (tgCons (tgN 5) (tgCons (tgN 6) (tgCons (tgN 7) tgNil)))))
    (sSeq (sIf (eOp2 gEq (eVarB 4) (eC (.int 0))) (sRet (eOp2 gMul (eCall B (aConsL (eVarB 5) (aConsL (eVarB 6) (aConsL (eVarB 7) aNil)))) (eCall B (aConsL (eVarB 5) (aConsL (eVarB 6) (aConsL (eVarB 7) aNil)))))) sNil)
    (sSeq (sIf (eOp2 gEq (eVarB 4) (eC (.int 1))) (sRet (eOp2 gMul (eCall B (aConsL (eVarB 5) (aConsL (eVarB 6) (aConsL (eVarB 7) aNil)))) (eCall B (aConsF (eOp2 gAdd (eVarB 5) (eC (.int 1))) (aConsL (eVarB 6) (aConsL (eVarB 7) aNil)))))) sNil)
    (sSeq (sIf (eOp2 gEq (eVarB 4) (eC (.int 2))) (sRet (eOp2 gMul (eCall B (aConsF (eOp2 gAdd (eVarB 5) (eC (.int 1))) (aConsL (eVarB 6) (aConsL (eVarB 7) aNil)))) (eCall B (aConsL (eVarB 5) (aConsF (eOp2 gAdd (eVarB 6) (eC (.int 1))) (aConsL (eVarB 7) aNil)))))) sNil)
    (sRet (eC (.int 0)))))))))))
theorem h_count_own_complements : F_count_own_complements = H_count_own_complements F_count_box := rfl
def H__law_products (B : FF) : FF := fnR 6 (sSeq (sSet 3 (eComp (iSeqF (eTup (aCons (eVarV 0) (aCons (eVarV 1) (aCons (eVarV 2) aNil))))) (tgN 8) (eOp2 gEq (eOp2 gMod (eVarB 8) (eC (.int 2))) (eC (.int 1))) [8] (cElt (eVarV 8))))
    (sSeq (sSet 4 (eComp (iSeqF (eTup (aCons (eVarV 0) (aCons (eVarV 1) (aCons (eVarV 2) aNil))))) (tgN 8) (eOp2 gEq (eOp2 gMod (eVarB 8) (eC (.int 2))) (eC (.int 0))) [8] (cElt (eVarV 8))))
    (sSeq (sAsg (eComp (iSeqF (eOp2 gAdd (eVarB 3) (eVarB 4))) (tgN 8) (eC (.bl true)) [8] (cElt (eOp2 gDiv (eVarB 8) (eC (.int 2))))) (tgS 3 (tgCons (tgN 5) (tgCons (tgN 6) (tgCons (tgN 7) tgNil)))))
    (sSeq (sIf (eOp2 gEq (eBlt gLen (aCons (eVarB 3) aNil)) (eC (.int 3))) (sRet (eC (.int 0))) sNil)
    (sSeq (sIf (eOp2 gEq (eBlt gLen (aCons (eVarB 3) aNil)) (eC (.int 2))) (sRet (eOp2 gMul (eCall B (aConsF (eOp2 gAdd (eVarB 5) (eC (.int 1))) (aConsL (eVarB 6) (aConsL (eVarB 7) aNil)))) (eCall B (aConsL (eVarB 5) (aConsF (eOp2 gAdd (eVarB 6) (eC (.int 1))) (aConsL (eVarB 7) aNil)))))) sNil)
    (sRet (eOp2 gMul (eCall B (aConsL (eVarB 5) (aConsL (eVarB 6) (aConsL (eVarB 7) aNil)))) (eCall B (aConsF (eOp2 gAdd (eVarB 5) (eBlt gLen (aCons (eVarB 3) aNil))) (aConsL (eVarB 6) (aConsL (eVarB 7) aNil)))))))))))
theorem h__law_products : F__law_products = H__law_products F_count_box := rfl
def li' (O M : FF) : List (List Nat × SF) := [([], (sRet (eOp2 gEq (eCall (F__law_plain 6) (aConsF (eCall O (aConsL (eVarB 2) (aConsL (eVarB 3) (aConsL (eVarB 4) aNil)))) aNil)) (eCall (F__law_plain 6) (aConsF (eCall M (aConsL (eVarB 2) (aConsL (eVarB 3) (aConsL (eVarB 4) aNil)))) aNil)))))]
theorem li_eq : li = li' (H_count_own_complements boxB) (H__law_products boxB) := by
  rw [← box_eq]
  rfl
def nine : List Nat := [0, 1, 2, 3, 4, 5, 6, 7, 8]
theorem pi_all0 (p o s h u i v : D) (δ : List Int) : (nine.map fun b => nine.map fun c => blk (li' (H_count_own_complements boxB) (H__law_products boxB)) [.un, .dk, .int (.ofNat 0), .int (.ofNat b), .int (.ofNat c), p, o, s, h, u, i, v, .un, .un] δ) = (nine.map fun b => nine.map fun c => SR.rt (.bl true) δ) := by kernel_rfl
theorem pi_all1 (p o s h u i v : D) (δ : List Int) : (nine.map fun b => nine.map fun c => blk (li' (H_count_own_complements boxB) (H__law_products boxB)) [.un, .dk, .int (.ofNat 1), .int (.ofNat b), .int (.ofNat c), p, o, s, h, u, i, v, .un, .un] δ) = (nine.map fun b => nine.map fun c => SR.rt (.bl true) δ) := by kernel_rfl
theorem pi_all2 (p o s h u i v : D) (δ : List Int) : (nine.map fun b => nine.map fun c => blk (li' (H_count_own_complements boxB) (H__law_products boxB)) [.un, .dk, .int (.ofNat 2), .int (.ofNat b), .int (.ofNat c), p, o, s, h, u, i, v, .un, .un] δ) = (nine.map fun b => nine.map fun c => SR.rt (.bl true) δ) := by kernel_rfl
theorem pi_all3 (p o s h u i v : D) (δ : List Int) : (nine.map fun b => nine.map fun c => blk (li' (H_count_own_complements boxB) (H__law_products boxB)) [.un, .dk, .int (.ofNat 3), .int (.ofNat b), .int (.ofNat c), p, o, s, h, u, i, v, .un, .un] δ) = (nine.map fun b => nine.map fun c => SR.rt (.bl true) δ) := by kernel_rfl
theorem pi_all4 (p o s h u i v : D) (δ : List Int) : (nine.map fun b => nine.map fun c => blk (li' (H_count_own_complements boxB) (H__law_products boxB)) [.un, .dk, .int (.ofNat 4), .int (.ofNat b), .int (.ofNat c), p, o, s, h, u, i, v, .un, .un] δ) = (nine.map fun b => nine.map fun c => SR.rt (.bl true) δ) := by kernel_rfl
theorem pi_all5 (p o s h u i v : D) (δ : List Int) : (nine.map fun b => nine.map fun c => blk (li' (H_count_own_complements boxB) (H__law_products boxB)) [.un, .dk, .int (.ofNat 5), .int (.ofNat b), .int (.ofNat c), p, o, s, h, u, i, v, .un, .un] δ) = (nine.map fun b => nine.map fun c => SR.rt (.bl true) δ) := by kernel_rfl
theorem pi_all6 (p o s h u i v : D) (δ : List Int) : (nine.map fun b => nine.map fun c => blk (li' (H_count_own_complements boxB) (H__law_products boxB)) [.un, .dk, .int (.ofNat 6), .int (.ofNat b), .int (.ofNat c), p, o, s, h, u, i, v, .un, .un] δ) = (nine.map fun b => nine.map fun c => SR.rt (.bl true) δ) := by kernel_rfl
theorem pi_all7 (p o s h u i v : D) (δ : List Int) : (nine.map fun b => nine.map fun c => blk (li' (H_count_own_complements boxB) (H__law_products boxB)) [.un, .dk, .int (.ofNat 7), .int (.ofNat b), .int (.ofNat c), p, o, s, h, u, i, v, .un, .un] δ) = (nine.map fun b => nine.map fun c => SR.rt (.bl true) δ) := by kernel_rfl
theorem pi_all8 (p o s h u i v : D) (δ : List Int) : (nine.map fun b => nine.map fun c => blk (li' (H_count_own_complements boxB) (H__law_products boxB)) [.un, .dk, .int (.ofNat 8), .int (.ofNat b), .int (.ofNat c), p, o, s, h, u, i, v, .un, .un] δ) = (nine.map fun b => nine.map fun c => SR.rt (.bl true) δ) := by kernel_rfl
theorem pi_all {a : Nat} (ha : a < 9) (p o s h u i v : D) (δ : List Int) : (nine.map fun b => nine.map fun c => blk (li' (H_count_own_complements boxB) (H__law_products boxB)) [.un, .dk, .int (.ofNat a), .int (.ofNat b), .int (.ofNat c), p, o, s, h, u, i, v, .un, .un] δ) = (nine.map fun b => nine.map fun c => SR.rt (.bl true) δ) := by
  match a, ha with
  | 0, _ => exact pi_all0 p o s h u i v δ
  | 1, _ => exact pi_all1 p o s h u i v δ
  | 2, _ => exact pi_all2 p o s h u i v δ
  | 3, _ => exact pi_all3 p o s h u i v δ
  | 4, _ => exact pi_all4 p o s h u i v δ
  | 5, _ => exact pi_all5 p o s h u i v δ
  | 6, _ => exact pi_all6 p o s h u i v δ
  | 7, _ => exact pi_all7 p o s h u i v δ
  | 8, _ => exact pi_all8 p o s h u i v δ
theorem map_at9 {α : Type} {f g : Nat → α} (h : nine.map f = nine.map g) {x : Nat} (hx : x < 9) : f x = g x := by
  have e : nine[x]? = some x := by
    match x, hx with
    | 0, _ => rfl
    | 1, _ => rfl
    | 2, _ => rfl
    | 3, _ => rfl
    | 4, _ => rfl
    | 5, _ => rfl
    | 6, _ => rfl
    | 7, _ => rfl
    | 8, _ => rfl
  have h1 := congrArg (fun l => l[x]?) h
  simp only [List.getElem?_map, e, Option.map_some] at h1
  exact Option.some.inj h1
theorem pi (x y z : Int) (p o s h u i v : D) (δ : List Int) : blk li [.un, .dk, .int (x % 9), .int (y % 9), .int (z % 9), p, o, s, h, u, i, v, .un, .un] δ = .rt (.bl true) δ := by
  obtain ⟨a, ha, ea⟩ := b9 x
  obtain ⟨b, hb, eb⟩ := b9 y
  obtain ⟨c, hc, ec⟩ := b9 z
  rw [ea, eb, ec, li_eq]
  exact map_at9 (map_at9 (pi_all ha p o s h u i v δ) hb) hc
theorem lawX : ∀ δ, Cards (30 * 14) δ → ∃ δ', fb_law (.un :: .dk :: uns 12) δ = .rt (.bl true) δ' := by
  intro δ hδ
  rw [fb_law_eq, law_parts]
  match δ, hδ with
  | x0 :: x1 :: x2 :: x3 :: x4 :: x5 :: x6 :: x7 :: x8 :: δ, _ =>
    refine ⟨δ, ?_⟩
    rw [blk_go (pa x0 x1 x2 _)]
    obtain ⟨d, p, o, h1⟩ := pb x0 x1 x2 (x3 :: x4 :: x5 :: x6 :: x7 :: x8 :: δ)
    rw [blk_go h1, blk_go (pc _ _ _ _ _ x3 _)]
    obtain ⟨h, p', u, h2⟩ := pde x3 x4 (.int (x0 % 4)) (.int (x1 % 4)) d p o (x5 :: x6 :: x7 :: x8 :: δ)
    rw [← List.append_assoc, blk_go h2, blk_go (pf _ _ _ _ _ _ _ _ x5 _)]
    obtain ⟨p2, u2, v, h3⟩ := pg x5 (.int (x0 % 4)) (.int (x1 % 4)) d p' o (.int (x3 % 4)) h u (x6 :: x7 :: x8 :: δ)
    rw [blk_go h3, blk_go (ph _ _ _ _ _ _ _ _ _ _ x6 x7 x8 _)]
    exact pi x6 x7 x8 _ _ _ _ _ _ _ _
  | [], h | [_], h | [_, _], h | [_, _, _], h | [_, _, _, _], h | [_, _, _, _, _], h | [_, _, _, _, _, _], h | [_, _, _, _, _, _, _], h | [_, _, _, _, _, _, _, _], h => exact absurd h.1 (by simp)
end Zv
open PySem PySem.W PyProof.Rows

set_option maxHeartbeats 0 in
theorem PySem.Challenge.cw_tablework_k91_whole_symmetry_classes_holds : PySem.Challenge.rw_tablework_k91_whole_symmetry_classes.Holds := by
  w_on; o_law; k_head; (case hw => w_witness2)
  k_fill
  refine L2.walk_of (l := PySem.Challenge.rw_tablework_k91_whole_symmetry_classes) (n := 63) (k := 8) (x := "script") (CX := fun w => L2.CX PySem.Challenge.rw_tablework_k91_whole_symmetry_classes.prog w) (sp := fun w => Zv.spLaw _) rfl (by decide) rfl ⟨rfl, by decide, by decide⟩ (fun w h Y => PySem.W.kIn_of Y) ?F (fun _ _ a ns hl _ hS => ⟨a, ns, rfl, hS, hl, fun _ => rfl⟩) (fun _ _ _ _ _ h => Zv.cx_false h)
  case F =>
    intro w mg fa h KX G hmg
    refine' Zv.all_mk KX G hmg ?a1 ?l1 ?c1 ?k1 ?a2 ?l2 ?c2 ?k2 ?a3 ?l3 ?c3 ?k3 ?a4 ?l4 ?c4 ?k4 ?a5 ?l5 ?c5 ?k5 ?a6 ?l6 ?c6 ?k6 ?a7 ?l7 ?c7 ?k7 ?a8 ?l8 ?c8 ?k8 ?a9 ?l9 ?c9 ?k9 ?a11 ?l11 ?c11 ?k11 ?a12 ?l12 ?c12 ?k12 ?a13 ?l13 ?c13 ?k13 ?a14 ?l14 ?c14 ?k14 ?a15 ?l15 ?c15 ?k15 ?a16 ?l16 ?c16 ?k16 ?a17 ?l17 ?c17 ?k17 ?a18 ?l18 ?c18 ?k18 ?a19 ?l19 ?c19 ?k19 ?a20 ?l20 ?c20 ?k20 ?a21 ?l21 ?c21 ?k21 ?z_abs ?z_all ?z_bool ?z_int ?z_isinstance ?z_len ?z_list ?z_range ?z_sorted ?z_str ?z_tuple ?z_zip Zv.lawX
    (case a1 => k_is); (case l1 => k_is); (case c1 => k_is); (case k1 => k_is); (case a2 => k_is); (case l2 => k_is); (case c2 => k_is); (case k2 => k_is); (case a3 => k_is); (case l3 => k_is); (case c3 => k_is); (case k3 => k_is); (case a4 => k_is); (case l4 => k_is); (case c4 => k_is); (case k4 => k_is); (case a5 => k_is); (case l5 => k_is); (case c5 => k_is); (case k5 => k_is); (case a6 => k_is); (case l6 => k_is); (case c6 => k_is); (case k6 => k_is); (case a7 => k_is); (case l7 => k_is); (case c7 => k_is); (case k7 => k_is); (case a8 => k_is); (case l8 => k_is); (case c8 => k_is); (case k8 => k_is); (case a9 => k_is); (case l9 => k_is); (case c9 => k_is); (case k9 => k_is); (case a11 => k_is); (case l11 => k_is); (case c11 => k_is); (case k11 => k_is); (case a12 => k_is); (case l12 => k_is); (case c12 => k_is); (case k12 => k_is); (case a13 => k_is); (case l13 => k_is); (case c13 => k_is); (case k13 => k_is); (case a14 => k_is); (case l14 => k_is); (case c14 => k_is); (case k14 => k_is); (case a15 => k_is); (case l15 => k_is); (case c15 => k_is); (case k15 => k_is); (case a16 => k_is); (case l16 => k_is); (case c16 => k_is); (case k16 => k_is); (case a17 => k_is); (case l17 => k_is); (case c17 => k_is); (case k17 => k_is); (case a18 => k_is); (case l18 => k_is); (case c18 => k_is); (case k18 => k_is); (case a19 => k_is); (case l19 => k_is); (case c19 => k_is); (case k19 => k_is); (case a20 => k_is); (case l20 => k_is); (case c20 => k_is); (case k20 => k_is); (case a21 => k_is); (case l21 => k_is); (case c21 => k_is); (case k21 => k_is); (case z_abs => k_is); (case z_all => k_is); (case z_bool => k_is); (case z_int => k_is); (case z_isinstance => k_is); (case z_len => k_is); (case z_list => k_is); (case z_range => k_is); (case z_sorted => k_is); (case z_str => k_is); (case z_tuple => k_is); (case z_zip => k_is)
