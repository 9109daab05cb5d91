import PyProof.Rows.All
import Wide.All
import OpenK.AllK
import Wide.FinOn
import HandS.ForMost
import HandS.Wide
import HandS.IsInst
import HandS.Deep
import HandS.TupSets
import HandS.Conv
import HandS.Style
import KE.KDictKeyed
import PySem.Challenge.RW_earthends_k63_whole_no_plan_shallower
set_option Elab.async false
set_option linter.all false
set_option maxRecDepth 100000
/-! data that stands in the heap, and names that hold data -/
namespace Ee
open PySem PySem.Spec PyProof.Rows L2

inductive D where
  | non
  | bl (b : Bool)
  | int (i : Int)
  | str (x : Str)
  | adr (a : Addr)
  | ty (n : String)
  | tup (ds : List D)
  | ktup (ds : List D)
  | lst (ds : List D)
  | dic (ks : List (Int × Int)) (ds : List D)

/-- a pair of ints as a dict's key -/
def keyP (k : Int × Int) : List Key := [.inl k.1, .inl k.2]

mutual
def Is (K : PySem.W.Frag) (H : Hp) : D → V → Prop
  | .non, v => v = .non
  | .bl b, v => v = .bl b
  | .int i, v => v = .int i
  | .str x, v => v = .str x
  | .adr a, v => v = .ref a
  | .ty n, v => v = .ty n
  | .tup ds, v => ∃ a xs, v = .ref a ∧ SqT K H a xs ∧ IsA K H ds xs
  | .ktup ds, v => ∃ a xs, v = .ref a ∧ H a = some (.tup xs) ∧ IsA K H ds xs
  | .lst ds, v => ∃ a xs, v = .ref a ∧ SqL K H a xs ∧ IsA K H ds xs
  | .dic ks ds, v => ∃ a xs, v = .ref a ∧ H a = some (.dT ((ks.map keyP).zip xs)) ∧ IsA K H ds xs
def IsA (K : PySem.W.Frag) (H : Hp) : List D → List V → Prop
  | [], xs => xs = []
  | d :: ds, xs => ∃ x r, xs = x :: r ∧ Is K H d x ∧ IsA K H ds r
end

mutual
def imm : D → Bool
  | .lst _ => false
  | .dic _ _ => false
  | .tup ds => immA ds
  | .ktup ds => immA ds
  | _ => true
def immA : List D → Bool
  | [] => true
  | d :: ds => imm d && immA ds
end

/-- tuples stay -/
def Tst (H H' : Hp) : Prop := (∀ a xs, H a = some (.tup xs) → H' a = some (.tup xs)) ∧ ∀ a o u, H a = some (.frz o u) → H' a = some (.frz o u)
theorem Tst.refl (H : Hp) : Tst H H := ⟨fun _ _ h => h, fun _ _ _ h => h⟩
theorem Tst.trans {H H1 H2 : Hp} (a : Tst H H1) (b : Tst H1 H2) : Tst H H2 := ⟨fun x xs h => b.1 x xs (a.1 x xs h), fun x o u h => b.2 x o u (a.2 x o u h)⟩
theorem Tst.of {H H' : Hp} (e : Same H H') : Tst H H' := ⟨fun a xs h => e _ _ h, fun a o u h => e _ _ h⟩
theorem Tst.rd {H H' : Hp} (e : Tst H H') {a : Addr} {xs : List V} (h : Rd H a (.tup xs)) : Rd H' a (.tup xs) := by
  rcases h with h | ⟨o, h⟩
  · exact .inl (e.1 _ _ h)
  · exact .inr ⟨o, e.2 _ _ _ h⟩
theorem Tst.upd_by {H : Hp} {p : Addr} {o u : HO} (h : H p = some u) (h1 : ∀ xs, u ≠ .tup xs) (h2 : ∀ o v, u ≠ .frz o v) : Tst H (upd H p o) := ⟨fun a ys q => by
  have hne : a ≠ p := by
    rintro rfl
    rw [h] at q
    exact h1 ys (Option.some.inj q)
  rw [upd_ne hne]
  exact q, fun a o' v q => by
  have hne : a ≠ p := by
    rintro rfl
    rw [h] at q
    exact h2 o' v (Option.some.inj q)
  rw [upd_ne hne]
  exact q⟩
theorem Tst.upd_lst {H : Hp} {p : Addr} {xs : List V} {o : HO} (h : H p = some (.lst xs)) : Tst H (upd H p o) := Tst.upd_by h (fun _ e => nomatch e) fun _ _ e => nomatch e
theorem Tst.upd_dT {H : Hp} {p : Addr} {xs : List (List Key × V)} {o : HO} (h : H p = some (.dT xs)) : Tst H (upd H p o) := Tst.upd_by h (fun _ e => nomatch e) fun _ _ e => nomatch e
theorem Tst.upd_ext {H : Hp} {p : Addr} {φ : Heap → Prop} {o : HO} (h : H p = some (.ext φ)) : Tst H (upd H p o) := Tst.upd_by h (fun _ e => nomatch e) fun _ _ e => nomatch e
theorem Same.new {H : Hp} {p : Addr} {o : HO} (h : H p = none) : Same H (upd H p o) := fun a u e => by
  rw [upd_ne (ne_of_none e h)]
  exact e
/-- what H does not know may change -/
theorem Same.mut {H H' : Hp} {p : Addr} {o : HO} (e : Same H H') (h : H p = none) : Same H (upd H' p o) := fun a u ha => by
  rw [upd_ne (ne_of_none ha h)]
  exact e a u ha
theorem same_t {K : PySem.W.Frag} {H H' : Hp} {a : Addr} {xs : List V} (e : Tst H H') (h : SqT K H a xs) : SqT K H' a xs := by
  rcases h with h | h
  · exact .inl (e.rd h)
  · exact .inr h

section
variable {K : PySem.W.Frag} {H H' : Hp}
mutual
theorem Is.mono (e : Same H H') : ∀ {d : D} {v : V}, Is K H d v → Is K H' d v
  | .non, _, h => h
  | .bl _, _, h => h
  | .int _, _, h => h
  | .str _, _, h => h
  | .adr _, _, h => h
  | .ty _, _, h => h
  | .tup ds, v, h => by
    obtain ⟨a, xs, e1, h1, h2⟩ := h
    exact ⟨a, xs, e1, same_t (Tst.of e) h1, IsA.mono e h2⟩
  | .ktup ds, v, h => by
    obtain ⟨a, xs, e1, h1, h2⟩ := h
    exact ⟨a, xs, e1, e _ _ h1, IsA.mono e h2⟩
  | .lst ds, v, h => by
    obtain ⟨a, xs, e1, h1, h2⟩ := h
    exact ⟨a, xs, e1, Same.seq e h1, IsA.mono e h2⟩
  | .dic ks ds, v, h => by
    obtain ⟨a, xs, e1, h1, h2⟩ := h
    exact ⟨a, xs, e1, e _ _ h1, IsA.mono e h2⟩
theorem IsA.mono (e : Same H H') : ∀ {ds : List D} {xs : List V}, IsA K H ds xs → IsA K H' ds xs
  | [], _, h => h
  | d :: ds, xs, h => by
    obtain ⟨x, r, e1, h1, h2⟩ := h
    exact ⟨x, r, e1, Is.mono e h1, IsA.mono e h2⟩
end
mutual
theorem Is.stay (e : Tst H H') : ∀ {d : D} {v : V}, imm d = true → Is K H d v → Is K H' d v
  | .non, _, _, h => h
  | .bl _, _, _, h => h
  | .int _, _, _, h => h
  | .str _, _, _, h => h
  | .adr _, _, _, h => h
  | .ty _, _, _, h => h
  | .tup ds, v, hi, h => by
    obtain ⟨a, xs, e1, h1, h2⟩ := h
    exact ⟨a, xs, e1, same_t e h1, IsA.stay e (by simpa [imm] using hi) h2⟩
  | .ktup ds, v, hi, h => by
    obtain ⟨a, xs, e1, h1, h2⟩ := h
    exact ⟨a, xs, e1, e.1 _ _ h1, IsA.stay e (by simpa [imm] using hi) h2⟩
  | .lst ds, v, hi, h => by simp [imm] at hi
  | .dic ks ds, v, hi, h => by simp [imm] at hi
theorem IsA.stay (e : Tst H H') : ∀ {ds : List D} {xs : List V}, immA ds = true → IsA K H ds xs → IsA K H' ds xs
  | [], _, _, h => h
  | d :: ds, xs, hi, h => by
    obtain ⟨x, r, e1, h1, h2⟩ := h
    have hi' : imm d = true ∧ immA ds = true := by simpa [immA] using hi
    exact ⟨x, r, e1, Is.stay e hi'.1 h1, IsA.stay e hi'.2 h2⟩
end
theorem IsA.len : ∀ {ds : List D} {xs : List V}, IsA K H ds xs → ds.length = xs.length
  | [], xs, h => by
    have h : xs = [] := h
    rw [h]
    rfl
  | d :: ds, xs, h => by
    obtain ⟨x, r, rfl, _, h2⟩ := h
    have := IsA.len h2
    simp [this]
theorem IsA.get : ∀ {ds : List D} {xs : List V} {i : Nat} {d : D}, IsA K H ds xs → ds[i]? = some d → ∃ x, xs[i]? = some x ∧ Is K H d x
  | [], _, _, _, _, e => by simp at e
  | d :: ds, xs, 0, d', h, e => by
    obtain ⟨x, r, rfl, h1, _⟩ := h
    have e : d = d' := by simpa using e
    subst e
    exact ⟨x, rfl, h1⟩
  | d :: ds, xs, i + 1, d', h, e => by
    obtain ⟨x, r, rfl, _, h2⟩ := h
    obtain ⟨y, h3, h4⟩ := IsA.get (i := i) h2 (by simpa using e)
    exact ⟨y, by simpa using h3, h4⟩
theorem IsA.getV : ∀ {ds : List D} {xs : List V} {i : Nat} {x : V}, IsA K H ds xs → xs[i]? = some x → ∃ d, ds[i]? = some d ∧ Is K H d x := fun {ds xs i x} h e => by
  have hl := h.len
  have hi : i < ds.length := by
    have := (List.getElem?_eq_some_iff.mp e).1
    omega
  have e1 : ds[i]? = some ds[i] := List.getElem?_eq_getElem hi
  obtain ⟨y, e2, h2⟩ := h.get e1
  rw [e] at e2
  cases e2
  exact ⟨_, e1, h2⟩
theorem IsA.app : ∀ {ds es : List D} {xs ys : List V}, IsA K H ds xs → IsA K H es ys → IsA K H (ds ++ es) (xs ++ ys)
  | [], _, xs, _, h, q => by
    have h : xs = [] := h
    subst h
    exact q
  | d :: ds, es, xs, ys, h, q => by
    obtain ⟨x, r, rfl, h1, h2⟩ := h
    exact ⟨x, r ++ ys, rfl, h1, IsA.app h2 q⟩
theorem IsA.one {d : D} {x : V} (h : Is K H d x) : IsA K H [d] [x] := ⟨x, [], rfl, h, rfl⟩
theorem IsA.take : ∀ {ds : List D} {xs : List V} (n : Nat), IsA K H ds xs → IsA K H (ds.take n) (xs.take n)
  | ds, xs, 0, _ => by
    rw [List.take_zero, List.take_zero]
    exact rfl
  | [], xs, n + 1, h => by
    have h : xs = [] := h
    subst h
    exact rfl
  | d :: ds, xs, n + 1, h => by
    obtain ⟨x, r, rfl, h1, h2⟩ := h
    exact ⟨x, r.take n, rfl, h1, IsA.take n h2⟩
theorem IsA.drop : ∀ {ds : List D} {xs : List V} (n : Nat), IsA K H ds xs → IsA K H (ds.drop n) (xs.drop n)
  | ds, xs, 0, h => h
  | [], xs, n + 1, h => by
    have h : xs = [] := h
    subst h
    exact rfl
  | d :: ds, xs, n + 1, h => by
    obtain ⟨x, r, rfl, h1, h2⟩ := h
    exact IsA.drop n h2
theorem IsA.set : ∀ {ds : List D} {xs : List V} (i : Nat) {d : D} {x : V}, IsA K H ds xs → Is K H d x → IsA K H (ds.set i d) (xs.set i x)
  | [], xs, i, _, _, h, _ => by
    have h : xs = [] := h
    subst h
    exact rfl
  | d :: ds, xs, 0, _, y, h, q => by
    obtain ⟨x, r, rfl, h1, h2⟩ := h
    exact ⟨y, r, rfl, q, h2⟩
  | d :: ds, xs, i + 1, _, y, h, q => by
    obtain ⟨x, r, rfl, h1, h2⟩ := h
    exact ⟨x, r.set i y, rfl, h1, IsA.set i h2 q⟩
theorem IsA.rev : ∀ {ds : List D} {xs : List V}, IsA K H ds xs → IsA K H ds.reverse xs.reverse
  | [], xs, h => by
    have h : xs = [] := h
    subst h
    exact rfl
  | d :: ds, xs, h => by
    obtain ⟨x, r, rfl, h1, h2⟩ := h
    rw [List.reverse_cons, List.reverse_cons]
    exact IsA.app (IsA.rev h2) (IsA.one h1)
theorem IsA.ints : ∀ {ns : List Int} {xs : List V}, IsA K H (ns.map D.int) xs → xs = ns.map V.int
  | [], xs, h => h
  | n :: ns, xs, h => by
    obtain ⟨x, r, rfl, h1, h2⟩ := h
    have h1 : x = .int n := h1
    rw [IsA.ints h2, h1]
    rfl
theorem IsA.ints' : ∀ (ns : List Int), IsA K H (ns.map D.int) (ns.map V.int)
  | [] => rfl
  | n :: ns => ⟨_, _, rfl, rfl, IsA.ints' ns⟩
theorem IsA.bls : ∀ {ns : List Bool} {xs : List V}, IsA K H (ns.map D.bl) xs → xs = ns.map V.bl
  | [], xs, h => h
  | n :: ns, xs, h => by
    obtain ⟨x, r, rfl, h1, h2⟩ := h
    have h1 : x = .bl n := h1
    rw [IsA.bls h2, h1]
    rfl
end
theorem immA_app : ∀ {ds es : List D}, immA ds = true → immA es = true → immA (ds ++ es) = true
  | [], _, _, h => h
  | d :: ds, es, h, q => by
    have h : imm d = true ∧ immA ds = true := by simpa [immA] using h
    show (imm d && immA (ds ++ es)) = true
    rw [h.1, immA_app h.2 q]
    rfl
theorem immA_of : ∀ {ds : List D}, (∀ d ∈ ds, imm d = true) → immA ds = true
  | [], _ => rfl
  | d :: ds, h => by
    show (imm d && immA ds) = true
    rw [h d List.mem_cons_self, immA_of fun x hx => h x (List.mem_cons_of_mem _ hx)]
    rfl
theorem immA_mem : ∀ {ds : List D} {d : D}, immA ds = true → d ∈ ds → imm d = true
  | d :: ds, x, h, hx => by
    have h : imm d = true ∧ immA ds = true := by simpa [immA] using h
    rcases List.mem_cons.mp hx with rfl | hx
    · exact h.1
    · exact immA_mem h.2 hx

mutual
/-- tracked tuples as tuples -/
def wk : D → D
  | .ktup ds => .tup (wkA ds)
  | .tup ds => .tup (wkA ds)
  | .lst ds => .lst (wkA ds)
  | d => d
def wkA : List D → List D
  | [] => []
  | d :: ds => wk d :: wkA ds
end
mutual
theorem Is.wk {K : PySem.W.Frag} {H : Hp} : ∀ {d : D} {v : V}, Is K H d v → Is K H (Ee.wk d) v
  | .non, _, h => h
  | .bl _, _, h => h
  | .int _, _, h => h
  | .str _, _, h => h
  | .adr _, _, h => h
  | .ty _, _, h => h
  | .dic _ _, _, h => h
  | .tup ds, v, h => by
    obtain ⟨a, xs, e1, h1, h2⟩ := h
    exact ⟨a, xs, e1, h1, IsA.wk h2⟩
  | .ktup ds, v, h => by
    obtain ⟨a, xs, e1, h1, h2⟩ := h
    exact ⟨a, xs, e1, .inl (.inl h1), IsA.wk h2⟩
  | .lst ds, v, h => by
    obtain ⟨a, xs, e1, h1, h2⟩ := h
    exact ⟨a, xs, e1, h1, IsA.wk h2⟩
theorem IsA.wk {K : PySem.W.Frag} {H : Hp} : ∀ {ds : List D} {xs : List V}, IsA K H ds xs → IsA K H (wkA ds) xs
  | [], _, h => h
  | d :: ds, xs, h => by
    obtain ⟨x, r, e1, h1, h2⟩ := h
    exact ⟨x, r, e1, h1.wk, IsA.wk h2⟩
end
theorem wkA_map {α : Type} (f : α → D) : ∀ l : List α, wkA (l.map f) = l.map fun x => wk (f x)
  | [] => rfl
  | x :: l => by
    show wk (f x) :: wkA (l.map f) = _
    rw [wkA_map f l]
    rfl

/-! ### names -/
abbrev En := List (Option D)
/-- the slots hold these data -/
def Env (K : PySem.W.Frag) (H : Hp) (σ : L2.St) (E : En) : Prop := σ.length = E.length ∧ ∀ (i : Nat) (d : D), E[i]? = some (some d) → ∃ v, σ[i]? = some (some v) ∧ Is K H d v
section
variable {K : PySem.W.Frag} {H H' : Hp} {σ : L2.St} {E E' : En}
theorem Env.mono (e : Same H H') (h : Env K H σ E) : Env K H' σ E := ⟨h.1, fun i d q => by
  obtain ⟨v, h1, h2⟩ := h.2 i d q
  exact ⟨v, h1, h2.mono e⟩⟩
def immE (E : En) : Bool := E.all fun o => match o with
  | none => true
  | some d => imm d
theorem Env.stay (e : Tst H H') (hi : immE E = true) (h : Env K H σ E) : Env K H' σ E := ⟨h.1, fun i d q => by
  obtain ⟨v, h1, h2⟩ := h.2 i d q
  have : imm d = true := by
    have := List.all_eq_true.mp hi _ (List.mem_of_getElem? q)
    exact this
  exact ⟨v, h1, h2.stay e this⟩⟩
theorem Env.get (h : Env K H σ E) {i : Nat} {d : D} (e : E[i]? = some (some d)) : ∃ v, σ[i]? = some (some v) ∧ Is K H d v := h.2 i d e
theorem Env.set (h : Env K H σ E) (i : Nat) {d : D} {v : V} (hv : Is K H d v) : Env K H (σ.set i (some v)) (E.set i (some d)) := ⟨by rw [List.length_set, List.length_set]; exact h.1, fun j d' e => by
  by_cases hij : i = j
  · subst hij
    by_cases hl : i < E.length
    · rw [List.getElem?_set_self hl] at e
      cases e
      exact ⟨v, by rw [List.getElem?_set_self (by rw [h.1]; exact hl)], hv⟩
    · rw [List.getElem?_eq_none (by rw [List.length_set]; omega)] at e
      cases e
  · rw [List.getElem?_set_ne hij] at e
    obtain ⟨u, h1, h2⟩ := h.2 j d' e
    exact ⟨u, by rw [List.getElem?_set_ne hij]; exact h1, h2⟩⟩
/-- a slot that is not told -/
theorem Env.setN (h : Env K H σ E) (i : Nat) {v : Option V} : Env K H (σ.set i v) (E.set i none) := ⟨by rw [List.length_set, List.length_set]; exact h.1, fun j d' e => by
  by_cases hij : i = j
  · subst hij
    by_cases hl : i < E.length
    · rw [List.getElem?_set_self hl] at e
      cases e
    · rw [List.getElem?_eq_none (by rw [List.length_set]; omega)] at e
      cases e
  · rw [List.getElem?_set_ne hij] at e
    obtain ⟨u, h1, h2⟩ := h.2 j d' e
    exact ⟨u, by rw [List.getElem?_set_ne hij]; exact h1, h2⟩⟩
/-- fewer told -/
def leO : Option D → Option D → Prop
  | none, _ => True
  | some d, o => o = some d
inductive LeE : En → En → Prop
  | nil : LeE [] []
  | cons {o o' : Option D} {E E' : En} : (o = none ∨ o = o') → LeE E E' → LeE (o :: E) (o' :: E')
theorem LeE.refl : ∀ (E : En), LeE E E
  | [] => .nil
  | o :: E => .cons (.inr rfl) (LeE.refl E)
theorem LeE.len : ∀ {E E' : En}, LeE E E' → E.length = E'.length
  | _, _, .nil => rfl
  | _, _, .cons _ h => by simp [LeE.len h]
theorem LeE.get : ∀ {E E' : En} {i : Nat} {d : D}, LeE E E' → E[i]? = some (some d) → E'[i]? = some (some d)
  | _, _, _, _, .nil, e => by simp at e
  | o :: _, o' :: _, 0, d, .cons h _, e => by
    have e : o = some d := by simpa using e
    subst e
    rcases h with h | h
    · cases h
    · simp [h]
  | _, _, i + 1, d, .cons _ h, e => by
    have := LeE.get (i := i) (d := d) h (by simpa using e)
    simpa using this
theorem Env.weak (h : Env K H σ E) (w : LeE E' E) : Env K H σ E' := ⟨by rw [w.len]; exact h.1, fun i d e => h.2 i d (w.get e)⟩

def wipeE (E : En) : List Nat → En
  | [] => E
  | v :: vs => (wipeE E vs).set v none
theorem Env.wipe (h : Env K H σ E) : ∀ vs : List Nat, Env K H (L2.wipe σ vs) (wipeE E vs)
  | [] => h
  | v :: vs => (Env.wipe h vs).setN v
end
theorem wipe_get_mem {σ : L2.St} {i : Nat} : ∀ {vs : List Nat}, i ∈ vs → i < σ.length → (L2.wipe σ vs)[i]? = some none
  | v :: vs, h, hl => by
    show ((L2.wipe σ vs).set v none)[i]? = some none
    by_cases hv : v = i
    · subst hv
      rw [List.getElem?_set_self (by rw [wipe_length]; exact hl)]
    · rw [List.getElem?_set_ne hv]
      rcases List.mem_cons.mp h with e | h
      · exact absurd e.symm hv
      · exact wipe_get_mem h hl
theorem wipe_get_out {σ : L2.St} {i : Nat} : ∀ {vs : List Nat}, i ∉ vs → (L2.wipe σ vs)[i]? = σ[i]?
  | [], _ => rfl
  | v :: vs, h => by
    show ((L2.wipe σ vs).set v none)[i]? = _
    rw [List.getElem?_set_ne (fun e => h (by rw [e]; exact List.mem_cons_self))]
    exact wipe_get_out fun hm => h (List.mem_cons_of_mem _ hm)
theorem wipe_of {σ σ' : L2.St} {vs : List Nat} (hl : σ.length = σ'.length) (h : ∀ i, i ∉ vs → σ[i]? = σ'[i]?) : L2.wipe σ vs = L2.wipe σ' vs := by
  apply List.ext_getElem?
  intro i
  by_cases hi : i ∈ vs
  · by_cases h1 : i < σ.length
    · rw [wipe_get_mem hi h1, wipe_get_mem hi (by omega)]
    · rw [List.getElem?_eq_none (by rw [wipe_length]; omega), List.getElem?_eq_none (by rw [wipe_length]; omega)]
  · rw [wipe_get_out hi, wipe_get_out hi]
    exact h i hi
theorem wipe_set {σ : L2.St} {vs : List Nat} {j : Nat} {x : Option V} (hj : j ∈ vs) : L2.wipe (σ.set j x) vs = L2.wipe σ vs :=
  wipe_of (by rw [List.length_set]) fun i hi => List.getElem?_set_ne fun (e : j = i) => hi (by rw [← e]; exact hj)
theorem wipe_wipe {σ : L2.St} {vs : List Nat} : L2.wipe (L2.wipe σ vs) vs = L2.wipe σ vs :=
  wipe_of (wipe_length σ vs) fun i hi => wipe_get_out hi
end Ee

/-! what an expression is worth where names hold data: over the layer's judgements, for all contexts of one def -/
namespace Ee
open PySem PySem.Spec PyProof.Rows L2

/-- what all contexts of a def's body (or of a block in it) have alike -/
structure Sx where
  P : Program
  w : World
  K : PySem.W.Frag
  mg : Str → Option Value
  base : Heap
  N : List Str
  sc : Scope
  fn : Str → Bool
  k : Nat
structure Mt (S : Sx) (X : Cx) : Prop where
  prog : X.prog = S.P
  w : X.w = S.w
  K : X.K = S.K
  mg : X.mg = S.mg
  base : X.base = S.base
  N : X.N = S.N
  sc : X.env.scope = S.sc
  fn : X.fn = S.fn
  calm : X.calm = true
  room : Room S.k X.A
  xe : X.xe = fun _ _ => False

/-- a name of the module, a built-in's -/
abbrev GlS (S : Sx) (n : Str) : Prop := S.sc.names.lookup n = some NameKind.globalImplicit
/-- the widest readings -/
def SE (S : Sx) (e : Expr) : TE := fun σ H Q => ∃ t : TE, (∀ X, Mt S X → PE X e t) ∧ t σ H Q
def SC (S : Sx) (e : Expr) : TT := fun σ H Q => ∃ t : TT, (∀ X, Mt S X → PT X e t) ∧ t σ H Q
def SW (S : Sx) (e : Expr) : TT := fun σ H Q => ∃ t : TT, (∀ X, Mt S X → PW X e t) ∧ t σ H Q
def SA (S : Sx) (es : List Expr) : TA := fun σ H Q => ∃ t : TA, (∀ X, Mt S X → PA X es t) ∧ t σ H Q
def SS (S : Sx) (st : Stmt) : TS := fun D σ H => ∃ t : TS, (∀ X, Mt S X → PS X st t) ∧ t D σ H
def SB (S : Sx) (b : List Stmt) : TS := fun D σ H => ∃ t : TS, (∀ X, Mt S X → PSs X b t) ∧ t D σ H
def SG (S : Sx) (tg : Expr) : TG := fun v σ H Q => ∃ t : TG, (∀ X, Mt S X → PG X tg t) ∧ t v σ H Q
section
variable {S : Sx} {X : Cx}
theorem se_ok {e : Expr} (M : Mt S X) : PE X e (SE S e) := ⟨fun pins s σ H Q I ⟨_, hp, h⟩ => (hp X M).run pins s σ H Q I h⟩
theorem sc_ok {e : Expr} (M : Mt S X) : PT X e (SC S e) := ⟨fun pins s σ H Q I ⟨_, hp, h⟩ => (hp X M).run pins s σ H Q I h⟩
theorem sw_ok {e : Expr} (M : Mt S X) : PW X e (SW S e) := ⟨fun wh pins s σ H Q I ⟨_, hp, h⟩ => (hp X M).run wh pins s σ H Q I h⟩
theorem sa_ok {es : List Expr} (M : Mt S X) : PA X es (SA S es) := ⟨fun pos pins s σ H Q I ⟨_, hp, h⟩ => (hp X M).run pos pins s σ H Q I h⟩
theorem ss_ok {st : Stmt} (M : Mt S X) : PS X st (SS S st) := ⟨fun pins s σ H D I ⟨_, hp, h⟩ => (hp X M).run pins s σ H D I h⟩
theorem sb_ok {b : List Stmt} (M : Mt S X) : PSs X b (SB S b) := ⟨fun pins s σ H D I ⟨_, hp, h⟩ => (hp X M).run pins s σ H D I h⟩
theorem sg_ok {tg : Expr} (M : Mt S X) : PG X tg (SG S tg) := ⟨fun pins s σ H v u Q I r ⟨_, hp, h⟩ => (hp X M).run pins s σ H v u Q I r h⟩
end

/-! ### values -/
/-- e is worth d; nothing that is known is changed -/
def PV (S : Sx) (E : En) (e : Expr) (d : D) : Prop := ∀ σ H, Env S.K H σ E → ∀ Q : VK, (∀ v H', Same H H' → Is S.K H' d v → Q v H') → SE S e σ H Q
def PVs (S : Sx) (E : En) (es : List Expr) (ds : List D) : Prop := ∀ σ H, Env S.K H σ E → ∀ Q : List V → Hp → Prop, (∀ vs H', Same H H' → IsA S.K H' ds vs → Q vs H') → SA S es σ H Q
def PB (S : Sx) (E : En) (e : Expr) (b : Bool) : Prop := ∀ σ H, Env S.K H σ E → ∀ Q : Bool → Hp → Prop, (∀ H', Same H H' → Q b H') → SC S e σ H Q
def PBw (S : Sx) (E : En) (e : Expr) (b : Bool) : Prop := ∀ σ H, Env S.K H σ E → ∀ Q : Bool → Hp → Prop, (∀ H', Same H H' → Q b H') → SW S e σ H Q

section
variable {S : Sx} {E : En} {a b e : Expr} {es : List Expr} {x y z d : D} {ds : List D} {pos p p2 : Pos}
theorem PV.to {d' : D} (h : PV S E e d) (q : d = d') : PV S E e d' := q ▸ h
theorem v_var (i : Nat) {n : Str} (he : E[i]? = some (some d)) (hN : S.N[i]? = some n) (hv : Vis S.sc n := by first | exact .inl rfl | exact .inr (.inl rfl) | exact .inr (.inr rfl)) (hd : (n == ("__debug__" : Str)) = false := by decide) (hcd : (n == ("__classdict__" : Str)) = false := by decide) : PV S E (.Name n pos) d := fun σ H hE Q q => by
  obtain ⟨v, h1, h2⟩ := hE.get he
  exact ⟨tVar i, fun X M => pe_var (by rw [M.N]; exact hN) (by rw [M.sc]; exact hv) hd hcd, v, h1, q v H (Same.refl H) h2⟩
theorem v_int {i : Int} {j} : PV S E (.Constant (.int i) j pos) (.int i) := fun σ H hE Q q => ⟨_, fun X M => pe_int, q _ H (Same.refl H) rfl⟩
theorem v_bl {i : Bool} {j} : PV S E (.Constant (.bool i) j pos) (.bl i) := fun σ H hE Q q => ⟨_, fun X M => pe_bl, q _ H (Same.refl H) rfl⟩
theorem v_non {j} : PV S E (.Constant .none j pos) .non := fun σ H hE Q q => ⟨_, fun X M => pe_non, q _ H (Same.refl H) rfl⟩
theorem v_str {i : Str} {j} : PV S E (.Constant (.str i) j pos) (.str i) := fun σ H hE Q q => ⟨_, fun X M => pe_str, q _ H (Same.refl H) rfl⟩
/-- a module's constant -/
theorem v_glob {n : Str} {v : V} {u : Value} (hg : GlS S n) (hm : S.mg n = some u) (r : RelV v u) (hi : ∀ H, Is S.K H d v) (hd : (n == ("__debug__" : Str)) = false := by decide) : PV S E (.Name n pos) d := fun σ H hE Q q =>
  ⟨_, fun X M => pe_glob (show X.env.scope.names.lookup n = _ by rw [M.sc]; exact hg) (by rw [M.mg]; exact hm) r hd, q v H (Same.refl H) (hi H)⟩
theorem v_nil : PVs S E [] [] := fun σ H hE Q q => ⟨_, fun X M => pa_nil, q [] H (Same.refl H) rfl⟩
theorem v_cons (h : PV S E e d) (hr : PVs S E es ds) (hs : ∀ env : PySem.Env, starEach (e :: es) env = (false, eval e env) :: starEach es env := by intro _; rfl) : PVs S E (e :: es) (d :: ds) := fun σ H hE Q q =>
  ⟨_, fun X M => pa_cons (se_ok M) (sa_ok M) (hs _), h σ H hE _ fun v H1 e1 i1 => hr σ H1 (hE.mono e1) _ fun vs H2 e2 i2 => q (v :: vs) H2 (e1.trans e2) ⟨v, vs, rfl, i1.mono e2, i2⟩⟩
theorem v_tup {k} (h : PVs S E es ds) (hl : Nat.ble ds.length 1000 = true := by rfl) : PV S E (.Tuple es k pos) (.tup ds) := fun σ H hE Q q =>
  ⟨_, fun X M => pe_tup (sa_ok M), h σ H hE _ fun vs H1 e1 i1 => ⟨by rw [← i1.len]; exact Nat.le_trans (Nat.le_of_ble_eq_true hl) (by decide), fun p hp => q _ _ (e1.trans (Same.new hp)) ⟨p, vs, rfl, .inl (.inl upd_same), i1.mono (Same.new hp)⟩⟩⟩
theorem v_lst (h : PVs S E es ds) (hl : Nat.ble ds.length 1000 = true := by rfl) : PV S E (.List es pos) (.lst ds) := fun σ H hE Q q =>
  ⟨_, fun X M => pe_lst (sa_ok M), h σ H hE _ fun vs H1 e1 i1 => ⟨by rw [← i1.len]; exact Nat.le_trans (Nat.le_of_ble_eq_true hl) (by decide), fun p hp => q _ _ (e1.trans (Same.new hp)) ⟨p, vs, rfl, .inl (.inl upd_same), i1.mono (Same.new hp)⟩⟩⟩
/-- .. tracked -/
theorem v_ktup {k} (h : PVs S E es ds) (hl : Nat.ble ds.length 1000 = true := by rfl) : PV S E (.Tuple es k pos) (.ktup ds) := fun σ H hE Q q =>
  ⟨_, fun X M => pe_tup (sa_ok M), h σ H hE _ fun vs H1 e1 i1 => ⟨by rw [← i1.len]; exact Nat.le_trans (Nat.le_of_ble_eq_true hl) (by decide), fun p hp => q _ _ (e1.trans (Same.new hp)) ⟨p, vs, rfl, upd_same, i1.mono (Same.new hp)⟩⟩⟩
theorem PV.wk {d' : D} (h : PV S E e d) (q : Ee.wk d = d') : PV S E e d' := fun σ H hE Q k => h σ H hE Q fun v H' e1 i1 => k v H' e1 (by rw [← q]; exact i1.wk)
/-- a reading by values of two operands gives z -/
def RR (K : PySem.W.Frag) (r : R2) (x y z : D) : Prop := ∀ H u v, Is K H x u → Is K H y v → ∀ Q : VK, (∀ w H', Same H H' → Is K H' z w → Q w H') → r u v H Q
theorem v_op {op : Operator} {r : R2} (ho : ∀ X, Mt S X → OpR X (binaryOp op) r) (ha : PV S E a x) (hb : PV S E b y) (hr : RR S.K r x y z) : PV S E (.BinOp a op b pos) z := fun σ H hE Q q =>
  ⟨_, fun X M => pe_op (ho X M) (se_ok M) (se_ok M), ha σ H hE _ fun u H1 e1 i1 => hb σ H1 (hE.mono e1) _ fun v H2 e2 i2 => hr H2 u v (i1.mono e2) i2 Q fun w H3 e3 i3 => q w H3 (e1.trans (e2.trans e3)) i3⟩
theorem v_cmp {op : CmpOp} {r : R2} (ho : ∀ X, Mt S X → OpR X (compareOp op) r) (ha : PV S E a x) (hb : PV S E b y) (hr : RR S.K r x y z) (hm : behindInMarks op b = false) : PV S E (.Compare a [op] [b] pos) z := fun σ H hE Q q =>
  ⟨_, fun X M => pe_cmpR (ho X M) (se_ok M) (se_ok M) hm, ha σ H hE _ fun u H1 e1 i1 => hb σ H1 (hE.mono e1) _ fun v H2 e2 i2 => hr H2 u v (i1.mono e2) i2 Q fun w H3 e3 i3 => q w H3 (e1.trans (e2.trans e3)) i3⟩
theorem b_cmp {op : CmpOp} {r : R2} {c : Bool} (ho : ∀ X, Mt S X → OpR X (compareOp op) r) (ha : PV S E a x) (hb : PV S E b y) (hr : RR S.K r x y (.bl c)) (hm : behindInMarks op b = false) : PB S E (.Compare a [op] [b] pos) c := fun σ H hE Q q =>
  ⟨_, fun X M => pt_cmpR (ho X M) (se_ok M) (se_ok M) hm, ha σ H hE _ fun u H1 e1 i1 => hb σ H1 (hE.mono e1) _ fun v H2 e2 i2 => hr H2 u v (i1.mono e2) i2 _ fun w H3 e3 i3 => ⟨c, i3, q H3 (e1.trans (e2.trans e3))⟩⟩

theorem rr_I0 {K : PySem.W.Frag} {g : Int → Int → V} {f : Int → Int → D} {i j : Int} (h : ∀ H, Is K H (f i j) (g i j)) : RR K (rI0 g) (.int i) (.int j) (f i j) := fun H u v hu hv Q q => ⟨i, j, hu, hv, q _ H (Same.refl H) (h H)⟩
theorem rr_I {K : PySem.W.Frag} {C : Int → Int → Prop} {g : Int → Int → V} {f : Int → Int → D} {i j : Int} (c : C i j) (h : ∀ H, Is K H (f i j) (g i j)) : RR K (rI C g) (.int i) (.int j) (f i j) := fun H u v hu hv Q q => ⟨i, j, hu, hv, c, q _ H (Same.refl H) (h H)⟩
variable {i j : Int}
theorem v_add (ha : PV S E a (.int i)) (hb : PV S E b (.int j)) : PV S E (.BinOp a .Add b pos) (.int (i + j)) := v_op (fun _ _ => op_add) ha hb (rr_I0 (f := fun i j => .int (i + j)) fun _ => rfl)
theorem v_sub (ha : PV S E a (.int i)) (hb : PV S E b (.int j)) : PV S E (.BinOp a .Sub b pos) (.int (i - j)) := v_op (fun _ _ => op_sub) ha hb (rr_I0 (f := fun i j => .int (i - j)) fun _ => rfl)
theorem v_mul (ha : PV S E a (.int i)) (hb : PV S E b (.int j)) (c : CMulW i j) : PV S E (.BinOp a .Mult b pos) (.int (i * j)) := v_op (fun _ _ => op_mulW) ha hb (rr_I (f := fun i j => .int (i * j)) c fun _ => rfl)
theorem v_mul0 (ha : PV S E a (.int i)) (hb : PV S E b (.int j)) (c : CMul i j) : PV S E (.BinOp a .Mult b pos) (.int (i * j)) := v_op (fun _ _ => op_mul) ha hb (rr_I (f := fun i j => .int (i * j)) c fun _ => rfl)
theorem v_mod (ha : PV S E a (.int i)) (hb : PV S E b (.int j)) (c : 0 < j) : PV S E (.BinOp a .Mod b pos) (.int (i % j)) := v_op (fun _ _ => op_mod) ha hb (rr_I (C := fun _ j => 0 < j) (f := fun i j => .int (i % j)) c fun _ => rfl)
theorem v_fdiv (ha : PV S E a (.int i)) (hb : PV S E b (.int j)) (c : CDivW i j) : PV S E (.BinOp a .FloorDiv b pos) (.int (i / j)) := v_op (fun _ _ => op_fdivW) ha hb (rr_I (f := fun i j => .int (i / j)) c fun _ => rfl)
theorem v_fdiv0 (ha : PV S E a (.int i)) (hb : PV S E b (.int j)) (c : CDiv i j) : PV S E (.BinOp a .FloorDiv b pos) (.int (i / j)) := v_op (fun _ _ => op_fdiv) ha hb (rr_I (f := fun i j => .int (i / j)) c fun _ => rfl)
theorem v_pow (ha : PV S E a (.int i)) (hb : PV S E b (.int j)) (c : CPow i j) : PV S E (.BinOp a .Pow b pos) (.int (i ^ j.toNat)) := v_op (fun _ _ => op_pow) ha hb (rr_I (f := fun i j => .int (i ^ j.toNat)) c fun _ => rfl)
theorem v_neg (ha : PV S E a (.int i)) : PV S E (.UnaryOp .USub a pos) (.int (-i)) := fun σ H hE Q q =>
  ⟨_, fun X M => pe_un un_neg (se_ok M), ha σ H hE _ fun u H1 e1 i1 => ⟨i, i1, q _ H1 e1 rfl⟩⟩
theorem v_lt (ha : PV S E a (.int i)) (hb : PV S E b (.int j)) : PV S E (.Compare a [.Lt] [b] pos) (.bl (decide (i < j))) := v_cmp (fun _ _ => op_lt) ha hb (rr_I0 (f := fun i j => .bl (decide (i < j))) fun _ => rfl) (nomark _)
theorem v_ge (ha : PV S E a (.int i)) (hb : PV S E b (.int j)) : PV S E (.Compare a [.GtE] [b] pos) (.bl (decide (j ≤ i))) := v_cmp (fun _ _ => op_ge) ha hb (rr_I0 (f := fun i j => .bl (decide (j ≤ i))) fun _ => rfl) (nomark _)
theorem v_gt (ha : PV S E a (.int i)) (hb : PV S E b (.int j)) : PV S E (.Compare a [.Gt] [b] pos) (.bl (decide (j < i))) := v_cmp (fun _ _ => op_gt) ha hb (rr_I0 (f := fun i j => .bl (decide (j < i))) fun _ => rfl) (nomark _)
theorem v_le (ha : PV S E a (.int i)) (hb : PV S E b (.int j)) : PV S E (.Compare a [.LtE] [b] pos) (.bl (decide (i ≤ j))) := v_cmp (fun _ _ => op_le) ha hb (rr_I0 (f := fun i j => .bl (decide (i ≤ j))) fun _ => rfl) (nomark _)
theorem rr_eqI {K : PySem.W.Frag} : RR K rEq (.int i) (.int j) (.bl (decide (i = j))) := fun H u v hu hv Q q => by
  have hu : u = .int i := hu
  have hv : v = .int j := hv
  subst hu hv
  exact ⟨rfl, q _ H (Same.refl H) (show _ = _ by congr 1; simp)⟩
theorem rr_neI {K : PySem.W.Frag} : RR K rNe (.int i) (.int j) (.bl (!decide (i = j))) := fun H u v hu hv Q q => by
  have hu : u = .int i := hu
  have hv : v = .int j := hv
  subst hu hv
  exact ⟨rfl, q _ H (Same.refl H) (show _ = _ by congr 1; simp)⟩
theorem rr_eqS {K : PySem.W.Frag} {i j : Str} : RR K rEq (.str i) (.str j) (.bl (decide (i = j))) := fun H u v hu hv Q q => by
  have hu : u = .str i := hu
  have hv : v = .str j := hv
  subst hu hv
  exact ⟨rfl, q _ H (Same.refl H) (show _ = _ by congr 1; simp)⟩
theorem rr_neS {K : PySem.W.Frag} {i j : Str} : RR K rNe (.str i) (.str j) (.bl (!decide (i = j))) := fun H u v hu hv Q q => by
  have hu : u = .str i := hu
  have hv : v = .str j := hv
  subst hu hv
  exact ⟨rfl, q _ H (Same.refl H) (show _ = _ by congr 1; simp)⟩
theorem v_eqI (ha : PV S E a (.int i)) (hb : PV S E b (.int j)) : PV S E (.Compare a [.Eq] [b] pos) (.bl (decide (i = j))) := v_cmp (fun _ _ => op_eq) ha hb rr_eqI (nomark _)
theorem v_neI (ha : PV S E a (.int i)) (hb : PV S E b (.int j)) : PV S E (.Compare a [.NotEq] [b] pos) (.bl (!decide (i = j))) := v_cmp (fun _ _ => op_ne) ha hb rr_neI (nomark _)
theorem is_non {K : PySem.W.Frag} {H : Hp} : ∀ {d : D} {v : V}, Is K H d v → decide (v = .non) = (match d with | .non => true | _ => false)
  | .non, v, h => by
    have h : v = .non := h
    subst h
    rfl
  | .bl _, v, h => by
    have h : v = .bl _ := h
    subst h
    rfl
  | .int _, v, h => by
    have h : v = .int _ := h
    subst h
    rfl
  | .str _, v, h => by
    have h : v = .str _ := h
    subst h
    rfl
  | .adr _, v, h => by
    have h : v = .ref _ := h
    subst h
    rfl
  | .ty _, v, h => by
    have h : v = .ty _ := h
    subst h
    rfl
  | .tup _, v, h => by
    obtain ⟨_, _, rfl, _⟩ := h
    rfl
  | .ktup _, v, h => by
    obtain ⟨_, _, rfl, _⟩ := h
    rfl
  | .lst _, v, h => by
    obtain ⟨_, _, rfl, _⟩ := h
    rfl
  | .dic _ _, v, h => by
    obtain ⟨_, _, rfl, _⟩ := h
    rfl
def isNon : D → Bool
  | .non => true
  | _ => false
theorem is_non' {K : PySem.W.Frag} {H : Hp} {d : D} {v : V} (h : Is K H d v) : decide (v = .non) = isNon d := by
  rw [is_non h]
  cases d <;> rfl
abbrev rIsN1 : R2 := fun x y H Q => y = .non ∧ Q (.bl (decide (x = .non))) H
abbrev rNotN1 : R2 := fun x y H Q => y = .non ∧ Q (.bl (!decide (x = .non))) H
theorem rr_isN {K : PySem.W.Frag} : RR K rIsN1 x .non (.bl (isNon x)) := fun H u v hu hv Q q => ⟨hv, q _ H (Same.refl H) (show _ = _ by rw [is_non' hu])⟩
theorem rr_notN {K : PySem.W.Frag} : RR K rNotN1 x .non (.bl (!isNon x)) := fun H u v hu hv Q q => ⟨hv, q _ H (Same.refl H) (show _ = _ by rw [is_non' hu])⟩
theorem v_isN {jj pp} (ha : PV S E a x) : PV S E (.Compare a [.Is] [.Constant .none jj pp] pos) (.bl (isNon x)) := v_cmp (fun _ _ => op_isN) ha v_non rr_isN (nomark _)
theorem v_notN {jj pp} (ha : PV S E a x) : PV S E (.Compare a [.IsNot] [.Constant .none jj pp] pos) (.bl (!isNon x)) := v_cmp (fun _ _ => op_notN) ha v_non rr_notN (nomark _)

/-! ### tests -/
theorem PB.to {c c' : Bool} (h : PB S E e c) (q : c = c') : PB S E e c' := q ▸ h
theorem b_lt (ha : PV S E a (.int i)) (hb : PV S E b (.int j)) : PB S E (.Compare a [.Lt] [b] pos) (decide (i < j)) := b_cmp (fun _ _ => op_lt) ha hb (rr_I0 (f := fun i j => .bl (decide (i < j))) fun _ => rfl) (nomark _)
theorem b_ge (ha : PV S E a (.int i)) (hb : PV S E b (.int j)) : PB S E (.Compare a [.GtE] [b] pos) (decide (j ≤ i)) := b_cmp (fun _ _ => op_ge) ha hb (rr_I0 (f := fun i j => .bl (decide (j ≤ i))) fun _ => rfl) (nomark _)
theorem b_gt (ha : PV S E a (.int i)) (hb : PV S E b (.int j)) : PB S E (.Compare a [.Gt] [b] pos) (decide (j < i)) := b_cmp (fun _ _ => op_gt) ha hb (rr_I0 (f := fun i j => .bl (decide (j < i))) fun _ => rfl) (nomark _)
theorem b_le (ha : PV S E a (.int i)) (hb : PV S E b (.int j)) : PB S E (.Compare a [.LtE] [b] pos) (decide (i ≤ j)) := b_cmp (fun _ _ => op_le) ha hb (rr_I0 (f := fun i j => .bl (decide (i ≤ j))) fun _ => rfl) (nomark _)
theorem b_eqI (ha : PV S E a (.int i)) (hb : PV S E b (.int j)) : PB S E (.Compare a [.Eq] [b] pos) (decide (i = j)) := b_cmp (fun _ _ => op_eq) ha hb rr_eqI (nomark _)
theorem b_neI (ha : PV S E a (.int i)) (hb : PV S E b (.int j)) : PB S E (.Compare a [.NotEq] [b] pos) (!decide (i = j)) := b_cmp (fun _ _ => op_ne) ha hb rr_neI (nomark _)
theorem b_eqS {i j : Str} (ha : PV S E a (.str i)) (hb : PV S E b (.str j)) : PB S E (.Compare a [.Eq] [b] pos) (decide (i = j)) := b_cmp (fun _ _ => op_eq) ha hb rr_eqS (nomark _)
theorem b_neS {i j : Str} (ha : PV S E a (.str i)) (hb : PV S E b (.str j)) : PB S E (.Compare a [.NotEq] [b] pos) (!decide (i = j)) := b_cmp (fun _ _ => op_ne) ha hb rr_neS (nomark _)
theorem b_isN {jj pp} (ha : PV S E a x) : PB S E (.Compare a [.Is] [.Constant .none jj pp] pos) (isNon x) := b_cmp (fun _ _ => op_isN) ha v_non rr_isN (nomark _)
theorem b_notN {jj pp} (ha : PV S E a x) : PB S E (.Compare a [.IsNot] [.Constant .none jj pp] pos) (!isNon x) := b_cmp (fun _ _ => op_notN) ha v_non rr_notN (nomark _)
theorem b_val {c : Bool} (h : PV S E e (.bl c)) (he : ∀ (env : PySem.Env) whole, isTrue e env whole = (do let v ← whole; standAt e.pos; holding [v] (truthy v)) := by intro _ _; rfl) : PB S E e c := fun σ H hE Q q =>
  ⟨_, fun X M => pt_val (se_ok M) (fun wh => he _ wh), h σ H hE _ fun v H1 e1 i1 => ⟨c, i1, q H1 e1⟩⟩
theorem b_not {c : Bool} (h : PB S E e c) : PB S E (.UnaryOp .Not e pos) (!c) := fun σ H hE Q q => ⟨_, fun X M => pt_not (sc_ok M), h σ H hE _ fun H1 e1 => q H1 e1⟩
theorem b_w {c : Bool} (h : PBw S E e c) : PB S E e c := fun σ H hE Q q => ⟨_, fun X M => PW.pt (sw_ok M), h σ H hE Q q⟩
theorem w_and1 {c : Bool} (h : PB S E a c) : PBw S E (.BoolOp .And [a] pos) c := fun σ H hE Q q => ⟨_, fun X M => pw_and1 (sc_ok M), h σ H hE Q q⟩
theorem w_or1 {c : Bool} (h : PB S E a c) : PBw S E (.BoolOp .Or [a] pos) c := fun σ H hE Q q => ⟨_, fun X M => pw_or1 (sc_ok M), h σ H hE Q q⟩
variable {rest : List Expr}
theorem w_and {c c' : Bool} (h : PB S E a c) (hr : c = true → PBw S E (.BoolOp .And (b :: rest) pos) c') : PBw S E (.BoolOp .And (a :: b :: rest) pos) (c && c') := fun σ H hE Q q =>
  ⟨_, fun X M => pw_and (sc_ok M) (sw_ok M), h σ H hE _ fun H1 e1 => by
    cases c with
    | true => exact iteT (hr rfl σ H1 (hE.mono e1) Q fun H2 e2 => q H2 (e1.trans e2))
    | false => exact iteF (q H1 e1)⟩
theorem w_or {c c' : Bool} (h : PB S E a c) (hr : c = false → PBw S E (.BoolOp .Or (b :: rest) pos) c') : PBw S E (.BoolOp .Or (a :: b :: rest) pos) (c || c') := fun σ H hE Q q =>
  ⟨_, fun X M => pw_or (sc_ok M) (sw_ok M), h σ H hE _ fun H1 e1 => by
    cases c with
    | true => exact iteT (q H1 e1)
    | false => exact iteF (hr rfl σ H1 (hE.mono e1) Q fun H2 e2 => q H2 (e1.trans e2))⟩
/-- .. as values -/
theorem v_one {op} {c : D} (h : PV S E a c) : PV S E (.BoolOp op [a] pos) c := fun σ H hE Q q => ⟨_, fun X M => pe_one (se_ok M), h σ H hE Q q⟩
theorem v_and {c c' : Bool} (h : PV S E a (.bl c)) (hr : c = true → PV S E (.BoolOp .And (b :: rest) pos) (.bl c')) : PV S E (.BoolOp .And (a :: b :: rest) pos) (.bl (c && c')) := fun σ H hE Q q =>
  ⟨_, fun X M => pe_and (se_ok M) (se_ok M), h σ H hE _ fun v H1 e1 i1 => ⟨c, i1, by
    cases c with
    | true => exact iteT (hr rfl σ H1 (hE.mono e1) Q fun w H2 e2 i2 => q w H2 (e1.trans e2) i2)
    | false => exact iteF (q _ H1 e1 rfl)⟩⟩
theorem v_or {c c' : Bool} (h : PV S E a (.bl c)) (hr : c = false → PV S E (.BoolOp .Or (b :: rest) pos) (.bl c')) : PV S E (.BoolOp .Or (a :: b :: rest) pos) (.bl (c || c')) := fun σ H hE Q q =>
  ⟨_, fun X M => pe_or (se_ok M) (se_ok M), h σ H hE _ fun v H1 e1 i1 => ⟨c, i1, by
    cases c with
    | true => exact iteT (q _ H1 e1 rfl)
    | false => exact iteF (hr rfl σ H1 (hE.mono e1) Q fun w H2 e2 i2 => q w H2 (e1.trans e2) i2)⟩⟩
theorem v_not {c : Bool} (h : PV S E a (.bl c)) : PV S E (.UnaryOp .Not a pos) (.bl (!c)) := fun σ H hE Q q => ⟨_, fun X M => pe_not (se_ok M), h σ H hE _ fun v H1 e1 i1 => ⟨c, i1, q _ H1 e1 rfl⟩⟩
/-- i <= e <= k -/
theorem b_chainLe {c : Expr} {k : Int} (ha : PV S E a (.int i)) (hb : PV S E b (.int j)) (hc : PV S E c (.int k)) (hm : lastMarks [CmpOp.LtE, CmpOp.LtE] [b, c] = false := by with_unfolding_all rfl) :
    PB S E (.Compare a [.LtE, .LtE] [b, c] pos) (decide (i ≤ j) && decide (j ≤ k)) := fun σ H hE Q q =>
  ⟨_, fun X M => pt_chain op_le op_le (se_ok M) (se_ok M) (se_ok M) hm, ha σ H hE _ fun u H1 e1 i1 => hb σ H1 (hE.mono e1) _ fun v H2 e2 i2 => ⟨i, j, i1, i2, decide (i ≤ j), rfl, by
    cases hh : decide (i ≤ j) with
    | true => exact iteT (hc σ H2 (hE.mono (e1.trans e2)) _ fun w H3 e3 i3 => ⟨j, k, i2, i3, _, rfl, by
        have := q H3 (e1.trans (e2.trans e3))
        rw [hh, Bool.true_and] at this
        exact this⟩)
    | false => exact iteF ⟨false, rfl, by
        have := q H2 (e1.trans e2)
        rw [hh, Bool.false_and] at this
        exact this⟩⟩⟩

/-! ### items, slices, built-in calls -/
theorem atI_map {α β : Type} (f : α → β) (xs : List α) (i : Int) : (ixN (xs.map f).length i).bind (fun j => (xs.map f)[j]?) = ((ixN xs.length i).bind fun j => xs[j]?).map f := by
  rw [List.length_map]
  cases ixN xs.length i with
  | none => rfl
  | some j => simp
def atD (ds : List D) (i : Int) : Option D := (ixN ds.length i).bind fun j => ds[j]?
theorem atD_at {K : PySem.W.Frag} {H : Hp} {ds : List D} {xs : List V} {i : Int} {d : D} (h : IsA K H ds xs) (e : atD ds i = some d) : ∃ v, atI xs i = some v ∧ Is K H d v := by
  unfold atD at e
  unfold atI
  rw [h.len] at e
  cases hj : ixN xs.length i with
  | none => rw [hj] at e; cases e
  | some j =>
    rw [hj] at e
    exact h.get e
theorem atD_nat {ds : List D} {j : Nat} {d : D} (h : ds[j]? = some d) : atD ds (j : Int) = some d := by
  have := atI_nat (xs := [V.non]) (j := 0) rfl
  unfold atD
  have hl : j < ds.length := (List.getElem?_eq_some_iff.mp h).1
  have e : ixN ds.length (j : Int) = some j := by
    unfold ixN
    simp
    omega
  rw [e]
  exact h
theorem v_ix {ds : List D} (ha : PV S E a (.tup ds)) (hb : PV S E b (.int i)) (h : atD ds i = some d := by rfl) (hs : PlainIx b := by exact fun _ _ => rfl) : PV S E (.Subscript a b pos) d := fun σ H hE Q q =>
  ⟨tOp (rIxT S.K) (SE S a) (SE S b), fun X M => pe_ix (by rw [← M.K]; exact ix_tup) (se_ok M) (se_ok M) hs, ha σ H hE _ fun u H1 e1 i1 => hb σ H1 (hE.mono e1) _ fun v H2 e2 i2 => by
    obtain ⟨p, xs, rfl, h1, h2⟩ := i1.mono e2
    obtain ⟨w, h3, h4⟩ := atD_at h2 h
    exact ⟨p, xs, i, w, rfl, i2, h1, h3, q w H2 (e1.trans e2) h4⟩⟩
theorem v_ixL {ds : List D} (ha : PV S E a (.lst ds)) (hb : PV S E b (.int i)) (h : atD ds i = some d := by rfl) (hs : PlainIx b := by exact fun _ _ => rfl) : PV S E (.Subscript a b pos) d := fun σ H hE Q q =>
  ⟨tOp (rIxL S.K) (SE S a) (SE S b), fun X M => pe_ix (by rw [← M.K]; exact ix_list) (se_ok M) (se_ok M) hs, ha σ H hE _ fun u H1 e1 i1 => hb σ H1 (hE.mono e1) _ fun v H2 e2 i2 => by
    obtain ⟨p, xs, rfl, h1, h2⟩ := i1.mono e2
    obtain ⟨w, h3, h4⟩ := atD_at h2 h
    exact ⟨p, xs, i, w, rfl, i2, h1, h3, q w H2 (e1.trans e2) h4⟩⟩

/-- e[:b] of a list -/
theorem v_take {ds : List D} {n : Nat} (ha : PV S E a (.lst ds)) (hb : PV S E b (.int (n : Int))) : PV S E (.Subscript a (.Slice none (some b) none p2) pos) (.lst (ds.take n)) := fun σ H hE Q q =>
  ⟨tSl (rSlL S.K) (SE S a) tNoPart (tPart (SE S b)), fun X M => pe_slice (by rw [← M.K]; exact sl_list) (se_ok M) po_none (po_some (se_ok M)), ha σ H hE _ fun u H1 e1 i1 => hb σ H1 (hE.mono e1) _ fun v H2 e2 i2 => ⟨(n : Int), i2, by
    obtain ⟨a', xs, rfl, h1, h2⟩ := i1.mono e2
    refine ⟨a', xs, rfl, h1, fun p hp => q _ _ ((e1.trans e2).trans (Same.new hp)) ⟨p, _, rfl, .inl (.inl upd_same), ?_⟩⟩
    have e : cutV xs none (some (n : Int)) = xs.take n := by
      unfold cutV
      rw [HT.sIx_none, HT.sIx_nat, List.drop_zero, Nat.sub_zero]
      rcases Nat.le_total n xs.length with h | h
      · rw [Nat.min_eq_left h]
      · rw [Nat.min_eq_right h, List.take_of_length_le (Nat.le_refl _), List.take_of_length_le h]
    rw [e]
    exact (h2.take n).mono (Same.new hp)⟩⟩
/-- e[:-1] of a tuple that has an item -/
theorem v_dropLast {ds : List D} {k p3 p4 p5} (ha : PV S E a (.tup ds)) (h0 : ds ≠ []) : PV S E (.Subscript a (.Slice none (some (.UnaryOp .USub (.Constant (.int 1) k p3) p4)) none p5) pos) (.tup ds.dropLast) := fun σ H hE Q q =>
  ⟨tSl (rSlT S.K) (SE S a) tNoPart (tPart (SE S _)), fun X M => pe_slice (by rw [← M.K]; exact sl_tup) (se_ok M) po_none (po_some (se_ok M)), ha σ H hE _ fun u H1 e1 i1 => (v_neg v_int) σ H1 (hE.mono e1) _ fun v H2 e2 i2 => ⟨-1, i2, by
    obtain ⟨a', xs, rfl, h1, h2⟩ := i1.mono e2
    have hl := h2.len
    have hp0 : 0 < xs.length := by
      rw [← hl]
      exact List.length_pos_iff.mpr h0
    have e0 : HT.sIx xs.length xs.length (some (-1)) = xs.length - 1 := by
      show (if (-1 : Int) < 0 then ((-1 : Int) + (xs.length : Int)).toNat else min (-1 : Int).toNat xs.length) = _
      rw [if_pos (by decide)]
      omega
    refine ⟨a', xs, rfl, h1, ?_, fun p hp => q _ _ ((e1.trans e2).trans (Same.new hp)) ⟨p, _, rfl, .inl (.inl upd_same), ?_⟩⟩
    · rw [e0]
      omega
    have e : cutV xs none (some (-1)) = xs.take (xs.length - 1) := by
      unfold cutV
      rw [HT.sIx_none, e0, List.drop_zero, Nat.sub_zero]
    rw [e, List.dropLast_eq_take, hl]
    exact (h2.take _).mono (Same.new hp)⟩⟩
/-- e[::-1] of a list -/
theorem v_rev {ds : List D} {k p3 p4 p5} (ha : PV S E a (.lst ds)) : PV S E (.Subscript a (.Slice none none (some (.UnaryOp .USub (.Constant (.int 1) k p3) p4)) p5) pos) (.lst ds.reverse) := fun σ H hE Q q =>
  ⟨tRevL S.K (SE S a), fun X M => by rw [← M.K]; exact pe_revL (se_ok M), ha σ H hE _ fun u H1 e1 i1 => by
    obtain ⟨a', xs, rfl, h1, h2⟩ := i1
    exact ⟨a', xs, rfl, h1, fun p hp => q _ _ (e1.trans (Same.new hp)) ⟨p, _, rfl, .inl (.inl upd_same), h2.rev.mono (Same.new hp)⟩⟩⟩

/-- a reading of a call by values gives z -/
def RC (K : PySem.W.Frag) (r : List V → Hp → VK → Prop) (ds : List D) (z : D) : Prop := ∀ H vs, IsA K H ds vs → ∀ Q : VK, (∀ w H', Same H H' → Is K H' z w → Q w H') → r vs H Q
abbrev NoSt (es : List Expr) (pos : Pos) : Prop := ∀ env : PySem.Env, (backTo pos (starEach es env)).any (·.1) = false
abbrev St1 (e : Expr) (es : List Expr) : Prop := ∀ env : PySem.Env, starEach (e :: es) env = (false, eval e env) :: starEach es env
theorem v_callB {n : Str} {id : String} {r : List V → Hp → VK → Prop} (hc : ∀ X, Mt S X → CallR X (.builtin id) r) (hg : GlS S n) (hm : S.mg n = none) (hv : bootBuiltins n = some (.builtin id)) (ha : PVs S E (e :: es) ds) (hr : RC S.K r ds z)
    (hn : n ≠ "__name__" := by decide) (hdb : (n == ("__debug__" : Str)) = false := by decide) (he : St1 e es := by intro _; rfl) (hpl : NoSt es pos := by intro _; rfl) : PV S E (.Call (.Name n p) (e :: es) [] pos) z := fun σ H hE Q q =>
  ⟨_, fun X M => pe_callB (hc X M) (show X.env.scope.names.lookup n = _ by rw [M.sc]; exact hg) (by rw [M.mg]; exact hm) hv (sa_ok M) hn hdb (he _) (hpl _), ha σ H hE _ fun vs H1 e1 i1 => hr H1 vs i1 Q fun w H2 e2 i2 => q w H2 (e1.trans e2) i2⟩
theorem v_callTy {n : Str} {T : String} {r : List V → Hp → VK → Prop} (hc : ∀ X, Mt S X → CallR X (.type T) r) (hg : GlS S n) (hm : S.mg n = none) (hv : bootBuiltins n = some (.type T)) (ha : PVs S E (e :: es) ds) (hr : RC S.K r ds z)
    (hn : n ≠ "__name__" := by decide) (hdb : (n == ("__debug__" : Str)) = false := by decide) (he : St1 e es := by intro _; rfl) (hpl : NoSt es pos := by intro _; rfl) : PV S E (.Call (.Name n p) (e :: es) [] pos) z := fun σ H hE Q q =>
  ⟨_, fun X M => pe_callTy (hc X M) (show X.env.scope.names.lookup n = _ by rw [M.sc]; exact hg) (by rw [M.mg]; exact hm) hv (sa_ok M) hn hdb (he _) (hpl _), ha σ H hE _ fun vs H1 e1 i1 => hr H1 vs i1 Q fun w H2 e2 i2 => q w H2 (e1.trans e2) i2⟩
theorem isA1 {K : PySem.W.Frag} {H : Hp} {d : D} {vs : List V} (h : IsA K H [d] vs) : ∃ v, vs = [v] ∧ Is K H d v := by
  obtain ⟨x, r, rfl, h1, h2⟩ := h
  have h2 : r = [] := h2
  subst h2
  exact ⟨x, rfl, h1⟩
theorem isA2 {K : PySem.W.Frag} {H : Hp} {d d' : D} {vs : List V} (h : IsA K H [d, d'] vs) : ∃ v v', vs = [v, v'] ∧ Is K H d v ∧ Is K H d' v' := by
  obtain ⟨x, r, rfl, h1, h2⟩ := h
  obtain ⟨v, rfl, h3⟩ := isA1 h2
  exact ⟨x, v, rfl, h1, h3⟩
theorem v_abs (hg : GlS S "abs") (hm : S.mg "abs" = none) (ha : PVs S E [e] [.int i]) (he : St1 e [] := by intro _; rfl) : PV S E (.Call (.Name "abs" p) [e] [] pos) (.int (if i < 0 then -i else i)) :=
  v_callB (fun X M => call_abs) hg hm boot_abs ha (fun H vs h Q q => by
    obtain ⟨v, rfl, h1⟩ := isA1 h
    exact ⟨i, by rw [show v = .int i from h1], q _ H (Same.refl H) rfl⟩) (by decide) (by decide) he
def isSeq : D → Option (List D)
  | .tup ds => some ds
  | .lst ds => some ds
  | _ => none
theorem v_len {ds : List D} (hg : GlS S "len") (hm : S.mg "len" = none) (ha : PVs S E [e] [d]) (hs : isSeq d = some ds := by rfl) (he : St1 e [] := by intro _; rfl) : PV S E (.Call (.Name "len" p) [e] [] pos) (.int (ds.length : Int)) :=
  v_callB (r := fun xs H Q => ∃ p ys, xs = [.ref p] ∧ (SqL S.K H p ys ∨ SqT S.K H p ys) ∧ Q (.int ys.length) H) (fun X M => by rw [← M.K]; exact call_len_seq) hg hm PySem.boot_len ha (fun H vs h Q q => by
    obtain ⟨v, rfl, h1⟩ := isA1 h
    cases d with
    | tup ds' =>
      have e : ds' = ds := Option.some.inj hs
      subst e
      obtain ⟨a', xs, rfl, h2, h3⟩ := h1
      exact ⟨a', xs, rfl, .inr h2, q _ H (Same.refl H) (show _ = _ by rw [h3.len])⟩
    | lst ds' =>
      have e : ds' = ds := Option.some.inj hs
      subst e
      obtain ⟨a', xs, rfl, h2, h3⟩ := h1
      exact ⟨a', xs, rfl, .inl h2, q _ H (Same.refl H) (show _ = _ by rw [h3.len])⟩
    | _ => cases hs) (by decide) (by decide) he
/-- tuple(a list) -/
theorem v_tupleOf {ds : List D} (hg : GlS S "tuple") (hm : S.mg "tuple" = none) (ha : PVs S E [e] [.lst ds]) (he : St1 e [] := by intro _; rfl) : PV S E (.Call (.Name "tuple" p) [e] [] pos) (.tup ds) :=
  v_callTy (r := fun xs H Q => ∃ p ys, xs = [.ref p] ∧ ((SqL S.K H p ys ∧ ∀ l, H l = none → Q (.ref l) (upd H l (.tup ys))) ∨ (SqT S.K H p ys ∧ Q (.ref p) H))) (fun X M => by rw [← M.K]; exact call_tuple_of) hg hm PyProof.Rows.boot_tuple ha (fun H vs h Q q => by
    obtain ⟨v, rfl, a', xs, rfl, h2, h3⟩ := isA1 h
    exact ⟨a', xs, rfl, .inl ⟨h2, fun l hl => q _ _ (Same.new hl) ⟨l, xs, rfl, .inl (.inl upd_same), h3.mono (Same.new hl)⟩⟩⟩) (by decide) (by decide) he
theorem v_ktupleOf {ds : List D} (hg : GlS S "tuple") (hm : S.mg "tuple" = none) (ha : PVs S E [e] [.lst ds]) (he : St1 e [] := by intro _; rfl) : PV S E (.Call (.Name "tuple" p) [e] [] pos) (.ktup ds) :=
  v_callTy (r := fun xs H Q => ∃ p ys, xs = [.ref p] ∧ ((SqL S.K H p ys ∧ ∀ l, H l = none → Q (.ref l) (upd H l (.tup ys))) ∨ (SqT S.K H p ys ∧ Q (.ref p) H))) (fun X M => by rw [← M.K]; exact call_tuple_of) hg hm PyProof.Rows.boot_tuple ha (fun H vs h Q q => by
    obtain ⟨v, rfl, a', xs, rfl, h2, h3⟩ := isA1 h
    exact ⟨a', xs, rfl, .inl ⟨h2, fun l hl => q _ _ (Same.new hl) ⟨l, xs, rfl, upd_same, h3.mono (Same.new hl)⟩⟩⟩) (by decide) (by decide) he
/-- list(a list) -/
theorem v_listOf {ds : List D} (hg : GlS S "list") (hm : S.mg "list" = none) (ha : PVs S E [e] [.lst ds]) (he : St1 e [] := by intro _; rfl) : PV S E (.Call (.Name "list" p) [e] [] pos) (.lst ds) :=
  v_callTy (r := fun xs H Q => ∃ p ys, xs = [.ref p] ∧ (SqL S.K H p ys ∨ SqT S.K H p ys) ∧ ∀ l, H l = none → Q (.ref l) (upd H l (.lst ys))) (fun X M => by rw [← M.K]; exact call_list_of) hg hm PyProof.Rows.boot_list ha (fun H vs h Q q => by
    obtain ⟨v, rfl, a', xs, rfl, h2, h3⟩ := isA1 h
    exact ⟨a', xs, rfl, .inl h2, fun l hl => q _ _ (Same.new hl) ⟨l, xs, rfl, .inl (.inl upd_same), h3.mono (Same.new hl)⟩⟩) (by decide) (by decide) he
theorem v_int1 {c : Bool} (hg : GlS S "int") (hm : S.mg "int" = none) (ha : PVs S E [e] [.bl c]) (he : St1 e [] := by intro _; rfl) : PV S E (.Call (.Name "int" p) [e] [] pos) (.int (if c then 1 else 0)) :=
  v_callTy (fun X M => call_int1) hg hm PyProof.Rows.boot_int ha (fun H vs h Q q => by
    obtain ⟨v, rfl, h1⟩ := isA1 h
    exact .inr ⟨c, by rw [show v = .bl c from h1], q _ H (Same.refl H) rfl⟩) (by decide) (by decide) he
theorem v_min2 (hg : GlS S "min") (hm : S.mg "min" = none) {e2 : Expr} (ha : PVs S E [e, e2] [.int i, .int j]) (he : St1 e [e2] := by intro _; rfl) (hpl : NoSt [e2] pos := by intro _; rfl) : PV S E (.Call (.Name "min" p) [e, e2] [] pos) (.int (if j < i then j else i)) :=
  v_callB (fun X M => call_min2 M.calm) hg hm boot_min ha (fun H vs h Q q => by
    obtain ⟨v, v', rfl, h1, h2⟩ := isA2 h
    exact ⟨i, j, by rw [show v = .int i from h1, show v' = .int j from h2], q _ H (Same.refl H) rfl⟩) (by decide) (by decide) he hpl
theorem v_max2 (hg : GlS S "max") (hm : S.mg "max" = none) {e2 : Expr} (ha : PVs S E [e, e2] [.int i, .int j]) (he : St1 e [e2] := by intro _; rfl) (hpl : NoSt [e2] pos := by intro _; rfl) : PV S E (.Call (.Name "max" p) [e, e2] [] pos) (.int (if j > i then j else i)) :=
  v_callB (fun X M => call_max2 M.calm) hg hm boot_max ha (fun H vs h Q q => by
    obtain ⟨v, v', rfl, h1, h2⟩ := isA2 h
    exact ⟨i, j, by rw [show v = .int i from h1, show v' = .int j from h2], q _ H (Same.refl H) rfl⟩) (by decide) (by decide) he hpl
theorem v_sum {ns : List Int} (hg : GlS S "sum") (hm : S.mg "sum" = none) (ha : PVs S E [e] [.lst (ns.map D.int)]) (he : St1 e [] := by intro _; rfl) : PV S E (.Call (.Name "sum" p) [e] [] pos) (.int ns.sum) :=
  v_callB (r := rSum S.K) (fun X M => by rw [← M.K]; exact cr_sum M.calm) hg hm boot_sum ha (fun H vs h Q q => by
    obtain ⟨v, rfl, a', xs, rfl, h2, h3⟩ := isA1 h
    exact ⟨a', ns, rfl, by rw [← h3.ints]; exact h2, q _ H (Same.refl H) rfl⟩) (by decide) (by decide) he
theorem v_all {ns : List Bool} (hg : GlS S "all") (hm : S.mg "all" = none) (ha : PVs S E [e] [.lst (ns.map D.bl)]) (he : St1 e [] := by intro _; rfl) : PV S E (.Call (.Name "all" p) [e] [] pos) (.bl (ns.all id)) :=
  v_callB (r := rAll S.K) (fun X M => by rw [← M.K]; exact cr_all M.calm) hg hm boot_all ha (fun H vs h Q q => by
    obtain ⟨v, rfl, a', xs, rfl, h2, h3⟩ := isA1 h
    exact ⟨a', ns, rfl, by rw [← h3.bls]; exact h2, q _ H (Same.refl H) rfl⟩) (by decide) (by decide) he
/-- the greatest of a list -/
def maxOf : List Int → Int
  | [] => 0
  | [n] => n
  | n :: m :: r => max n (maxOf (m :: r))
theorem maxOf_mem : ∀ {ns : List Int}, ns ≠ [] → maxOf ns ∈ ns ∧ ∀ y ∈ ns, y ≤ maxOf ns
  | [n], _ => ⟨by simp [maxOf], fun y hy => by simp at hy; simp [maxOf, hy]⟩
  | n :: m :: r, _ => by
    obtain ⟨h1, h2⟩ := maxOf_mem (ns := m :: r) (by simp)
    have e : maxOf (n :: m :: r) = max n (maxOf (m :: r)) := rfl
    refine ⟨?_, fun y hy => ?_⟩
    · rw [e]
      rcases Int.le_total n (maxOf (m :: r)) with h | h
      · rw [Int.max_eq_right h]
        exact List.mem_cons_of_mem _ h1
      · rw [Int.max_eq_left h]
        exact List.mem_cons_self
    · rw [e]
      rcases List.mem_cons.mp hy with rfl | hy
      · exact Int.le_max_left _ _
      · exact Int.le_trans (h2 y hy) (Int.le_max_right _ _)
theorem v_maxL {ns : List Int} (hg : GlS S "max") (hm : S.mg "max" = none) (ha : PVs S E [e] [.lst (ns.map D.int)]) (h0 : ns ≠ []) (he : St1 e [] := by intro _; rfl) : PV S E (.Call (.Name "max" p) [e] [] pos) (.int (maxOf ns)) :=
  v_callB (r := rMax S.K) (fun X M => by rw [← M.K]; exact cr_max M.calm) hg hm boot_max ha (fun H vs h Q q => by
    obtain ⟨v, rfl, a', xs, rfl, h2, h3⟩ := isA1 h
    refine ⟨a', ns, rfl, by rw [← h3.ints]; exact h2, List.length_pos_iff.mpr h0, fun m hm1 hm2 => q _ H (Same.refl H) ?_⟩
    obtain ⟨h4, h5⟩ := maxOf_mem h0
    have : m = maxOf ns := Int.le_antisymm (h5 m hm1) (hm2 _ h4)
    exact (show _ = _ by rw [this])) (by decide) (by decide) he
/-- isinstance(x, T), T a built-in type by name -/
def tyOf : D → Option String
  | .non => some "NoneType"
  | .bl _ => some "bool"
  | .int _ => some "int"
  | .str _ => some "str"
  | .tup _ => some "tuple"
  | .lst _ => some "list"
  | _ => none
theorem tyX_of {K : PySem.W.Frag} {H : Hp} : ∀ {d : D} {v : V} {t : String}, Is K H d v → tyOf d = some t → TyX K H v (.type t)
  | .non, v, t, h, e => by
    have h : v = .non := h
    cases e
    subst h
    exact .base .non
  | .bl b, v, t, h, e => by
    have h : v = .bl b := h
    cases e
    subst h
    exact .base (.bl b)
  | .int b, v, t, h, e => by
    have h : v = .int b := h
    cases e
    subst h
    exact .base (.int b)
  | .str b, v, t, h, e => by
    have h : v = .str b := h
    cases e
    subst h
    exact .base (.str b)
  | .tup b, v, t, h, e => by
    obtain ⟨a, xs, rfl, h1, _⟩ := h
    cases e
    rcases h1 with (h1 | ⟨o, h1⟩) | ⟨o, its, n, h1, h2, _⟩
    · exact .base (.tup h1)
    · exact .fTuple h1
    · exact .kTuple h1 h2
  | .lst b, v, t, h, e => by
    obtain ⟨a, xs, rfl, h1, _⟩ := h
    cases e
    rcases h1 with (h1 | ⟨o, h1⟩) | ⟨o, its, n, h1, h2, _⟩
    · exact .base (.lst h1)
    · exact .base (.frz h1)
    · exact .kList h1 h2
theorem v_isi {T t : String} {c : Bool} {pT : Pos} (hg : GlS S "isinstance") (hm : S.mg "isinstance" = none) (hgT : GlS S (Str.ofString T)) (hmT : S.mg (Str.ofString T) = none) (hvT : bootBuiltins (Str.ofString T) = some (.type T)) (ha : PV S E e d) (ht : tyOf d = some t) (hc : kitB t T = some c)
    (he : St1 e [.Name (Str.ofString T) pT] := by intro _; rfl) (hnT : Str.ofString T ≠ "__name__" := by decide) (hdT : (Str.ofString T == ("__debug__" : Str)) = false := by decide) : PV S E (.Call (.Name "isinstance" p) [e, .Name (Str.ofString T) pT] [] pos) (.bl c) :=
  v_callB (ds := [d, .ty T]) (r := rIsi S.K) (fun X M => by rw [← M.K]; exact call_isi) hg hm boot_isinstance
    (v_cons ha (v_cons (fun σ H hE Q q => ⟨_, fun X M => pe_bltn (v := .ty T) (show X.env.scope.names.lookup (Str.ofString T) = _ by rw [M.sc]; exact hgT) (by rw [M.mg]; exact hmT) hvT rfl hnT hdT, q _ H (Same.refl H) rfl⟩) v_nil) he)
    (fun H vs h Q q => by
      obtain ⟨v, v', rfl, h1, h2⟩ := isA2 h
      have h2 : v' = .ty T := h2
      subst h2
      exact ⟨v, .ty T, .type t, .type T, c, rfl, .ty T, tyX_of h1 ht, kit_ty hc, q _ H (Same.refl H) rfl⟩) (by decide) (by decide) he (by intro _; rfl)
end
end Ee

/-! statements, defs and their promises, loops, comprehensions -/
namespace Ee
open PySem PySem.Spec PyProof.Rows L2

/-! ### defs -/
/-- the def x of the text st stands in the module -/
def Df (K : PySem.W.Frag) (mg : Str → Option Value) (x : Str) (st : Stmt) (ps : List Str) : Prop := ∃ f fd, Fun K x x st f fd ∧ mg x = some (.ref f) ∧ Binds K fd ps []
/-- .. and keeps the promise sp at level k -/
def Ok (P : Program) (w : World) (K : PySem.W.Frag) (mg : Str → Option Value) (base : Heap) (k : Nat) (x : Str) (ps : List Str) (sp : Sp) : Prop := ∃ f fd, mg x = some (.ref f) ∧ PySem.W.keepIn K (.ref f) = true ∧ Binds K fd ps [] ∧ FnOk P w K mg base CX0 k f fd ps sp
/-- called with such data it hands back such data; nothing that stood is changed -/
def PF (K : PySem.W.Frag) (R : List D → D → Prop) : Sp := fun vs H Q _ => ∃ ds d, IsA K H ds vs ∧ R ds d ∧ ∀ v H', Same H H' → Is K H' d v → Q v H'
theorem Ok.mono {P : Program} {w : World} {K : PySem.W.Frag} {mg : Str → Option Value} {base : Heap} {k j : Nat} {x : Str} {ps : List Str} {sp : Sp} (h : Ok P w K mg base k x ps sp) (l : k ≤ j) : Ok P w K mg base j x ps sp := by
  obtain ⟨f, fd, h1, h2, h3, h4⟩ := h
  exact ⟨f, fd, h1, h2, h3, h4.mono l⟩

section
variable {S : Sx} {E : En} {a b e : Expr} {es : List Expr} {x y z d : D} {ds : List D} {pos p p2 : Pos}
theorem v_call {n : Str} {ps : List Str} {R : List D → D → Prop} {k : Nat} (h : Ok S.P S.w S.K S.mg S.base k n ps (PF S.K R)) (hg : GlS S n) (ha : PVs S E (e :: es) ds) (hR : R ds d) (hk : Nat.ble k S.k = true := by rfl)
    (hdb : (n == ("__debug__" : Str)) = false := by decide) (he : St1 e es := by intro _; rfl) (hpl : NoSt es pos := by intro _; rfl) : PV S E (.Call (.Name n p) (e :: es) [] pos) d := fun σ H hE Q q => by
  obtain ⟨f, fd, h1, h2, h3, h4⟩ := h
  obtain ⟨P, w, K, mg, base, N, sc, fn, k'⟩ := S
  refine ⟨tCall (PF K R) [] E0 (SA ⟨P, w, K, mg, base, N, sc, fn, k'⟩ (e :: es)), fun X M => ?_, ha σ H hE _ fun vs H1 e1 i1 => ⟨ds, d, by rw [List.append_nil]; exact i1, hR, fun v H2 e2 i2 => q v H2 (e1.trans e2) i2⟩⟩
  have M' := M
  obtain ⟨rfl, rfl, rfl, rfl, rfl, rfl, rfl, rfl, _, hr, _⟩ := M'
  exact pe_call h4 (hr.mono (Nat.le_of_ble_eq_true hk)) hg h1 h2 h3 .nil pass0 (sa_ok M) hdb (he _) (hpl _)
end

/-! ### statements -/
/-- what a block comes to: a value handed back, or the names behind it -/
inductive Out where
  | ret (d : D)
  | nxt (E : En)
def Acc (K : PySem.W.Frag) : Out → Hp → Ends → Prop
  | .ret d, H, T => (∀ v H', Same H H' → Is K H' d v → T.rt v H') ∧ (d = .non → ∀ σ H', Same H H' → T.nx σ H')
  | .nxt E, H, T => ∀ σ H', Same H H' → Env K H' σ E → T.nx σ H'
theorem Acc.mono {K : PySem.W.Frag} {o : Out} {H H' : Hp} {T : Ends} (e : Same H H') (h : Acc K o H T) : Acc K o H' T := by
  cases o with
  | ret d => exact ⟨fun v H2 e2 i2 => h.1 v H2 (e.trans e2) i2, fun hd σ H2 e2 => h.2 hd σ H2 (e.trans e2)⟩
  | nxt E => exact fun σ H2 e2 i2 => h σ H2 (e.trans e2) i2
/-- blocks one behind another -/
def RK (S : Sx) : List (List Stmt) → Ends → L2.St → Hp → Prop
  | [], T, σ, H => T.nx σ H
  | b :: bs, T, σ, H => SB S b { T with nx := fun σ' H' => RK S bs T σ' H' } σ H
def Go (S : Sx) (bs : List (List Stmt)) (E : En) (o : Out) : Prop := ∀ σ H T, Env S.K H σ E → Acc S.K o H T → RK S bs T σ H

section
variable {S : Sx} {E E' : En} {a b e c : Expr} {es : List Expr} {x y z d : D} {ds : List D} {pos p p2 : Pos} {st : Stmt} {rest A B : List Stmt} {bs : List (List Stmt)} {o : Out} {σ : L2.St} {H : Hp} {T : Ends}
theorem rk_pop (h : RK S bs T σ H) : RK S ([] :: bs) T σ H := ⟨_, fun X M => pss_nil, h⟩
/-- the first statement, then the rest -/
theorem rk_st {t : TS} (hp : ∀ X, Mt S X → PS X st t) (h : t { T with nx := fun σ' H' => RK S (rest :: bs) T σ' H' } σ H) : RK S ((st :: rest) :: bs) T σ H :=
  ⟨_, fun X M => pss_cons (hp X M) (sb_ok (b := rest) M), h⟩
theorem rk_set (i : Nat) {n : Str} (hE : Env S.K H σ E) (he : PV S E e d) (hN : S.N[i]? = some n) (hx : Loc S.sc n) (hf : S.fn n = true) (hnd : S.N.Nodup) (hs : ∀ env : PySem.Env, swapsWith e (some (.Name n p)) pos.line env = pure false)
    (k : ∀ v H', Same H H' → Is S.K H' d v → RK S (rest :: bs) T (σ.set i (some v)) H') : RK S ((.Assign [.Name n p] e pos :: rest) :: bs) T σ H :=
  rk_st (fun X M => ps_set (by rw [M.N]; exact hnd) (by rw [M.N]; exact hN) (by rw [M.sc]; exact hx) (se_ok M) (hs _) (.inl (by rw [M.fn]; exact hf))) (he σ H hE _ fun v H1 e1 i1 => k v H1 e1 i1)
theorem rk_ret (hE : Env S.K H σ E) (he : PV S E e d) (k : ∀ v H', Same H H' → Is S.K H' d v → T.rt v H') : RK S ((.Return (some e) pos :: rest) :: bs) T σ H := by
  refine rk_st (t := tRet (SE S e)) (fun X M => ps_ret (se_ok M)) (he σ H hE _ fun v H1 e1 i1 => ?_)
  exact k v H1 e1 i1
theorem rk_if {c' : Bool} (hE : Env S.K H σ E) (hc : PB S E c c') (k : ∀ H', Same H H' → RK S ((cond c' A B) :: rest :: bs) T σ H') : RK S ((.If c A B pos :: rest) :: bs) T σ H :=
  rk_st (fun X M => ps_if (sc_ok M) (sb_ok M) (sb_ok M)) (hc σ H hE _ fun H1 e1 => by
    cases c' with
    | true => exact iteT (k H1 e1)
    | false => exact iteF (k H1 e1))
/-- an expression whose value is dropped -/
theorem rk_drop (hE : Env S.K H σ E) (he : PV S E e d) (hs : ∀ env : PySem.Env, swapsWith e none pos.line env = pure false) (k : ∀ H', Same H H' → RK S (rest :: bs) T σ H') : RK S ((.Expr e pos :: rest) :: bs) T σ H :=
  rk_st (t := tDrop (SE S e)) (fun X M => ps_expr (se_ok M) (hs _)) (he σ H hE _ fun v H1 e1 _ => k H1 e1)
/-- x, y = a, b -/
def envS (sc : Scope) : PySem.Env := { scope := sc, locals := 0, globals := 0, cells := [], qual := "", func := none, code := .none, frame := none, builtins := 0 }
theorem sw_env (ts : List Expr) (v : Expr) (env : PySem.Env) : swappedStores ts v env = swappedStores ts v (envS env.scope) := rfl
theorem rk_par (i j : Nat) {n m : Str} {px py pt pt2 : Pos} {kt k2} (hE : Env S.K H σ E) (ha : PVs S E [a, b] [x, y]) (hi : S.N[i]? = some n) (hj : S.N[j]? = some m) (hij : i ≠ j) (hx : S.sc.names.lookup n = some .local) (hy : S.sc.names.lookup m = some .local) (hnd : S.N.Nodup)
    (hw : swappedStores [.Tuple [.Name n px, .Name m py] kt pt] (.Tuple [a, b] k2 pt2) (envS S.sc) = pure (some [n, m]))
    (k : ∀ v w H', Same H H' → Is S.K H' x v → Is S.K H' y w → RK S (rest :: bs) T ((σ.set i (some v)).set j (some w)) H') : RK S ((.Assign [.Tuple [.Name n px, .Name m py] kt pt] (.Tuple [a, b] k2 pt2) pos :: rest) :: bs) T σ H :=
  rk_st (t := tPar i j (SA S [a, b])) (fun X M => ps_par M.calm (by rw [M.N]; exact hnd) (by rw [M.N]; exact hi) (by rw [M.N]; exact hj) hij (by rw [M.sc]; exact hx) (by rw [M.sc]; exact hy) (sa_ok M) (by rw [sw_env, M.sc]; exact hw) rfl)
    (ha σ H hE _ fun vs H1 e1 i1 => by
      obtain ⟨v, w, rfl, h1, h2⟩ := isA2 i1
      exact ⟨v, w, rfl, k v w H1 e1 h1 h2⟩)

/-! ### the same, names alone -/
theorem g_pop (h : Go S bs E o) : Go S ([] :: bs) E o := fun σ H T hE ha => rk_pop (h σ H T hE ha)
theorem g_end (w : LeE E' E) : Go S [] E (.nxt E') := fun σ H T hE ha => ha σ H (Same.refl H) (hE.weak w)
theorem g_endN : Go S [] E (.ret .non) := fun σ H T hE ha => ha.2 rfl σ H (Same.refl H)
theorem g_ret (he : PV S E e d) : Go S ((.Return (some e) pos :: rest) :: bs) E (.ret d) := fun σ H T hE ha => rk_ret hE he ha.1
theorem g_weak (w : LeE E' E) (h : Go S bs E' o) : Go S bs E o := fun σ H T hE ha => h σ H T (hE.weak w) ha
theorem g_set (i : Nat) {n : Str} (he : PV S E e d) (h : Go S (rest :: bs) (E.set i (some d)) o) (hnd : S.N.Nodup) (hN : S.N[i]? = some n := by rfl) (hx : Loc S.sc n := by first | exact .inl rfl | exact .inr rfl) (hf : S.fn n = true := by rfl) (hs : ∀ env : PySem.Env, swapsWith e (some (.Name n p)) pos.line env = pure false := by intro _; rfl) :
    Go S ((.Assign [.Name n p] e pos :: rest) :: bs) E o := fun σ H T hE ha => rk_set i hE he hN hx hf hnd hs fun v H1 e1 i1 => h _ H1 T ((hE.mono e1).set i i1) (ha.mono e1)
theorem g_if {c' : Bool} (hc : PB S E c c') (h : Go S ((cond c' A B) :: rest :: bs) E o) : Go S ((.If c A B pos :: rest) :: bs) E o := fun σ H T hE ha => rk_if hE hc fun H1 e1 => h σ H1 T (hE.mono e1) (ha.mono e1)
theorem g_ifT (hc : PB S E c true) (h : Go S (A :: rest :: bs) E o) : Go S ((.If c A B pos :: rest) :: bs) E o := g_if hc h
theorem g_ifF (hc : PB S E c false) (h : Go S (B :: rest :: bs) E o) : Go S ((.If c A B pos :: rest) :: bs) E o := g_if hc h
theorem g_drop (he : PV S E e d) (h : Go S (rest :: bs) E o) (hs : ∀ env : PySem.Env, swapsWith e none pos.line env = pure false := by intro _; rfl) : Go S ((.Expr e pos :: rest) :: bs) E o := fun σ H T hE ha => rk_drop hE he hs fun H1 e1 => h σ H1 T (hE.mono e1) (ha.mono e1)
theorem g_par (i j : Nat) {n m : Str} {px py pt pt2 : Pos} {kt k2} (ha : PVs S E [a, b] [x, y]) (h : Go S (rest :: bs) ((E.set i (some x)).set j (some y)) o) (hnd : S.N.Nodup) (hi : S.N[i]? = some n := by rfl) (hj : S.N[j]? = some m := by rfl) (hij : i ≠ j := by decide) (hx : S.sc.names.lookup n = some .local := by rfl) (hy : S.sc.names.lookup m = some .local := by rfl)
    (hw : swappedStores [.Tuple [.Name n px, .Name m py] kt pt] (.Tuple [a, b] k2 pt2) (envS S.sc) = pure (some [n, m]) := by rfl) : Go S ((.Assign [.Tuple [.Name n px, .Name m py] kt pt] (.Tuple [a, b] k2 pt2) pos :: rest) :: bs) E o := fun σ H T hE hacc =>
  rk_par i j hE ha hi hj hij hx hy hnd hw fun v w H1 e1 i1 i2 => h _ H1 T (((hE.mono e1).set i i1).set j i2) (hacc.mono e1)
end

/-! ### targets -/
/-- names take data one by one -/
inductive Tgs (S : Sx) : List Expr → List D → En → En → List Nat → Prop
  | nil {E : En} : Tgs S [] [] E E []
  | cons {n : Str} {pos : Pos} {d : D} {E E' : En} {es : List Expr} {ds : List D} {js : List Nat} (i : Nat) (h : Tgs S es ds (E.set i (some d)) E' js) (hN : S.N[i]? = some n := by rfl) (hx : Loc S.sc n := by first | exact .inl rfl | exact .inr rfl) (hf : S.fn n = true ∨ S.sc.names.lookup n = some .local := by first | exact .inl rfl | exact .inr rfl) :
      Tgs S (.Name n pos :: es) (d :: ds) E E' (i :: js)
/-- a target takes d: the names behind it -/
inductive Tg (S : Sx) : Expr → D → En → En → List Nat → Prop
  | name {n : Str} {pos : Pos} {d : D} {E : En} (i : Nat) (hN : S.N[i]? = some n := by rfl) (hx : Loc S.sc n := by first | exact .inl rfl | exact .inr rfl) (hf : S.fn n = true ∨ S.sc.names.lookup n = some .local := by first | exact .inl rfl | exact .inr rfl) : Tg S (.Name n pos) d E (E.set i (some d)) [i]
  | tup {es : List Expr} {k} {pos : Pos} {ds : List D} {E E' : En} {js : List Nat} (h : Tgs S es ds E E' js) : Tg S (.Tuple es k pos) (.tup ds) E E' js
section
variable {S : Sx} {E E' : En} {tg : Expr} {es : List Expr} {d d1 d2 : D} {ds : List D} {js : List Nat}
theorem Tg.pair {n m : Str} {p1 p2 pos : Pos} {k} (i j : Nat) (hi : S.N[i]? = some n := by rfl) (hj : S.N[j]? = some m := by rfl) (hx : Loc S.sc n := by first | exact .inl rfl | exact .inr rfl) (hy : Loc S.sc m := by first | exact .inl rfl | exact .inr rfl) (hf : S.fn n = true ∨ S.sc.names.lookup n = some .local := by first | exact .inl rfl | exact .inr rfl) (hg : S.fn m = true ∨ S.sc.names.lookup m = some .local := by first | exact .inl rfl | exact .inr rfl) :
    Tg S (.Tuple [.Name n p1, .Name m p2] k pos) (.tup [d1, d2]) E ((E.set i (some d1)).set j (some d2)) [i, j] := .tup (.cons i (.cons j .nil hj hy hg) hi hx hf)
theorem Tgs.each (h : Tgs S es ds E E' js) (env : PySem.Env) : (assignEach es env).length = es.length ∧ (assignEach es env).findIdx? (·.1) = none ∧ es.length = ds.length := by
  induction h with
  | nil => exact ⟨rfl, rfl, rfl⟩
  | cons i h hN hx hf ih =>
    refine ⟨?_, ?_, ?_⟩
    · show ((false, _) :: assignEach _ env).length = _
      rw [List.length_cons, ih.1, List.length_cons]
    · show ((false, _) :: assignEach _ env).findIdx? (·.1) = none
      rw [List.findIdx?_cons, ih.2.1]
      rfl
    · rw [List.length_cons, List.length_cons, ih.2.2]
theorem Tgs.rd (h : Tgs S es ds E E' js) (hnd : S.N.Nodup) : ∃ t : TGs, (∀ X, Mt S X → PGs X es t) ∧ ∀ (vs : List V) (σ : L2.St) (H : Hp), Env S.K H σ E → IsA S.K H ds vs → ∀ Q : L2.St → Hp → Prop, (∀ σ', Env S.K H σ' E' → (∀ ws : List Nat, (∀ j ∈ js, j ∈ ws) → L2.wipe σ' ws = L2.wipe σ ws) → Q σ' H) → t vs σ H Q := by
  induction h with
  | nil => exact ⟨_, fun X M => pgs_nil, fun vs σ H hE hv Q q => ⟨hv, q σ hE fun _ _ => rfl⟩⟩
  | cons i h hN hx hf ih =>
    obtain ⟨t, h1, h2⟩ := ih
    refine ⟨gCons (gName i) t, fun X M => pgs_cons (pg_name (by rw [M.N]; exact hnd) (by rw [M.N]; exact hN) (by rw [M.sc]; exact hx) (by rw [M.fn, M.sc]; exact hf)) (h1 X M), fun vs σ H hE hv Q q => ?_⟩
    obtain ⟨v, r, rfl, i1, i2⟩ := hv
    refine ⟨v, r, rfl, h2 r _ H (hE.set i i1) i2 Q fun σ' hE' hw => q σ' hE' fun ws hws => ?_⟩
    rw [hw ws fun j hj => hws j (List.mem_cons_of_mem _ hj), wipe_set (hws i List.mem_cons_self)]
theorem Tg.rd (h : Tg S tg d E E' js) (hnd : S.N.Nodup) {σ : L2.St} {H : Hp} {v : V} (hE : Env S.K H σ E) (hv : Is S.K H d v) {Q : L2.St → Hp → Prop} (q : ∀ σ', Env S.K H σ' E' → (∀ vs : List Nat, (∀ j ∈ js, j ∈ vs) → L2.wipe σ' vs = L2.wipe σ vs) → Q σ' H) : SG S tg v σ H Q := by
  cases h with
  | name i hN hx hf =>
    exact ⟨_, fun X M => pg_name (by rw [M.N]; exact hnd) (by rw [M.N]; exact hN) (by rw [M.sc]; exact hx) (by rw [M.fn, M.sc]; exact hf), q _ (hE.set i hv) fun vs hvs => wipe_set (hvs i (by simp))⟩
  | @tup es k pos ds E E' js h =>
    obtain ⟨a, xs, rfl, h1, h2⟩ := hv
    obtain ⟨t, t1, t2⟩ := h.rd hnd
    have hl := (h.each (envS default)).2.2
    refine ⟨gTup S.K es.length t, fun X M => ?_, a, xs, rfl, h1, by rw [← h2.len, hl], t2 xs σ H hE h2 Q q⟩
    rw [← M.K]
    exact pg_tup M.calm (t1 X M) (h.each X.env).1 (h.each X.env).2.1
end
/-! a, b, .. = e -/
section
variable {S : Sx} {E E' : En} {e : Expr} {es : List Expr} {ds : List D} {js : List Nat} {pos p : Pos} {rest : List Stmt} {bs : List (List Stmt)} {o : Out} {k : Nat}
theorem g_unpack (he : PV S E e (.tup ds)) (ht : Tgs S es ds E E' js) (hnd : S.N.Nodup) (h : Go S (rest :: bs) E' o) (hs : ∀ env : PySem.Env, swapsWithSole [.Tuple es k p] e pos.line env = pure false := by intro _; rfl) (hw : swappedStores [.Tuple es k p] e (envS S.sc) = pure none := by rfl) :
    Go S ((.Assign [.Tuple es k p] e pos :: rest) :: bs) E o := fun σ H T hE ha => by
  refine rk_st (t := tAsg (SE S e) (SG S (.Tuple es k p))) (fun X M => ps_asg (se_ok M) (sg_ok M) (hs _) (by rw [sw_env, M.sc]; exact hw) rfl) ?_
  refine he σ H hE _ fun v H1 e1 i1 => ?_
  exact (Tg.tup ht : Tg S (.Tuple es k p) _ _ _ _).rd hnd (hE.mono e1) i1 fun σ' hE' _ => h σ' H1 T hE' (ha.mono e1)
end

/-! ### loops -/
section
variable {S : Sx} {E E' : En} {tg it e c : Expr} {ds : List D} {d : D} {pos p p2 : Pos} {body rest : List Stmt} {bs : List (List Stmt)} {o : Out}
/-- one turn of a loop: the target takes d, the body brings the names of the next turn -/
def Turn2 (S : Sx) (E : En) (tg : Expr) (body : List Stmt) (d : D) (o : Out) : Prop := ∃ Et js, Tg S tg d E Et js ∧ Go S [body] Et o
/-- over a tuple: Ei the names ahead of turn i -/
theorem g_forT (Ei : Nat → En) (hit : PV S E it (.tup ds)) (hnd : S.N.Nodup) (h0 : LeE (Ei 0) E) (ht : ∀ (i : Nat) (d : D), ds[i]? = some d → Turn2 S (Ei i) tg body d (.nxt (Ei (i + 1))))
    (hr : Go S (rest :: bs) (Ei ds.length) o) (hs : ∀ (env : PySem.Env) x, foldedSetIterable it env x = pure x := by intro _ _; rfl) : Go S ((.For tg it body [] pos :: rest) :: bs) E o := fun σ H T hE ha => by
  refine rk_st (t := tFor (iTup S.K (SE S it)) (SG S tg) (SB S body)) (fun X M => by rw [← M.K]; exact ps_for (by rw [M.xe]; exact PassesOwn.never) M.calm (pi_tup (se_ok M)) (sg_ok M) (sb_ok M) (fun x => hs _ x)) ?_
  refine hit σ H hE _ fun v H1 e1 i1 => ?_
  obtain ⟨a, xs, rfl, h1, h2⟩ := i1
  refine ⟨a, rfl, ⟨xs, h1⟩, ?_⟩
  refine for_tup (xs := xs) (fun i σ' H' => Same H1 H' ∧ Env S.K H' σ' (Ei i)) ⟨Same.refl _, (hE.mono e1).weak h0⟩ (fun i σ' H' _ q => same_t (Tst.of q.1) h1) (fun i y σ' H' hy q => ?_) (fun σ' H' q => ?_)
  · obtain ⟨d, hd, hi⟩ := h2.getV hy
    obtain ⟨Et, js, t1, t2⟩ := ht i d hd
    refine t1.rd hnd q.2 (hi.mono q.1) fun σ2 hE2 _ => ?_
    exact t2 σ2 H' { T with nx := fun σ' H' => Same H1 H' ∧ Env S.K H' σ' (Ei (i + 1)), ct := _, bk := _ } hE2 fun σ3 H3 e3 hE3 => ⟨q.1.trans e3, hE3⟩
  · rw [← h2.len] at q
    exact hr σ' H' T q.2 (ha.mono (e1.trans q.1))
/-- .. that is left by a return in turn n -/
theorem g_forTR (n : Nat) (Ei : Nat → En) (hit : PV S E it (.tup ds)) (hnd : S.N.Nodup) (h0 : LeE (Ei 0) E) (hn : n < ds.length) (hd : d ≠ .non) (ht : ∀ (i : Nat) (x : D), i < n → ds[i]? = some x → Turn2 S (Ei i) tg body x (.nxt (Ei (i + 1))))
    (hr : ∀ x, ds[n]? = some x → Turn2 S (Ei n) tg body x (.ret d)) (hs : ∀ (env : PySem.Env) x, foldedSetIterable it env x = pure x := by intro _ _; rfl) : Go S ((.For tg it body [] pos :: rest) :: bs) E (.ret d) := fun σ H T hE ha => by
  refine rk_st (t := tFor (iTup S.K (SE S it)) (SG S tg) (SB S body)) (fun X M => by rw [← M.K]; exact ps_for (by rw [M.xe]; exact PassesOwn.never) M.calm (pi_tup (se_ok M)) (sg_ok M) (sb_ok M) (fun x => hs _ x)) ?_
  refine hit σ H hE _ fun v H1 e1 i1 => ?_
  obtain ⟨a, xs, rfl, h1, h2⟩ := i1
  refine ⟨a, rfl, ⟨xs, h1⟩, ?_⟩
  refine for_tup (xs := xs) (fun i σ' H' => i ≤ n ∧ Same H1 H' ∧ Env S.K H' σ' (Ei i)) ⟨Nat.zero_le _, Same.refl _, (hE.mono e1).weak h0⟩ (fun i σ' H' _ q => same_t (Tst.of q.2.1) h1) (fun i y σ' H' hy q => ?_) (fun σ' H' q => ?_)
  · obtain ⟨x, hx, hi⟩ := h2.getV hy
    by_cases hin : i < n
    · obtain ⟨Et, js, t1, t2⟩ := ht i x hin hx
      refine t1.rd hnd q.2.2 (hi.mono q.2.1) fun σ2 hE2 _ => ?_
      exact t2 σ2 H' { T with nx := fun σ' H' => i + 1 ≤ n ∧ Same H1 H' ∧ Env S.K H' σ' (Ei (i + 1)), ct := _, bk := _ } hE2 fun σ3 H3 e3 hE3 => ⟨hin, q.2.1.trans e3, hE3⟩
    · have e : i = n := by have := q.1; omega
      subst e
      obtain ⟨Et, js, t1, t2⟩ := hr x hx
      refine t1.rd hnd q.2.2 (hi.mono q.2.1) fun σ2 hE2 _ => ?_
      exact t2 σ2 H' { T with nx := fun σ' H' => i + 1 ≤ i ∧ Same H1 H' ∧ Env S.K H' σ' (Ei (i + 1)), ct := _, bk := _ } hE2 ⟨fun v H3 e3 i3 => ha.1 v H3 ((e1.trans q.2.1).trans e3) i3, fun z => absurd z hd⟩
  · have := q.1
    have := h2.len
    omega
/-- over a list that stands still -/
theorem g_forL (Ei : Nat → En) (hit : PV S E it (.lst ds)) (hnd : S.N.Nodup) (h0 : LeE (Ei 0) E) (ht : ∀ (i : Nat) (d : D), ds[i]? = some d → Turn2 S (Ei i) tg body d (.nxt (Ei (i + 1))))
    (hr : Go S (rest :: bs) (Ei ds.length) o) (hs : ∀ (env : PySem.Env) x, foldedSetIterable it env x = pure x := by intro _ _; rfl) : Go S ((.For tg it body [] pos :: rest) :: bs) E o := fun σ H T hE ha => by
  refine rk_st (t := tFor (iList S.K (SE S it)) (SG S tg) (SB S body)) (fun X M => by rw [← M.K]; exact ps_for (by rw [M.xe]; exact PassesOwn.never) M.calm (pi_list (se_ok M)) (sg_ok M) (sb_ok M) (fun x => hs _ x)) ?_
  refine hit σ H hE _ fun v H1 e1 i1 => ?_
  obtain ⟨a, xs, rfl, h1, h2⟩ := i1
  refine ⟨a, rfl, ⟨xs, h1⟩, ?_⟩
  refine for_list (xs := xs) (fun i σ' H' => Same H1 H' ∧ Env S.K H' σ' (Ei i)) ⟨Same.refl _, (hE.mono e1).weak h0⟩ (fun i σ' H' _ q => Same.seq q.1 h1) (fun i y σ' H' hy q => ?_) (fun σ' H' q => ?_)
  · obtain ⟨d, hd, hi⟩ := h2.getV hy
    obtain ⟨Et, js, t1, t2⟩ := ht i d hd
    refine t1.rd hnd q.2 (hi.mono q.1) fun σ2 hE2 _ => ?_
    exact t2 σ2 H' { T with nx := fun σ' H' => Same H1 H' ∧ Env S.K H' σ' (Ei (i + 1)), ct := _, bk := _ } hE2 fun σ3 H3 e3 hE3 => ⟨q.1.trans e3, hE3⟩
  · rw [← h2.len] at q
    exact hr σ' H' T q.2 (ha.mono (e1.trans q.1))
/-- over range(a, b) -/
theorem g_forR2 {lo hi : Int} {a b : Expr} {pr : Pos} (Ei : Nat → En) (hg : GlS S "range") (hm : S.mg "range" = none) (ha : PVs S E [a, b] [.int lo, .int hi]) (hb : -100000 ≤ lo ∧ lo ≤ 100000 ∧ -100000 ≤ hi ∧ hi ≤ 100000) (hnd : S.N.Nodup) (h0 : LeE (Ei 0) E)
    (ht : ∀ i : Nat, lo + (i : Int) < hi → Turn2 S (Ei i) tg body (.int (lo + (i : Int))) (.nxt (Ei (i + 1)))) (hr : Go S (rest :: bs) (Ei (hi - lo).toNat) o)
    (hs1 : ∀ env : PySem.Env, starEach [a, b] env = [(false, eval a env), (false, eval b env)] := by intro _; rfl) (hs2 : ∀ env : PySem.Env, starEach [b] env = [(false, eval b env)] := by intro _; rfl) :
    Go S ((.For tg (.Call (.Name "range" pr) [a, b] [] p) body [] pos :: rest) :: bs) E o := fun σ H T hE hacc => by
  refine rk_st (t := tFor (iRng2 (SA S [a, b])) (SG S tg) (SB S body)) (fun X M => ps_for (by rw [M.xe]; exact PassesOwn.never) M.calm (pi_range2 (show X.env.scope.names.lookup _ = _ by rw [M.sc]; exact hg) (by rw [M.mg]; exact hm) (sa_ok M) (hs1 _) (hs2 _)) (sg_ok M) (sb_ok M) (fun x => rfl)) ?_
  refine ha σ H hE _ fun vs H1 e1 i1 => ?_
  obtain ⟨v, v', rfl, i2, i3⟩ := isA2 i1
  have i2 : v = .int lo := i2
  have i3 : v' = .int hi := i3
  subst i2 i3
  refine ⟨lo, hi, rfl, ⟨by omega, by omega, by omega, by omega⟩, ?_⟩
  refine for_range (lo := lo) (n := (hi - lo).toNat) (fun i σ' H' => Same H1 H' ∧ Env S.K H' σ' (Ei i)) ⟨Same.refl _, (hE.mono e1).weak h0⟩ (fun i σ' H' hi' q => ?_) (fun σ' H' q => ?_)
  · obtain ⟨Et, js, t1, t2⟩ := ht i (by omega)
    refine t1.rd hnd q.2 rfl fun σ2 hE2 _ => ?_
    exact t2 σ2 H' { T with nx := fun σ' H' => Same H1 H' ∧ Env S.K H' σ' (Ei (i + 1)), ct := _, bk := _ } hE2 fun σ3 H3 e3 hE3 => ⟨q.1.trans e3, hE3⟩
  · exact hr σ' H' T q.2 (hacc.mono (e1.trans q.1))
/-- while, by a datum of your own: En the names, b the test, μ the measure -/
theorem g_while {α : Type} (En' : α → En) (P : α → Prop) (b : α → Bool) (μ : α → Nat) (nxt : α → α) (a0 : α) (h0 : P a0) (he : LeE (En' a0) E) (hc : ∀ a, P a → PB S (En' a) c (b a))
    (hb : ∀ a, P a → b a = true → Go S [body] (En' a) (.nxt (En' (nxt a))) ∧ P (nxt a) ∧ μ (nxt a) < μ a) (hr : ∀ a, P a → b a = false → Go S (rest :: bs) (En' a) o) : Go S ((.While c body [] pos :: rest) :: bs) E o := fun σ H T hE ha => by
  refine rk_st (t := tWhile (SC S c) (SB S body)) (fun X M => ps_while (by rw [M.xe]; exact PassesOwn.never) (sc_ok M) (sb_ok M)) ?_
  refine ⟨fun m σ' H' => ∃ a, P a ∧ m = μ a ∧ Same H H' ∧ Env S.K H' σ' (En' a), ⟨_, a0, h0, rfl, Same.refl _, hE.weak he⟩, ?_⟩
  rintro m σ' H' ⟨a, pa, rfl, e1, hE1⟩
  refine hc a pa σ' H' hE1 _ fun H2 e2 => ?_
  cases hb' : b a with
  | false => exact iteF (hr a pa hb' σ' H2 T (hE1.mono e2) (ha.mono (e1.trans e2)))
  | true =>
    obtain ⟨h1, h2, h3⟩ := hb a pa hb'
    refine iteT ⟨fun σ'' H'' => ∃ a', P a' ∧ μ a' < μ a ∧ Same H H'' ∧ Env S.K H'' σ'' (En' a'), fun σ3 H3 ⟨a', p', l, e3, hE3⟩ => ⟨μ a', l, a', p', rfl, e3, hE3⟩, ?_⟩
    exact h1 σ' H2 { T with nx := _, ct := _, bk := _ } (hE1.mono e2) fun σ3 H3 e3 hE3 => ⟨nxt a, h2, h3, (e1.trans e2).trans e3, hE3⟩
end

/-! ### comprehensions -/
/-- a block's contexts -/
def Sx.blk (S : Sx) (scope : Scope) : Sx := { S with sc := relS scope S.sc, fn := fun x => scope.names.lookup x == some .cell }
theorem Mt.blk {S : Sx} {X : Cx} (M : Mt S X) {scope : Scope} (s : Shared) (H : Hp) (C : Addr) (cl : List (Str × Addr)) (fp : List Addr) : Mt (S.blk scope) (X.blk s H scope (compEnvC scope cl C X.env) fp) :=
  ⟨M.prog, M.w, M.K, M.mg, M.base, M.N, by show relS scope X.env.scope = relS scope S.sc; rw [M.sc], rfl, M.calm, M.room, rfl⟩
def ST1 (S : Sx) (ifs : List Expr) : TT := fun σ H Q => ∃ t : TT, (∀ X, Mt S X → PTs X ifs t) ∧ t σ H Q
theorem st1_ok {S : Sx} {X : Cx} {ifs : List Expr} (M : Mt S X) : PTs X ifs (ST1 S ifs) := ⟨fun pins s σ H Q I ⟨_, hp, h⟩ => (hp X M).run pins s σ H Q I h⟩
/-- the clause's tests: none, or one -/
def Ifs (S : Sx) (E : En) (ifs : List Expr) (b : Bool) : Prop := match ifs with
  | [] => b = true
  | [c] => PB S E c b
  | _ => False
theorem Ifs.rd {S : Sx} {E : En} {ifs : List Expr} {b : Bool} (h : Ifs S E ifs b) {σ : L2.St} {H : Hp} (hE : Env S.K H σ E) {Q : Bool → Hp → Prop} (q : ∀ H', Same H H' → Q b H') : ST1 S ifs σ H Q := by
  match ifs, h with
  | [], h =>
    have h : b = true := h
    subst h
    exact ⟨_, fun X M => pts_nil, q H (Same.refl H)⟩
  | [c], h => exact ⟨_, fun X M => pts_one (sc_ok M), (show PB S E c b from h) σ H hE Q q⟩
section
variable {S : Sx} {E : En} {tg it elt : Expr} {ifs : List Expr} {ds : List D} {pos p p2 : Pos} {scope : Scope} {own : List (Str × Nat)}
/-- one turn: what it brings -/
def Turn1 (S : Sx) (E : En) (scope : Scope) (own : List (Str × Nat)) (tg elt : Expr) (ifs : List Expr) (d : D) (r : Option D) : Prop :=
  ∃ Et js, Tg (S.blk scope) tg d (wipeE E (own.map (·.2))) Et js ∧ (∀ j ∈ js, j ∈ own.map (·.2)) ∧ Ifs (S.blk scope) Et ifs r.isSome ∧ ∀ y, r = some y → PV (S.blk scope) Et elt y ∧ imm y = true
theorem filterMap_take_succ {α β : Type} {f : α → Option β} {l : List α} {i : Nat} {x : α} (h : l[i]? = some x) : (l.take (i + 1)).filterMap f = (l.take i).filterMap f ++ (match f x with | some y => [y] | none => []) := by
  rw [List.take_add_one, h, List.filterMap_append]
  congr 1
  cases hf : f x <;> simp [hf]
theorem turn_rd {α : Type} {l : List α} {g : α → D} (hnd : S.N.Nodup) {f : α → Option D} {Dl : Addr} {H0 H' : Hp} {σ : L2.St} {i : Nat} {d : α} {v : V} (hd : l[i]? = some d) (hi : i < 1000) (t : Turn1 S E scope own tg elt ifs (g d) (f d)) (hE : Env S.K H0 σ E) (hf : H0 Dl = none) (e : Same H0 H') (hv : Is S.K H' (g d) v)
    (hl : ∃ acc, H' Dl = some (.lst acc) ∧ IsA S.K H' ((l.take i).filterMap f) acc ∧ immA ((l.take i).filterMap f) = true) :
    SG (S.blk scope) tg v (L2.wipe σ (own.map (·.2))) H' fun σ2 H2 => L2.wipe σ2 (own.map (·.2)) = L2.wipe σ (own.map (·.2)) ∧ ST1 (S.blk scope) ifs σ2 H2 fun b H3 =>
      if b = true then SE (S.blk scope) elt σ2 H3 fun y H4 => ∃ acc, H4 Dl = some (.lst acc) ∧ acc.length < sizeLine ∧ (Same H0 (upd H4 Dl (.lst (acc ++ [y]))) ∧ ∃ acc', (upd H4 Dl (.lst (acc ++ [y]))) Dl = some (.lst acc') ∧ IsA S.K (upd H4 Dl (.lst (acc ++ [y]))) ((l.take (i + 1)).filterMap f) acc' ∧ immA ((l.take (i + 1)).filterMap f) = true)
      else (Same H0 H3 ∧ ∃ acc', H3 Dl = some (.lst acc') ∧ IsA S.K H3 ((l.take (i + 1)).filterMap f) acc' ∧ immA ((l.take (i + 1)).filterMap f) = true) := by
  obtain ⟨Et, js, h1, h2, h3, h4⟩ := t
  obtain ⟨acc, a1, a2, a3⟩ := hl
  have hE1 : Env S.K H' (L2.wipe σ (own.map (·.2))) (wipeE E (own.map (·.2))) := (hE.mono e).wipe _
  refine h1.rd hnd hE1 hv fun σ2 hE2 hw => ⟨(hw _ h2).trans wipe_wipe, ?_⟩
  refine h3.rd hE2 fun H3 e3 => ?_
  cases hr : f d with
  | none =>
    refine iteF ⟨e.trans e3, acc, e3 _ _ a1, ?_, ?_⟩
    · rw [filterMap_take_succ hd, hr, List.append_nil]
      exact a2.mono e3
    · rw [filterMap_take_succ hd, hr, List.append_nil]
      exact a3
  | some y =>
    obtain ⟨h5, h6⟩ := h4 y hr
    refine iteT (h5 σ2 H3 (hE2.mono e3) _ fun v4 H4 e4 i4 => ?_)
    have a1' : H4 Dl = some (.lst acc) := e4 _ _ (e3 _ _ a1)
    have tst : Tst H4 (upd H4 Dl (.lst (acc ++ [v4]))) := Tst.upd_lst a1'
    refine ⟨acc, a1', ?_, Same.mut ((e.trans e3).trans e4) hf, acc ++ [v4], upd_same, ?_, ?_⟩
    · have := (a2.len).symm
      have h7 : ((l.take i).filterMap f).length ≤ i := Nat.le_trans (List.length_filterMap_le _ _) (by rw [List.length_take]; omega)
      exact Nat.lt_of_lt_of_le (Nat.lt_of_le_of_lt (by omega) hi) (by decide)
    · rw [filterMap_take_succ hd, hr]
      exact ((a2.mono (e3.trans e4)).stay tst a3).app (IsA.one (i4.stay tst h6))
    · rw [filterMap_take_succ hd, hr]
      exact immA_app a3 (by show (imm y && true) = true; rw [h6]; rfl)
theorem map_at {α β : Type} {f : α → β} {l : List α} {i : Nat} {y : β} (h : (l.map f)[i]? = some y) : ∃ x, l[i]? = some x ∧ f x = y := by
  rw [List.getElem?_map] at h
  cases e : l[i]? with
  | none => rw [e] at h; cases h
  | some x =>
    rw [e] at h
    exact ⟨x, rfl, Option.some.inj h⟩
theorem lcT_rd {α : Type} {l : List α} {g : α → D} {f : α → Option D} (hnd : S.N.Nodup) (hit : PV S E it (.tup (l.map g))) (hlen : l.length ≤ 1000) (ht : ∀ x ∈ l, Turn1 S E scope own tg elt ifs (g x) (f x)) {σ : L2.St} {H : Hp} (hE : Env S.K H σ E) {Q : VK} (q : ∀ v H', Same H H' → Is S.K H' (.lst (l.filterMap f)) v → Q v H') :
    tLc (iTup S.K (SE S it)) (SG (S.blk scope) tg) (ST1 (S.blk scope) ifs) (SE (S.blk scope) elt) (own.map (·.2)) σ H Q := by
  refine hit σ H hE _ fun v H1 e1 i1 => ?_
  obtain ⟨a, xs, rfl, h1, h2⟩ := i1
  refine ⟨a, rfl, ⟨xs, h1⟩, fun Dl hD => ?_⟩
  refine lc_tup (K := S.K) (a := a) (xs := xs) (fun i H' => Same H1 H' ∧ ∃ acc, H' Dl = some (.lst acc) ∧ IsA S.K H' ((l.take i).filterMap f) acc ∧ immA ((l.take i).filterMap f) = true) ⟨Same.new hD, [], upd_same, by rw [List.take_zero]; exact rfl, by rw [List.take_zero]; rfl⟩ (fun i H' _ p => same_t (Tst.of p.1) h1)
    (fun i x H' hx p => ?_) (fun H' p => ?_)
  · obtain ⟨d', hd', hi⟩ := h2.getV hx
    obtain ⟨d, hd, rfl⟩ := map_at hd'
    have hil : i < l.length := (List.getElem?_eq_some_iff.mp hd).1
    exact turn_rd (g := g) hnd hd (by omega) (ht d (List.mem_of_getElem? hd)) (hE.mono e1) hD p.1 (hi.mono p.1) p.2
  · obtain ⟨p1, acc, p2, p3, _⟩ := p
    rw [← h2.len, List.length_map, List.take_length] at p3
    exact q _ H' (e1.trans p1) ⟨Dl, acc, rfl, .inl (.inl p2), p3⟩
theorem lcL_rd {α : Type} {l : List α} {g : α → D} {f : α → Option D} (hnd : S.N.Nodup) (hit : PV S E it (.lst (l.map g))) (hlen : l.length ≤ 1000) (ht : ∀ x ∈ l, Turn1 S E scope own tg elt ifs (g x) (f x)) {σ : L2.St} {H : Hp} (hE : Env S.K H σ E) {Q : VK} (q : ∀ v H', Same H H' → Is S.K H' (.lst (l.filterMap f)) v → Q v H') :
    tLc (iList S.K (SE S it)) (SG (S.blk scope) tg) (ST1 (S.blk scope) ifs) (SE (S.blk scope) elt) (own.map (·.2)) σ H Q := by
  refine hit σ H hE _ fun v H1 e1 i1 => ?_
  obtain ⟨a, xs, rfl, h1, h2⟩ := i1
  refine ⟨a, rfl, ⟨xs, h1⟩, fun Dl hD => ?_⟩
  refine lc_list (K := S.K) (a := a) (xs := xs) (fun i H' => Same H1 H' ∧ ∃ acc, H' Dl = some (.lst acc) ∧ IsA S.K H' ((l.take i).filterMap f) acc ∧ immA ((l.take i).filterMap f) = true) ⟨Same.new hD, [], upd_same, by rw [List.take_zero]; exact rfl, by rw [List.take_zero]; rfl⟩ (fun i H' _ p => Same.seq p.1 h1)
    (fun i x H' hx p => ?_) (fun H' p => ?_)
  · obtain ⟨d', hd', hi⟩ := h2.getV hx
    obtain ⟨d, hd, rfl⟩ := map_at hd'
    have hil : i < l.length := (List.getElem?_eq_some_iff.mp hd).1
    exact turn_rd (g := g) hnd hd (by omega) (ht d (List.mem_of_getElem? hd)) (hE.mono e1) hD p.1 (hi.mono p.1) p.2
  · obtain ⟨p1, acc, p2, p3, _⟩ := p
    rw [← h2.len, List.length_map, List.take_length] at p3
    exact q _ H' (e1.trans p1) ⟨Dl, acc, rfl, .inl (.inl p2), p3⟩
theorem filterMap_map {α β γ : Type} (f : β → Option γ) (g : α → β) (l : List α) : (l.map g).filterMap f = l.filterMap fun x => f (g x) := by
  rw [List.filterMap_map]
  rfl
theorem lcR_rd {f : Nat → Option D} {n : Nat} {a : Expr} (hnd : S.N.Nodup) (ha : PVs S E [a] [.int (n : Int)]) (hlen : n ≤ 1000) (ht : ∀ i, i < n → Turn1 S E scope own tg elt ifs (.int (i : Int)) (f i)) {σ : L2.St} {H : Hp} (hE : Env S.K H σ E) {Q : VK}
    (q : ∀ v H', Same H H' → Is S.K H' (.lst ((List.range n).filterMap f)) v → Q v H') :
    tLc (iRng1 (SA S [a])) (SG (S.blk scope) tg) (ST1 (S.blk scope) ifs) (SE (S.blk scope) elt) (own.map (·.2)) σ H Q := by
  refine ha σ H hE _ fun vs H1 e1 i1 => ?_
  obtain ⟨v, rfl, h1⟩ := isA1 i1
  have h1 : v = .int (n : Int) := h1
  subst h1
  refine ⟨(n : Int), rfl, by omega, by omega, fun Dl hD => ?_⟩
  rw [Int.toNat_natCast]
  refine lc_range (lo := 0) (n := n) (fun i H' => Same H1 H' ∧ ∃ acc, H' Dl = some (.lst acc) ∧ IsA S.K H' (((List.range n).take i).filterMap f) acc ∧ immA (((List.range n).take i).filterMap f) = true) ⟨Same.new hD, [], upd_same, by rw [List.take_zero]; exact rfl, by rw [List.take_zero]; rfl⟩
    (fun i H' hi p => ?_) (fun H' p => ?_)
  · have e0 : (0 : Int) + (i : Int) = (i : Int) := Int.zero_add _
    rw [e0]
    exact turn_rd (g := fun i : Nat => D.int (i : Int)) hnd (List.getElem?_range hi) (by omega) (ht i hi) (hE.mono e1) hD p.1 rfl p.2
  · obtain ⟨p1, acc, p2, p3, _⟩ := p
    rw [List.take_of_length_le (by rw [List.length_range]; exact Nat.le_refl _)] at p3
    exact q _ H' (e1.trans p1) ⟨Dl, acc, rfl, .inl (.inl p2), p3⟩
theorem v_lcT {α : Type} {l : List α} {g : α → D} {f : α → Option D} (own : List (Str × Nat)) (hnd : S.N.Nodup) (ok : BlkOk S.N S.sc scope own) (hit : PV S E it (.tup (l.map g))) (hlen : l.length ≤ 1000) (ht : ∀ x ∈ l, Turn1 S E scope own tg elt ifs (g x) (f x)) (hs : ∀ (env : PySem.Env) x, foldedSetIterable it env x = pure x := by intro _ _; rfl) :
    PV S E (.ListComp elt [⟨tg, it, ifs, 0⟩] scope pos) (.lst (l.filterMap f)) := fun σ H hE Q q =>
  ⟨tLc (iTup S.K (SE S it)) (SG (S.blk scope) tg) (ST1 (S.blk scope) ifs) (SE (S.blk scope) elt) (own.map (·.2)), fun X M => by
    rw [← M.K]
    exact pe_lc M.calm (by rw [M.N]; exact hnd) (pi_tup (se_ok M)) (by rw [M.N, M.sc]; exact ok) (fun s H C cl fp => sg_ok (M.blk s H C cl fp)) (fun s H C cl fp => st1_ok (M.blk s H C cl fp)) (fun s H C cl fp => se_ok (M.blk s H C cl fp)) (fun x => hs _ x), lcT_rd hnd hit hlen ht hE q⟩
theorem v_lcL {α : Type} {l : List α} {g : α → D} {f : α → Option D} (own : List (Str × Nat)) (hnd : S.N.Nodup) (ok : BlkOk S.N S.sc scope own) (hit : PV S E it (.lst (l.map g))) (hlen : l.length ≤ 1000) (ht : ∀ x ∈ l, Turn1 S E scope own tg elt ifs (g x) (f x)) (hs : ∀ (env : PySem.Env) x, foldedSetIterable it env x = pure x := by intro _ _; rfl) :
    PV S E (.ListComp elt [⟨tg, it, ifs, 0⟩] scope pos) (.lst (l.filterMap f)) := fun σ H hE Q q =>
  ⟨tLc (iList S.K (SE S it)) (SG (S.blk scope) tg) (ST1 (S.blk scope) ifs) (SE (S.blk scope) elt) (own.map (·.2)), fun X M => by
    rw [← M.K]
    exact pe_lc M.calm (by rw [M.N]; exact hnd) (pi_list (se_ok M)) (by rw [M.N, M.sc]; exact ok) (fun s H C cl fp => sg_ok (M.blk s H C cl fp)) (fun s H C cl fp => st1_ok (M.blk s H C cl fp)) (fun s H C cl fp => se_ok (M.blk s H C cl fp)) (fun x => hs _ x), lcL_rd hnd hit hlen ht hE q⟩
theorem v_lcR {f : Nat → Option D} {n : Nat} {a : Expr} {pr : Pos} (own : List (Str × Nat)) (hnd : S.N.Nodup) (ok : BlkOk S.N S.sc scope own) (hg : GlS S "range") (hm : S.mg "range" = none) (ha : PVs S E [a] [.int (n : Int)]) (hlen : n ≤ 1000) (ht : ∀ i, i < n → Turn1 S E scope own tg elt ifs (.int (i : Int)) (f i)) (hst : ∀ env : PySem.Env, starEach [a] env = [(false, eval a env)] := by intro _; rfl) :
    PV S E (.ListComp elt [⟨tg, .Call (.Name "range" pr) [a] [] p, ifs, 0⟩] scope pos) (.lst ((List.range n).filterMap f)) := fun σ H hE Q q =>
  ⟨tLc (iRng1 (SA S [a])) (SG (S.blk scope) tg) (ST1 (S.blk scope) ifs) (SE (S.blk scope) elt) (own.map (·.2)), fun X M =>
    pe_lc M.calm (by rw [M.N]; exact hnd) (pi_range1 (show X.env.scope.names.lookup _ = _ by rw [M.sc]; exact hg) (by rw [M.mg]; exact hm) (sa_ok M) (hst _)) (by rw [M.N, M.sc]; exact ok) (fun s H C cl fp => sg_ok (M.blk s H C cl fp)) (fun s H C cl fp => st1_ok (M.blk s H C cl fp)) (fun s H C cl fp => se_ok (M.blk s H C cl fp)) (fun x => rfl), lcR_rd hnd ha hlen ht hE q⟩
/-- y = [..] on one line -/
theorem g_setLcT {α : Type} {l : List α} {g : α → D} {f : α → Option D} {n : Str} {py spos : Pos} {rest : List Stmt} {bs : List (List Stmt)} {o : Out} (i : Nat) (own : List (Str × Nat)) (hnd : S.N.Nodup) (ok : BlkOk S.N S.sc scope own) (hN : S.N[i]? = some n) (hk : S.sc.kind = .function) (hx : S.sc.names.lookup n = some .local) (hl : (py.line == pos.line) = true) (hany : (scope.names.any fun (m, k) => m == n && (k == .local || k == .cell)) = false)
    (hit : PV S E it (.tup (l.map g))) (hlen : l.length ≤ 1000) (ht : ∀ x ∈ l, Turn1 S E scope own tg elt ifs (g x) (f x)) (h : Go S (rest :: bs) (E.set i (some (.lst (l.filterMap f)))) o) (hs : ∀ (env : PySem.Env) x, foldedSetIterable it env x = pure x := by intro _ _; rfl) :
    Go S ((.Assign [.Name n py] (.ListComp elt [⟨tg, it, ifs, 0⟩] scope pos) spos :: rest) :: bs) E o := fun σ H T hE ha =>
  rk_st (t := tAsg (tLc (iTup S.K (SE S it)) (SG (S.blk scope) tg) (ST1 (S.blk scope) ifs) (SE (S.blk scope) elt) (own.map (·.2))) (gName i)) (fun X M => by
    rw [← M.K]
    exact ps_setLc M.calm (by rw [M.N]; exact hnd) (by rw [M.N]; exact hN) (by rw [M.sc]; exact hx) (sw_true (by rw [M.sc]; exact hk) (by rw [M.sc]; exact hx) hl hany) (pi_tup (se_ok M)) (by rw [M.N, M.sc]; exact ok) (fun s H C cl fp => sg_ok (M.blk s H C cl fp)) (fun s H C cl fp => st1_ok (M.blk s H C cl fp)) (fun s H C cl fp => se_ok (M.blk s H C cl fp)) (fun x => hs _ x))
    (by
      show tLc (iTup S.K (SE S it)) (SG (S.blk scope) tg) (ST1 (S.blk scope) ifs) (SE (S.blk scope) elt) (own.map (·.2)) σ H (fun v H1 => RK S (rest :: bs) T (σ.set i (some v)) H1)
      exact lcT_rd hnd hit hlen ht hE fun v H1 e1 i1 => h _ H1 T ((hE.mono e1).set i i1) (ha.mono e1))
end

/-! ### a def's promise by its body -/
def ini (N : List Str) (ds : List D) : En := ds.map some ++ List.replicate (N.length - ds.length) none
theorem env_start {K : PySem.W.Frag} {H : Hp} {N : List Str} {ds : List D} {vs : List V} (h : IsA K H ds vs) : Env K H (L2.start N vs) (ini N ds) := by
  unfold L2.start ini
  refine ⟨by simp [h.len], fun i d e => ?_⟩
  by_cases hi : i < ds.length
  · rw [List.getElem?_append_left (by simpa using hi), List.getElem?_map] at e
    have e1 : ds[i]? = some ds[i] := List.getElem?_eq_getElem hi
    rw [e1] at e
    have e : ds[i] = d := by simpa using e
    obtain ⟨v, h1, h2⟩ := h.get e1
    refine ⟨v, ?_, by rw [← e]; exact h2⟩
    rw [List.getElem?_append_left (by rw [List.length_map, ← h.len]; exact hi), List.getElem?_map, h1]
    rfl
  · rw [List.getElem?_append_right (by simpa using hi)] at e
    rw [List.getElem?_replicate] at e
    split at e <;> cases e
section
variable {P : Program} {w : World} {K : PySem.W.Frag} {mg : Str → Option Value} {base : Heap}
def sx (P : Program) (w : World) (K : PySem.W.Frag) (mg : Str → Option Value) (base : Heap) (N : List Str) (st : Stmt) (k : Nat) : Sx := ⟨P, w, K, mg, base, N, defScope st, fun _ => true, k⟩
/-- any promise -/
theorem ok_sp {x : Str} {st : Stmt} {N ps : List Str} {k : Nat} {sp : Sp} (hD : Df K mg x st ps) (S : FnScope N ps (defScope st)) (len : ∀ vs H Q E, sp vs H Q E → vs.length = ps.length)
    (hb : ∀ vs H Q E, sp vs H Q E → RK (sx P w K mg base N st k) [defBody st] { nx := fun _ H' => Q .non H', rt := Q } (L2.start N vs) H) : Ok P w K mg base (k + 1) x ps sp := by
  obtain ⟨f, fd, F, hm, hB⟩ := hD
  refine ⟨f, fd, hm, F.kp, hB, F.ok S len fun cdv A outer s H vs Q E hr h => ?_⟩
  refine ⟨SB (sx P w K mg base N st k) (defBody st), sb_ok ⟨rfl, rfl, rfl, rfl, rfl, rfl, rfl, rfl, rfl, hr, rfl⟩, ?_⟩
  exact hb vs H Q E h
theorem ok_pf {x : Str} {st : Stmt} {N ps : List Str} {k : Nat} {R : List D → D → Prop} (hD : Df K mg x st ps) (S : FnScope N ps (defScope st)) (hl : ∀ ds d, R ds d → ds.length = ps.length)
    (hb : ∀ ds d, R ds d → Go (sx P w K mg base N st k) [defBody st] (ini N ds) (.ret d)) : Ok P w K mg base (k + 1) x ps (PF K R) :=
  ok_sp hD S (fun vs H Q E h => by
    obtain ⟨ds, d, h1, h2, _⟩ := h
    rw [← h1.len]
    exact hl ds d h2) fun vs H Q E h => by
    obtain ⟨ds, d, h1, h2, h3⟩ := h
    exact hb ds d h2 _ H _ (env_start h1) ⟨fun v H' e i => h3 v H' e i, fun hd σ H' e => h3 .non H' e (by rw [hd]; rfl)⟩
end
end Ee

/-! == and in of data -/
namespace Ee
open PySem PySem.Spec PyProof.Rows L2
mutual
def toPy : D → PyData
  | .non => .none
  | .bl b => .bool b
  | .int i => .int i
  | .str s => .str s
  | .tup ds => .tuple (toPyA ds)
  | .lst ds => .list (toPyA ds)
  | .adr _ => .none
  | .ty _ => .none
  | .dic _ _ => .none
  | .ktup _ => .none
def toPyA : List D → List PyData
  | [] => []
  | d :: ds => toPy d :: toPyA ds
end
mutual
/-- nothing but None, bools, ints, tuples, lists, at most n deep -/
def pl : Nat → D → Bool
  | _, .non => true
  | _, .bl _ => true
  | _, .int _ => true
  | n + 1, .tup ds => plA n ds
  | n + 1, .lst ds => plA n ds
  | _, _ => false
def plA : Nat → List D → Bool
  | _, [] => true
  | n, d :: ds => pl n d && plA n ds
end
theorem plA_of : ∀ {n : Nat} {ds : List D}, (∀ d ∈ ds, pl n d = true) → plA n ds = true
  | n, [], _ => by simp [plA]
  | n, d :: ds, h => by
    simp [plA, h d List.mem_cons_self, plA_of fun x hx => h x (List.mem_cons_of_mem _ hx)]
mutual
theorem dp_of {K : PySem.W.Frag} {H : Hp} : ∀ {d : D} {n : Nat} {v : V}, pl n d = true → Is K H d v → Dp K H v (toPy d)
  | .non, n, v, _, h => by
    have h : v = .non := h
    subst h
    exact .non
  | .bl b, n, v, _, h => by
    have h : v = .bl b := h
    subst h
    exact .bl b
  | .int b, n, v, _, h => by
    have h : v = .int b := h
    subst h
    exact .int b
  | .tup ds, n + 1, v, hp, h => by
    obtain ⟨a, xs, rfl, h1, h2⟩ := h
    exact .tup h1 (dpA_of (n := n) (by simpa [pl] using hp) h2)
  | .lst ds, n + 1, v, hp, h => by
    obtain ⟨a, xs, rfl, h1, h2⟩ := h
    exact .lst h1 (dpA_of (n := n) (by simpa [pl] using hp) h2)
  | .tup ds, 0, v, hp, h => by simp [pl] at hp
  | .lst ds, 0, v, hp, h => by simp [pl] at hp
  | .str _, n, v, hp, h => by cases n <;> simp [pl] at hp
  | .adr _, n, v, hp, h => by cases n <;> simp [pl] at hp
  | .ty _, n, v, hp, h => by cases n <;> simp [pl] at hp
  | .dic _ _, n, v, hp, h => by cases n <;> simp [pl] at hp
  | .ktup _, n, v, hp, h => by cases n <;> simp [pl] at hp
theorem dpA_of {K : PySem.W.Frag} {H : Hp} : ∀ {ds : List D} {n : Nat} {xs : List V}, plA n ds = true → IsA K H ds xs → DpAll K H xs (toPyA ds)
  | [], n, xs, _, h => by
    have h : xs = [] := h
    subst h
    exact .nil
  | d :: ds, n, xs, hp, h => by
    obtain ⟨x, r, rfl, h1, h2⟩ := h
    have hp : pl n d = true ∧ plA n ds = true := by simpa [plA] using hp
    exact .cons (dp_of hp.1 h1) (dpA_of hp.2 h2)
end
mutual
theorem lay_of : ∀ {d : D} {n : Nat}, pl n d = true → (toPy d).canLay0 = true ∧ (toPy d).depth ≤ n
  | .non, n, _ => ⟨rfl, Nat.zero_le _⟩
  | .bl b, n, _ => ⟨rfl, Nat.zero_le _⟩
  | .int b, n, _ => ⟨rfl, Nat.zero_le _⟩
  | .tup ds, n + 1, hp => by
    have h := layA_of (ds := ds) (n := n) (by simpa [pl] using hp)
    exact ⟨by simpa [toPy, PyData.canLay0] using h.1, by simpa [toPy, PyData.depth] using h.2⟩
  | .lst ds, n + 1, hp => by
    have h := layA_of (ds := ds) (n := n) (by simpa [pl] using hp)
    exact ⟨by simpa [toPy, PyData.canLay0] using h.1, by simpa [toPy, PyData.depth] using h.2⟩
  | .tup ds, 0, hp => by simp [pl] at hp
  | .lst ds, 0, hp => by simp [pl] at hp
  | .str _, n, hp => by cases n <;> simp [pl] at hp
  | .adr _, n, hp => by cases n <;> simp [pl] at hp
  | .ty _, n, hp => by cases n <;> simp [pl] at hp
  | .dic _ _, n, hp => by cases n <;> simp [pl] at hp
  | .ktup _, n, hp => by cases n <;> simp [pl] at hp
theorem layA_of : ∀ {ds : List D} {n : Nat}, plA n ds = true → PyData.canLayAll0 (toPyA ds) = true ∧ PyData.depthAll (toPyA ds) ≤ n
  | [], n, _ => ⟨by simp [toPyA, PyData.canLayAll0], by simp [toPyA, PyData.depthAll]⟩
  | d :: ds, n, hp => by
    have hp : pl n d = true ∧ plA n ds = true := by simpa [plA] using hp
    have h1 := lay_of hp.1
    have h2 := layA_of hp.2
    exact ⟨by simp [toPyA, PyData.canLayAll0, h1.1, h2.1], by simp only [toPyA, PyData.depthAll]; omega⟩
end
theorem shaped_of {d : D} {n : Nat} (h : pl n d = true) (hn : n ≤ 60) : SeqAt.shaped (toPy d) = true := by
  have := lay_of h
  unfold SeqAt.shaped
  rw [this.1, decide_eq_true (by omega)]
  rfl
theorem Mt.u64 {S : Sx} {X : Cx} (M : Mt S X) : X.A.units + 65 < cLine := by
  have := M.room.un
  omega
section
variable {S : Sx} {E : En} {a b e : Expr} {x y : D} {pos : Pos} {n m : Nat}
theorem rr_eqD {K : PySem.W.Frag} (hx : pl n x = true) (hy : pl m y = true) (h1 : n ≤ 60 := by decide) (h2 : m ≤ 60 := by decide) : RR K (rEqD K) x y (.bl (PyData.eqv (toPy x) (toPy y))) := fun H u v hu hv Q q =>
  ⟨toPy x, toPy y, dp_of hx hu, dp_of hy hv, shaped_of hx h1, shaped_of hy h2, q _ H (Same.refl H) rfl⟩
theorem b_eqD (ha : PV S E a x) (hb : PV S E b y) (hx : pl n x = true) (hy : pl m y = true) (h1 : n ≤ 60 := by decide) (h2 : m ≤ 60 := by decide) : PB S E (.Compare a [.Eq] [b] pos) (PyData.eqv (toPy x) (toPy y)) :=
  b_cmp (r := rEqD S.K) (fun X M => by rw [← M.K]; exact op_eqD (Nat.lt_trans (by omega) M.u64)) ha hb (rr_eqD hx hy h1 h2) (nomark _)
theorem rr_notInD {K : PySem.W.Frag} {ys : List D} (hx : pl n x = true) (hy : plA m ys = true) (h1 : n ≤ 60 := by decide) (h2 : m + 1 ≤ 60 := by decide) : RR K (rNotInD K) x (.lst ys) (.bl (!(toPyA ys).any fun z => PyData.eqv z (toPy x))) := fun H u v hu hv Q q =>
  ⟨toPy x, toPyA ys, dp_of hx hu, dp_of (n := m + 1) (d := .lst ys) (by simpa [pl] using hy) hv, shaped_of hx h1, shaped_of (n := m + 1) (d := .lst ys) (by simpa [pl] using hy) h2, q _ H (Same.refl H) rfl⟩
theorem b_notInD {ys : List D} (ha : PV S E a x) (hb : PV S E b (.lst ys)) (hx : pl n x = true) (hy : plA m ys = true) (h1 : n ≤ 60 := by decide) (h2 : m + 1 ≤ 60 := by decide) (hm : behindInMarks .NotIn b = false := by rfl) : PB S E (.Compare a [.NotIn] [b] pos) (!(toPyA ys).any fun z => PyData.eqv z (toPy x)) :=
  b_cmp (r := rNotInD S.K) (fun X M => by rw [← M.K]; exact op_notInD M.u64) ha hb (rr_notInD hx hy h1 h2) hm
end
/-! pairs of ints -/
abbrev prD (p : Int × Int) : D := .tup [.int p.1, .int p.2]
theorem eqv_pr (p q : Int × Int) : PyData.eqv (toPy (prD p)) (toPy (prD q)) = decide (p = q) := by
  simp only [toPy, toPyA, PyData.eqv, PyData.eqvAll, Bool.and_true]
  rw [Bool.eq_iff_iff]
  simp [Prod.ext_iff]
theorem toPyA_map {α : Type} (f : α → D) : ∀ l : List α, toPyA (l.map f) = l.map fun x => toPy (f x)
  | [] => rfl
  | x :: l => by
    show toPy (f x) :: toPyA (l.map f) = _
    rw [toPyA_map f l]
    rfl
theorem eqvAll_pr : ∀ p q : List (Int × Int), PyData.eqvAll (p.map fun x => toPy (prD x)) (q.map fun x => toPy (prD x)) = decide (p = q)
  | [], [] => by simp [PyData.eqvAll]
  | [], y :: q => by simp [PyData.eqvAll]
  | x :: p, [] => by simp [PyData.eqvAll]
  | x :: p, y :: q => by
    show (PyData.eqv (toPy (prD x)) (toPy (prD y)) && PyData.eqvAll (p.map fun x => toPy (prD x)) (q.map fun x => toPy (prD x))) = _
    rw [eqv_pr, eqvAll_pr p q, Bool.eq_iff_iff]
    simp
theorem eqv_prs (p q : List (Int × Int)) : PyData.eqv (toPy (.tup (p.map prD))) (toPy (.tup (q.map prD))) = decide (p = q) := by
  simp only [toPy, PyData.eqv]
  rw [toPyA_map, toPyA_map]
  exact eqvAll_pr p q
theorem pl_pr (p : Int × Int) : pl 1 (prD p) = true := rfl
theorem plA_prs (p : List (Int × Int)) : plA 1 (p.map prD) = true := plA_of fun d hd => by
  obtain ⟨x, _, rfl⟩ := List.mem_map.mp hd
  rfl
end Ee

/-! fractions: their size in bits, and what the program's low gives -/
namespace Ee
/-- numerator and denominator below 2 ^ n -/
def Bd (r : Rat) (n : Nat) : Prop := r.num.natAbs < 2 ^ n ∧ r.den < 2 ^ n
theorem Bd.le {r : Rat} {n m : Nat} (h : Bd r n) (l : n ≤ m) : Bd r m := ⟨Nat.lt_of_lt_of_le h.1 (Nat.pow_le_pow_right (by decide) l), Nat.lt_of_lt_of_le h.2 (Nat.pow_le_pow_right (by decide) l)⟩
theorem mul_lt_pow {a b n m : Nat} (ha : a < 2 ^ n) (hb : b < 2 ^ m) : a * b < 2 ^ (n + m) := by
  rw [Nat.pow_add]
  exact Nat.mul_lt_mul'' ha hb
theorem mulI_lt_pow {a b : Int} {n m : Nat} (ha : a.natAbs < 2 ^ n) (hb : b.natAbs < 2 ^ m) : (a * b).natAbs < 2 ^ (n + m) := by
  rw [Int.natAbs_mul]
  exact mul_lt_pow ha hb
theorem addI_lt_pow {a b : Int} {n : Nat} (ha : a.natAbs < 2 ^ n) (hb : b.natAbs < 2 ^ n) : (a + b).natAbs < 2 ^ (n + 1) := by
  rw [Nat.pow_succ]
  omega
theorem subI_lt_pow {a b : Int} {n : Nat} (ha : a.natAbs < 2 ^ n) (hb : b.natAbs < 2 ^ n) : (a - b).natAbs < 2 ^ (n + 1) := by
  rw [Nat.pow_succ]
  omega
theorem bd_divInt {t b : Int} {n : Nat} (hb0 : b ≠ 0) (ht : t.natAbs < 2 ^ n) (hb : b.natAbs < 2 ^ n) : Bd (Rat.divInt t b) n := by
  constructor
  · rw [Rat.num_divInt]
    refine Nat.lt_of_le_of_lt ?_ ht
    rw [Int.natAbs_ediv_of_dvd]
    · refine Nat.le_trans (Nat.div_le_self _ _) ?_
      rw [Int.natAbs_mul]
      have : b.sign.natAbs = 1 := by
        rw [Int.natAbs_sign_of_ne_zero hb0]
      rw [this, Nat.one_mul]
      exact Nat.le_refl _
    · exact Int.dvd_mul_of_dvd_right (Int.gcd_dvd_right ..)
  · rw [Rat.den_divInt, if_neg hb0]
    exact Nat.lt_of_le_of_lt (Nat.div_le_self _ _) hb
theorem den_ne {r : Rat} : (r.den : Int) ≠ 0 := by have := r.den_nz; omega
theorem Bd.add {a b : Rat} {n m : Nat} (ha : Bd a n) (hb : Bd b m) : Bd (a + b) (n + m + 1) := by
  have e : a + b = Rat.divInt (a.num * b.den + b.num * a.den) (a.den * b.den) := by
    rw [Rat.add_def', ← Rat.divInt_ofNat]
    simp
  rw [e]
  refine bd_divInt (Int.mul_ne_zero den_ne den_ne) (addI_lt_pow ?_ ?_) ?_
  · exact mulI_lt_pow ha.1 (by simpa using hb.2)
  · rw [Nat.add_comm n m]
    exact mulI_lt_pow hb.1 (by simpa using ha.2)
  · exact Nat.lt_of_lt_of_le (mulI_lt_pow (n := n) (m := m) (by simpa using ha.2) (by simpa using hb.2)) (Nat.pow_le_pow_right (by decide) (Nat.le_succ _))
theorem Bd.sub {a b : Rat} {n m : Nat} (ha : Bd a n) (hb : Bd b m) : Bd (a - b) (n + m + 1) := by
  have e : a - b = Rat.divInt (a.num * b.den - b.num * a.den) (a.den * b.den) := by
    rw [Rat.sub_def', ← Rat.divInt_ofNat]
    simp
  rw [e]
  refine bd_divInt (Int.mul_ne_zero den_ne den_ne) (subI_lt_pow ?_ ?_) ?_
  · exact mulI_lt_pow ha.1 (by simpa using hb.2)
  · rw [Nat.add_comm n m]
    exact mulI_lt_pow hb.1 (by simpa using ha.2)
  · exact Nat.lt_of_lt_of_le (mulI_lt_pow (n := n) (m := m) (by simpa using ha.2) (by simpa using hb.2)) (Nat.pow_le_pow_right (by decide) (Nat.le_succ _))
theorem mul_eq (a b : Rat) : Rat.divInt (a.num * b.num) (a.den * b.den) = a * b := by
  rw [Rat.mul_def', ← Rat.divInt_ofNat]
  simp
theorem add_eq (a b : Rat) : Rat.divInt (a.num * b.den + b.num * a.den) (a.den * b.den) = a + b := by
  rw [Rat.add_def', ← Rat.divInt_ofNat]
  simp
theorem sub_eq (a b : Rat) : Rat.divInt (a.num * b.den - b.num * a.den) (a.den * b.den) = a - b := by
  rw [Rat.sub_def', ← Rat.divInt_ofNat]
  simp
theorem div_eq (a b : Rat) : Rat.divInt (a.num * b.den) (a.den * b.num) = a / b := by
  rw [Rat.div_def, Rat.inv_def, ← Rat.divInt_mul_divInt, Rat.num_divInt_den]
theorem Bd.mul {a b : Rat} {n m : Nat} (ha : Bd a n) (hb : Bd b m) : Bd (a * b) (n + m) := by
  rw [← mul_eq]
  exact bd_divInt (Int.mul_ne_zero den_ne den_ne) (mulI_lt_pow ha.1 hb.1) (mulI_lt_pow (by simpa using ha.2) (by simpa using hb.2))
theorem Bd.div {a b : Rat} {n m : Nat} (ha : Bd a n) (hb : Bd b m) : Bd (a / b) (n + m) := by
  by_cases h0 : b.num = 0
  · have : b = 0 := by
      rw [← Rat.num_divInt_den b, h0, Rat.zero_divInt]
    subst this
    rw [Rat.div_def]
    have e : a * (0 : Rat)⁻¹ = 0 := by rw [Rat.inv_zero, Rat.mul_zero]
    rw [e]
    have h1 := ha.2
    have h2 := hb.2
    constructor
    · show 0 < _
      exact Nat.two_pow_pos _
    · show 1 < _
      have : (1 : Nat) < 2 ^ m := hb.2
      exact Nat.lt_of_lt_of_le this (Nat.pow_le_pow_right (by decide) (Nat.le_add_left _ _))
  · rw [← div_eq]
    exact bd_divInt (Int.mul_ne_zero den_ne h0) (mulI_lt_pow ha.1 (by simpa using hb.2)) (mulI_lt_pow (by simpa using ha.2) hb.1)
theorem bd_int {i : Int} {n : Nat} (h : i.natAbs < 2 ^ n) (h1 : 1 < 2 ^ n) : Bd (i : Rat) n := ⟨by simpa using h, by simpa using h1⟩
/-- the fraction that low makes of two numbers, the second above 0 -/
theorem low_pos {t b : Int} (hb : 0 < b) : (Rat.divInt t b).num = t / ((Nat.gcd t.natAbs b.natAbs : Nat) : Int) ∧ ((Rat.divInt t b).den : Int) = b / ((Nat.gcd t.natAbs b.natAbs : Nat) : Int) := by
  constructor
  · rw [Rat.num_divInt, Int.sign_eq_one_of_pos hb, Int.one_mul]
    show t / ((Nat.gcd b.natAbs t.natAbs : Nat) : Int) = _
    rw [Nat.gcd_comm]
  · rw [Rat.den_divInt, if_neg (by omega)]
    show ((b.natAbs / Nat.gcd b.natAbs t.natAbs : Nat) : Int) = _
    rw [Int.natCast_ediv, Nat.gcd_comm]
    congr 1
    omega
theorem low_neg {t b : Int} : Rat.divInt (0 - t) (0 - b) = Rat.divInt t b := by
  rw [Int.zero_sub, Int.zero_sub, Rat.neg_divInt_neg]
theorem lt_cross {a b : Rat} : decide (a.num * b.den < b.num * a.den) = decide (a < b) := by
  exact decide_eq_decide.mpr (Rat.lt_iff a b).symm
theorem gcd_red (r : Rat) : Nat.gcd r.num.natAbs r.den = 1 := r.reduced
theorem num_pos {r : Rat} : 0 < r.num ↔ 0 < r := by
  have := Rat.lt_iff 0 r
  simp at this
  exact this.symm
theorem num_nonneg {r : Rat} : 0 ≤ r.num ↔ 0 ≤ r := Rat.num_nonneg
end Ee

/-! cables as lists of lengths: what they drag -/
namespace Ee
abbrev Lens := List (Int × Rat)
def LenOk (p : Int × Rat) : Prop := 1 ≤ p.1 ∧ p.1 ≤ 999 ∧ 0 < p.2 ∧ p.2.num ≤ 9 ∧ p.2.den ≤ 3
structure CabOk (ls : Lens) (back : Rat) : Prop where
  some : 1 ≤ ls.length
  most : ls.length ≤ 12
  each : ∀ p ∈ ls, LenOk p
  back0 : 0 ≤ back
  backN : back.num ≤ 29
  backD : back.den ≤ 3
def drg : Lens → Rat
  | [] => 0
  | p :: t => (p.1 : Rat) * p.2 + drg t
def stp : Lens → Int
  | [] => 0
  | p :: t => p.1 + stp t
theorem drg_app : ∀ a b : Lens, drg (a ++ b) = drg a + drg b
  | [], b => by
    show drg b = 0 + drg b
    grind
  | p :: t, b => by
    show (p.1 : Rat) * p.2 + drg (t ++ b) = (p.1 : Rat) * p.2 + drg t + drg b
    rw [drg_app t b]
    grind
theorem stp_app : ∀ a b : Lens, stp (a ++ b) = stp a + stp b
  | [], b => by
    show stp b = 0 + stp b
    omega
  | p :: t, b => by
    show p.1 + stp (t ++ b) = p.1 + stp t + stp b
    rw [stp_app t b]
    omega
theorem take_succ {α : Type} {l : List α} {i : Nat} {x : α} (h : l[i]? = some x) : l.take (i + 1) = l.take i ++ [x] := by
  rw [List.take_add_one, h]
  rfl
theorem drg_succ {ls : Lens} {i : Nat} {p : Int × Rat} (h : ls[i]? = some p) : drg (ls.take (i + 1)) = drg (ls.take i) + (p.1 : Rat) * p.2 := by
  rw [take_succ h, drg_app]
  show drg (ls.take i) + ((p.1 : Rat) * p.2 + 0) = _
  grind
theorem stp_succ {ls : Lens} {i : Nat} {p : Int × Rat} (h : ls[i]? = some p) : stp (ls.take (i + 1)) = stp (ls.take i) + p.1 := by
  rw [take_succ h, stp_app]
  show stp (ls.take i) + (p.1 + 0) = _
  omega
theorem LenOk.bd1 {p : Int × Rat} (h : LenOk p) : Bd (p.1 : Rat) 10 := bd_int (by have := h.1; have := h.2.1; omega) (by decide)
theorem LenOk.bd2 {p : Int × Rat} (h : LenOk p) : Bd p.2 4 := by
  have h3 := h.2.2.1
  have h4 := num_pos.mpr h3
  exact ⟨by have := h.2.2.2.1; omega, by have := h.2.2.2.2; omega⟩
theorem bd_drg {ls : Lens} (h : ∀ p ∈ ls, LenOk p) : Bd (drg ls) (1 + 15 * ls.length) := by
  induction ls with
  | nil => exact ⟨by decide, by decide⟩
  | cons p t ih =>
    have h1 := h p List.mem_cons_self
    have h2 := ih fun q hq => h q (List.mem_cons_of_mem _ hq)
    refine ((h1.bd1.mul h1.bd2).add h2).le ?_
    rw [List.length_cons]
    omega
theorem stp_nn {ls : Lens} (h : ∀ p ∈ ls, LenOk p) : 0 ≤ stp ls ∧ stp ls ≤ 999 * ls.length := by
  induction ls with
  | nil => exact ⟨by decide, by decide⟩
  | cons p t ih =>
    have h1 := h p List.mem_cons_self
    have h2 := ih fun q hq => h q (List.mem_cons_of_mem _ hq)
    have h3 := h1.1
    have h4 := h1.2.1
    show 0 ≤ p.1 + stp t ∧ p.1 + stp t ≤ 999 * ((t.length + 1 : Nat) : Int)
    omega
theorem CabOk.bd_drg {ls : Lens} {back : Rat} (C : CabOk ls back) (i : Nat) : Bd (drg (ls.take i)) 200 := by
  refine (Ee.bd_drg fun p hp => C.each p (List.mem_of_mem_take hp)).le ?_
  have := C.most
  rw [List.length_take]
  omega
theorem CabOk.bd_all {ls : Lens} {back : Rat} (C : CabOk ls back) : Bd (drg ls) 200 := by
  have := C.bd_drg ls.length
  rwa [List.take_length] at this
theorem CabOk.bd_back {ls : Lens} {back : Rat} (C : CabOk ls back) : Bd back 5 := by
  have h := num_nonneg.mpr C.back0
  exact ⟨by have := C.backN; omega, by have := C.backD; omega⟩
theorem CabOk.bd_stp {ls : Lens} {back : Rat} (C : CabOk ls back) (i : Nat) : Bd ((stp (ls.take i) : Int) : Rat) 14 := by
  have h := stp_nn fun p hp => C.each p (List.mem_of_mem_take (i := i) hp)
  have h2 := C.most
  refine bd_int ?_ (by decide)
  have : (ls.take i).length ≤ 12 := by rw [List.length_take]; omega
  omega
/-- what lies west of a place drags -/
def dAt : Lens → Rat → Rat
  | [], _ => 0
  | p :: t, l => if (p.1 : Rat) < l then (p.1 : Rat) * p.2 + dAt t (l - p.1) else l * p.2
def clip (s l : Rat) : Rat := if s < l then s else if 0 < l then l else 0
def dTo : Lens → Rat → Rat
  | [], _ => 0
  | p :: t, l => clip p.1 l * p.2 + dTo t (l - p.1)
theorem dTo_np {ls : Lens} (h : ∀ p ∈ ls, LenOk p) : ∀ {l : Rat}, l ≤ 0 → dTo ls l = 0 := by
  induction ls with
  | nil => intros; rfl
  | cons p t ih =>
    intro l hl
    have h1 := h p List.mem_cons_self
    have hp : (0 : Rat) < (p.1 : Rat) := by exact_mod_cast (show (0 : Int) < p.1 by have := h1.1; omega)
    have e : clip p.1 l = 0 := by
      unfold clip
      rw [if_neg (by grind), if_neg (by grind)]
    show clip p.1 l * p.2 + dTo t (l - p.1) = 0
    rw [e, ih (fun q hq => h q (List.mem_cons_of_mem _ hq)) (by grind)]
    grind
theorem dAt_dTo {ls : Lens} (h : ∀ p ∈ ls, LenOk p) : ∀ {l : Rat}, 0 ≤ l → dAt ls l = dTo ls l := by
  induction ls with
  | nil => intros; rfl
  | cons p t ih =>
    intro l hl
    have h1 := h p List.mem_cons_self
    have ht : ∀ q ∈ t, LenOk q := fun q hq => h q (List.mem_cons_of_mem _ hq)
    have hp : (0 : Rat) < (p.1 : Rat) := by exact_mod_cast (show (0 : Int) < p.1 by have := h1.1; omega)
    show (if (p.1 : Rat) < l then (p.1 : Rat) * p.2 + dAt t (l - p.1) else l * p.2) = clip p.1 l * p.2 + dTo t (l - p.1)
    by_cases hs : (p.1 : Rat) < l
    · rw [if_pos hs, ih ht (by grind)]
      unfold clip
      rw [if_pos hs]
    · rw [if_neg hs, dTo_np ht (by grind)]
      unfold clip
      rw [if_neg hs]
      by_cases h0 : 0 < l
      · rw [if_pos h0]
        grind
      · rw [if_neg h0]
        grind
theorem clip_nn (s l : Rat) (hs : 0 ≤ s) : 0 ≤ clip s l := by
  unfold clip
  split
  · exact hs
  · split <;> grind
theorem clip_mono {s l m : Rat} (h : l ≤ m) (hs : 0 ≤ s) : clip s l ≤ clip s m := by
  unfold clip
  split <;> split <;> (try split) <;> (try split) <;> grind
theorem dTo_nn {ls : Lens} (h : ∀ p ∈ ls, LenOk p) : ∀ (l : Rat), 0 ≤ dTo ls l := by
  induction ls with
  | nil => intro l; exact Rat.le_refl
  | cons p t ih =>
    intro l
    have h1 := h p List.mem_cons_self
    have hp : (0 : Rat) ≤ (p.1 : Rat) := by exact_mod_cast (show (0 : Int) ≤ p.1 by have := h1.1; omega)
    have h2 := ih (fun q hq => h q (List.mem_cons_of_mem _ hq)) (l - p.1)
    have h3 := Rat.mul_nonneg (clip_nn p.1 l hp) (Rat.le_of_lt h1.2.2.1)
    show 0 ≤ clip p.1 l * p.2 + dTo t (l - p.1)
    grind
theorem dTo_mono {ls : Lens} (h : ∀ p ∈ ls, LenOk p) : ∀ {l m : Rat}, l ≤ m → dTo ls l ≤ dTo ls m := by
  induction ls with
  | nil => intro l m _; exact Rat.le_refl
  | cons p t ih =>
    intro l m hlm
    have h1 := h p List.mem_cons_self
    have hp : (0 : Rat) ≤ (p.1 : Rat) := by exact_mod_cast (show (0 : Int) ≤ p.1 by have := h1.1; omega)
    have h2 := ih (fun q hq => h q (List.mem_cons_of_mem _ hq)) (l := l - p.1) (m := m - p.1) (by grind)
    have h3 := Rat.mul_le_mul_of_nonneg_right (clip_mono hlm hp) (Rat.le_of_lt h1.2.2.1)
    show clip p.1 l * p.2 + dTo t (l - p.1) ≤ clip p.1 m * p.2 + dTo t (m - p.1)
    grind
/-- from the west end to the east end it grows -/
theorem dTo_lt {ls : Lens} (h : ∀ p ∈ ls, LenOk p) : ∀ {l m : Rat}, l < m → 0 ≤ l → m ≤ (stp ls : Int) → dTo ls l < dTo ls m := by
  induction ls with
  | nil =>
    intro l m hlm hl hm
    have : ((stp [] : Int) : Rat) = 0 := rfl
    grind
  | cons p t ih =>
    intro l m hlm hl hm
    have h1 := h p List.mem_cons_self
    have ht : ∀ q ∈ t, LenOk q := fun q hq => h q (List.mem_cons_of_mem _ hq)
    have hp : (0 : Rat) < (p.1 : Rat) := by exact_mod_cast (show (0 : Int) < p.1 by have := h1.1; omega)
    have hq := h1.2.2.1
    have hs : ((stp (p :: t) : Int) : Rat) = (p.1 : Rat) + ((stp t : Int) : Rat) := by
      show ((p.1 + stp t : Int) : Rat) = _
      exact Rat.intCast_add ..
    show clip p.1 l * p.2 + dTo t (l - p.1) < clip p.1 m * p.2 + dTo t (m - p.1)
    by_cases hls : l < p.1
    · have e : clip p.1 l < clip p.1 m := by
        unfold clip
        split <;> split <;> (try split) <;> (try split) <;> grind
      have h3 := Rat.mul_lt_mul_of_pos_right e hq
      have h4 := dTo_mono ht (l := l - p.1) (m := m - p.1) (by grind)
      grind
    · have h3 := Rat.mul_le_mul_of_nonneg_right (clip_mono (Rat.le_of_lt hlm) (Rat.le_of_lt hp)) (Rat.le_of_lt hq)
      have h4 := ih ht (l := l - p.1) (m := m - p.1) (by grind) (by grind) (by grind)
      grind
theorem dTo_all {ls : Lens} (h : ∀ p ∈ ls, LenOk p) : ∀ {l : Rat}, (stp ls : Int) ≤ l → dTo ls l = drg ls := by
  induction ls with
  | nil => intros; rfl
  | cons p t ih =>
    intro l hl
    have h1 := h p List.mem_cons_self
    have ht : ∀ q ∈ t, LenOk q := fun q hq => h q (List.mem_cons_of_mem _ hq)
    have hp : (0 : Rat) < (p.1 : Rat) := by exact_mod_cast (show (0 : Int) < p.1 by have := h1.1; omega)
    have hs : ((stp (p :: t) : Int) : Rat) = (p.1 : Rat) + ((stp t : Int) : Rat) := by
      show ((p.1 + stp t : Int) : Rat) = _
      exact Rat.intCast_add ..
    have h0 : (0 : Rat) ≤ ((stp t : Int) : Rat) := by exact_mod_cast (stp_nn ht).1
    show clip p.1 l * p.2 + dTo t (l - p.1) = (p.1 : Rat) * p.2 + drg t
    rw [ih ht (by grind)]
    have e : clip p.1 l = p.1 := by
      unfold clip
      split
      · rfl
      · split <;> grind
    rw [e]
theorem dTo_zero {ls : Lens} (h : ∀ p ∈ ls, LenOk p) : dTo ls 0 = 0 := dTo_np h Rat.le_refl
/-- how far the walk goes -/
theorem dAt_stop {ls : Lens} (h : ∀ p ∈ ls, LenOk p) : ∀ {l : Rat}, ls ≠ [] → l ≤ (stp ls : Int) → ∃ n p, ls[n]? = some p ∧ (∀ i q, i < n → ls[i]? = some q → (q.1 : Rat) < l - (stp (ls.take i) : Int)) ∧ ¬ (p.1 : Rat) < l - (stp (ls.take n) : Int) ∧ dAt ls l = drg (ls.take n) + (l - (stp (ls.take n) : Int)) * p.2 := by
  induction ls with
  | nil => intro l h0; exact absurd rfl h0
  | cons p t ih =>
    intro l _ hl
    have h1 := h p List.mem_cons_self
    have ht : ∀ q ∈ t, LenOk q := fun q hq => h q (List.mem_cons_of_mem _ hq)
    have hs : ((stp (p :: t) : Int) : Rat) = (p.1 : Rat) + ((stp t : Int) : Rat) := by
      show ((p.1 + stp t : Int) : Rat) = _
      exact Rat.intCast_add ..
    have h00 : ((0 : Int) : Rat) = 0 := rfl
    by_cases hp : (p.1 : Rat) < l
    · have ht0 : t ≠ [] := by
        rintro rfl
        have : ((stp [] : Int) : Rat) = 0 := rfl
        grind
      obtain ⟨n, q, e1, e2, e3, e4⟩ := ih ht (l := l - p.1) ht0 (by grind)
      have e5 : ∀ i, ((stp ((p :: t).take (i + 1)) : Int) : Rat) = (p.1 : Rat) + ((stp (t.take i) : Int) : Rat) := fun i => by
        show ((p.1 + stp (t.take i) : Int) : Rat) = _
        exact Rat.intCast_add ..
      refine ⟨n + 1, q, by simpa using e1, fun i r hi hr => ?_, ?_, ?_⟩
      · cases i with
        | zero =>
          have : p = r := by simpa using hr
          subst this
          show (p.1 : Rat) < l - ((0 : Int) : Rat)
          grind
        | succ i =>
          have := e2 i r (by omega) (by simpa using hr)
          rw [e5]
          grind
      · rw [e5]
        grind
      · show (if (p.1 : Rat) < l then (p.1 : Rat) * p.2 + dAt t (l - p.1) else l * p.2) = ((p.1 : Rat) * p.2 + drg (t.take n)) + _
        rw [if_pos hp, e4, e5]
        grind
    · refine ⟨0, p, rfl, fun i q hi => by omega, ?_, ?_⟩
      · show ¬ (p.1 : Rat) < l - ((0 : Int) : Rat)
        grind
      · show (if (p.1 : Rat) < l then (p.1 : Rat) * p.2 + dAt t (l - p.1) else l * p.2) = 0 + (l - ((0 : Int) : Rat)) * p.2
        rw [if_neg hp]
        grind
/-- dTo length by length -/
def dTk (ls : Lens) (l : Rat) (i : Nat) : Rat := dTo (ls.take i) l
theorem dTo_app : ∀ (a b : Lens) (l : Rat), dTo (a ++ b) l = dTo a l + dTo b (l - (stp a : Int))
  | [], b, l => by
    have : ((stp [] : Int) : Rat) = 0 := rfl
    show dTo b l = 0 + dTo b (l - _)
    rw [this]
    have e : l - 0 = l := by grind
    rw [e]
    grind
  | p :: t, b, l => by
    have hs : ((stp (p :: t) : Int) : Rat) = (p.1 : Rat) + ((stp t : Int) : Rat) := by
      show ((p.1 + stp t : Int) : Rat) = _
      exact Rat.intCast_add ..
    show clip p.1 l * p.2 + dTo (t ++ b) (l - p.1) = clip p.1 l * p.2 + dTo t (l - p.1) + dTo b (l - _)
    rw [dTo_app t b, hs]
    have e : l - (p.1 : Rat) - ((stp t : Int) : Rat) = l - ((p.1 : Rat) + ((stp t : Int) : Rat)) := by grind
    rw [e]
    grind
theorem dTo_succ {ls : Lens} {i : Nat} {p : Int × Rat} {l : Rat} (h : ls[i]? = some p) : dTo (ls.take (i + 1)) l = dTo (ls.take i) l + clip p.1 (l - (stp (ls.take i) : Int)) * p.2 := by
  rw [take_succ h, dTo_app]
  show dTo (ls.take i) l + (clip p.1 (l - (stp (ls.take i) : Int)) * p.2 + 0) = _
  grind
end Ee

/-! places in sixths of steps: how great the numbers of their drags are; the star of two leaks -/
namespace Ee
theorem mul_den (r : Rat) : r * (r.den : Rat) = (r.num : Rat) := by
  have h : (r.num : Rat) / ((r.den : Int) : Rat) = r := by rw [← Rat.divInt_eq_div, Rat.num_divInt_den]
  have h0 : ((r.den : Int) : Rat) ≠ 0 := by
    intro e
    have := r.den_pos
    have : (r.den : Int) = 0 := by exact_mod_cast e
    omega
  have e : ((r.den : Int) : Rat) = (r.den : Rat) := rfl
  rw [e] at h h0
  grind
theorem ile {a b : Int} (h : a ≤ b) : (a : Rat) ≤ (b : Rat) := Rat.intCast_le_intCast.mpr h
theorem ile' {a b : Int} (h : (a : Rat) ≤ (b : Rat)) : a ≤ b := Rat.intCast_le_intCast.mp h
/-- a number of k-ths -/
def Ith (k : Int) (r : Rat) : Prop := ∃ n : Int, (k : Rat) * r = (n : Rat)
theorem Ith.len {p : Int × Rat} (h : LenOk p) : Ith 6 p.2 := by
  have hd := h.2.2.2.2
  have hp := p.2.den_pos
  have e : p.2 * (p.2.den : Rat) = (p.2.num : Rat) := mul_den _
  have : p.2.den = 1 ∨ p.2.den = 2 ∨ p.2.den = 3 := by omega
  rcases this with h | h | h
  · refine ⟨6 * p.2.num, ?_⟩
    rw [h] at e
    rw [Rat.intCast_mul]
    have e1 : ((1 : Nat) : Rat) = 1 := rfl
    have e2 : ((6 : Int) : Rat) = 6 := rfl
    rw [e1] at e
    grind
  · refine ⟨3 * p.2.num, ?_⟩
    rw [h] at e
    rw [Rat.intCast_mul]
    have e1 : ((2 : Nat) : Rat) = 2 := rfl
    have e2 : ((6 : Int) : Rat) = 6 := rfl
    have e3 : ((3 : Int) : Rat) = 3 := rfl
    rw [e1] at e
    grind
  · refine ⟨2 * p.2.num, ?_⟩
    rw [h] at e
    rw [Rat.intCast_mul]
    have e1 : ((3 : Nat) : Rat) = 3 := rfl
    have e2 : ((6 : Int) : Rat) = 6 := rfl
    have e3 : ((2 : Int) : Rat) = 2 := rfl
    rw [e1] at e
    grind
theorem cst (a b : Int) : ((a + b : Int) : Rat) = (a : Rat) + (b : Rat) := Rat.intCast_add ..
theorem cstS (a b : Int) : ((a - b : Int) : Rat) = (a : Rat) - (b : Rat) := Rat.intCast_sub ..
theorem cstM (a b : Int) : ((a * b : Int) : Rat) = (a : Rat) * (b : Rat) := Rat.intCast_mul ..
theorem Ith.clip {s : Int} {l : Rat} (h : Ith 6 l) : Ith 6 (clip s l) := by
  unfold Ee.clip
  have e2 : ((6 : Int) : Rat) = 6 := rfl
  split
  · exact ⟨6 * s, by rw [cstM]⟩
  · split
    · exact h
    · exact ⟨0, by have : ((0 : Int) : Rat) = 0 := rfl; grind⟩
theorem Ith.sub {l : Rat} {s : Int} (h : Ith 6 l) : Ith 6 (l - s) := by
  obtain ⟨n, e⟩ := h
  refine ⟨n - 6 * s, ?_⟩
  rw [cstS, cstM]
  grind
theorem Ith.dTo {ls : Lens} (h : ∀ p ∈ ls, LenOk p) : ∀ {l : Rat}, Ith 6 l → Ith 36 (dTo ls l) := by
  induction ls with
  | nil => intro l _; exact ⟨0, by have : ((0 : Int) : Rat) = 0 := rfl; show _ * (0 : Rat) = _; grind⟩
  | cons p t ih =>
    intro l hl
    obtain ⟨n1, e1⟩ := hl.clip (s := p.1)
    obtain ⟨n2, e2⟩ := Ith.len (h p List.mem_cons_self)
    obtain ⟨n3, e3⟩ := ih (fun q hq => h q (List.mem_cons_of_mem _ hq)) (hl.sub (s := p.1))
    refine ⟨n1 * n2 + n3, ?_⟩
    show _ * (Ee.clip p.1 l * p.2 + Ee.dTo t (l - p.1)) = _
    rw [cst, cstM, ← e1, ← e2, ← e3]
    have e4 : ((6 : Int) : Rat) = 6 := rfl
    have e5 : ((36 : Int) : Rat) = 36 := rfl
    rw [e4, e5]
    grind
theorem drg_le {ls : Lens} (h : ∀ p ∈ ls, LenOk p) : drg ls ≤ ((8991 * ls.length : Int) : Rat) := by
  induction ls with
  | nil => exact Rat.le_refl
  | cons p t ih =>
    have h1 := h p List.mem_cons_self
    have h2 := ih fun q hq => h q (List.mem_cons_of_mem _ hq)
    have e : (p.1 : Rat) * p.2 ≤ 8991 := by
      have a1 : (p.1 : Rat) ≤ ((999 : Int) : Rat) := by exact_mod_cast h1.2.1
      have a2 : p.2 ≤ ((9 : Int) : Rat) := by
        have hn : (p.2.num : Rat) ≤ ((9 : Int) : Rat) := by exact_mod_cast h1.2.2.2.1
        have e : p.2 * (p.2.den : Rat) = (p.2.num : Rat) := mul_den _
        have hd : (1 : Rat) ≤ (p.2.den : Rat) := by exact_mod_cast p.2.den_pos
        have h0 := Rat.le_of_lt h1.2.2.1
        have := Rat.mul_le_mul_of_nonneg_left hd h0
        grind
      have a0 : (0 : Rat) ≤ (p.1 : Rat) := by exact_mod_cast (show (0 : Int) ≤ p.1 by have := h1.1; omega)
      have b1 : ((999 : Int) : Rat) = 999 := rfl
      have b2 : ((9 : Int) : Rat) = 9 := rfl
      rw [b1] at a1
      rw [b2] at a2
      have c1 := Rat.mul_le_mul_of_nonneg_left a2 a0
      have c2 := Rat.mul_le_mul_of_nonneg_right a1 (show (0 : Rat) ≤ 9 by decide +kernel)
      grind
    have e2 : ((8991 * ((p :: t).length : Int) : Int) : Rat) = 8991 + ((8991 * (t.length : Int) : Int) : Rat) := by
      rw [List.length_cons]
      have : (8991 * ((t.length + 1 : Nat) : Int) : Int) = 8991 + 8991 * (t.length : Int) := by omega
      rw [this, cst]
      rfl
    rw [e2]
    show (p.1 : Rat) * p.2 + drg t ≤ _
    grind
theorem bd_ith {r : Rat} (h : Ith 36 r) (h0 : 0 ≤ r) (h1 : r ≤ 107892) : Bd r 22 := by
  obtain ⟨n, e⟩ := h
  have e5 : ((36 : Int) : Rat) = 36 := rfl
  rw [e5] at e
  have hn0 : (0 : Int) ≤ n := by
    have : (0 : Rat) ≤ (n : Rat) := by rw [← e]; grind
    exact_mod_cast this
  have hn1 : n ≤ 3884112 := by
    have : (n : Rat) ≤ ((3884112 : Int) : Rat) := by
      rw [← e]
      have : ((3884112 : Int) : Rat) = 3884112 := rfl
      rw [this]
      grind
    exact ile' this
  have e2 : r = Rat.divInt n 36 := by
    rw [Rat.divInt_eq_div, e5, ← e]
    grind
  rw [e2]
  exact bd_divInt (by decide) (by omega) (by decide)
theorem CabOk.bd_at {ls : Lens} {back : Rat} (C : CabOk ls back) {l : Rat} (h : Ith 6 l) : Bd (dTo ls l) 22 := by
  refine bd_ith (Ith.dTo C.each h) (dTo_nn C.each l) ?_
  have h1 : dTo ls l ≤ drg ls := by
    by_cases hl : ((stp ls : Int) : Rat) ≤ l
    · rw [dTo_all C.each hl]
      exact Rat.le_refl
    · rw [← dTo_all C.each (l := ((stp ls : Int) : Rat)) Rat.le_refl]
      exact dTo_mono C.each (by grind)
  have h2 := drg_le C.each
  have h3 : ((8991 * (ls.length : Int) : Int) : Rat) ≤ ((107892 : Int) : Rat) := by
    have := C.most
    exact ile (show (8991 * (ls.length : Int) : Int) ≤ 107892 by omega)
  have h4 : ((107892 : Int) : Rat) = 107892 := rfl
  rw [h4] at h3
  grind
theorem CabOk.le_all {ls : Lens} {back : Rat} (C : CabOk ls back) (l : Rat) : dTo ls l ≤ drg ls := by
  by_cases hl : ((stp ls : Int) : Rat) ≤ l
  · rw [dTo_all C.each hl]
    exact Rat.le_refl
  · rw [← dTo_all C.each (l := ((stp ls : Int) : Rat)) Rat.le_refl]
    exact dTo_mono C.each (by grind)
/-! the star of two leaks: x, y their drags from the west end, p, q their own -/
def starD (x y p q : Rat) : Rat := p + q + (y - x)
def starW (x y p q : Rat) : Rat := x + p * (y - x) / starD x y p q
def starA (R x y p q : Rat) : Rat := R - y + q * (y - x) / starD x y p q
def starF (x y p q : Rat) : Rat := p * q / starD x y p q
def starL (x y p q : Rat) : Rat := (y - x) * (y - x) / starD x y p q
structure Two (ls : Lens) (back x y p q : Rat) : Prop where
  cab : CabOk ls back
  bx : Bd x 22
  by_ : Bd y 22
  bp : Bd p 10
  bq : Bd q 10
  x0 : 0 ≤ x
  xy : x < y
  yR : y ≤ drg ls
  p0 : 0 < p
  q0 : 0 < q
/-- what the law asks of a star -/
structure Star (ls : Lens) (back W A F L : Rat) : Prop where
  cab : CabOk ls back
  lack : L = drg ls - (W + A)
  bW : Bd W 400
  bA : Bd A 400
  bF : Bd F 400
  bL : Bd L 400
  W0 : 0 < W
  A0 : 0 < A
  F0 : 0 < F
  L0 : 0 < L
  fits : F * L ≤ W * A
theorem div_pos {a b : Rat} (ha : 0 < a) (hb : 0 < b) : 0 < a / b := by
  have := (Rat.lt_div_iff (a := 0) (b := a) hb).mpr (by grind)
  exact this
theorem Two.D0 {ls : Lens} {back x y p q : Rat} (t : Two ls back x y p q) : 0 < starD x y p q := by
  have := t.p0
  have := t.q0
  have := t.xy
  unfold starD
  grind
theorem Two.star {ls : Lens} {back x y p q : Rat} (t : Two ls back x y p q) : Star ls back (starW x y p q) (starA (drg ls) x y p q) (starF x y p q) (starL x y p q) := by
  have hD := t.D0
  have hd : 0 < y - x := by have := t.xy; grind
  have p0 := t.p0
  have q0 := t.q0
  have x0 := t.x0
  have yR := t.yR
  have bd : Bd (y - x) 45 := t.by_.sub t.bx
  have bD : Bd (starD x y p q) 67 := ((t.bp.add t.bq).add bd).le (by decide)
  have a1 : 0 < p * (y - x) / starD x y p q := div_pos (Rat.mul_pos p0 hd) hD
  have a2 : 0 < q * (y - x) / starD x y p q := div_pos (Rat.mul_pos q0 hd) hD
  have hne : starD x y p q ≠ 0 := by grind
  refine ⟨t.cab, ?_, ?_, ?_, ?_, ?_, ?_, ?_, ?_, ?_, ?_⟩
  · unfold starL starW starA
    have e : starD x y p q = p + q + (y - x) := rfl
    grind
  · exact (t.bx.add ((t.bp.mul bd).div bD)).le (by decide)
  · exact ((t.cab.bd_all.sub t.by_).add ((t.bq.mul bd).div bD)).le (by decide)
  · exact ((t.bp.mul t.bq).div bD).le (by decide)
  · exact ((bd.mul bd).div bD).le (by decide)
  · unfold starW
    grind
  · unfold starA
    grind
  · exact div_pos (Rat.mul_pos p0 q0) hD
  · exact div_pos (Rat.mul_pos hd hd) hD
  · have e : starF x y p q * starL x y p q = (p * (y - x) / starD x y p q) * (q * (y - x) / starD x y p q) := by
      unfold starF starL
      grind
    rw [e]
    unfold starW starA
    have b1 := Rat.mul_le_mul_of_nonneg_left (a := q * (y - x) / starD x y p q) (b := drg ls - y + q * (y - x) / starD x y p q) (c := p * (y - x) / starD x y p q) (by grind) (Rat.le_of_lt a1)
    have b2 := Rat.mul_le_mul_of_nonneg_right (a := p * (y - x) / starD x y p q) (b := x + p * (y - x) / starD x y p q) (c := drg ls - y + q * (y - x) / starD x y p q) (by grind) (by grind)
    exact Rat.le_trans b1 b2
end Ee

/-! the linked text's defs by their places -/
namespace Ee
open PySem PySem.Spec PyProof.Rows L2
def topS (i : Nat) : Stmt := PySem.Challenge.pw_earthends_k63_whole_no_plan_shallower.main.body.getD i (.Pass ⟨0, 0, 0, 0⟩)
abbrev s_is_whole : Stmt := topS 7
abbrev p_is_whole : List Str := ["x"]
abbrev n_is_whole : List Str := ["x"]
theorem sc_is_whole : FnScope n_is_whole p_is_whole (defScope s_is_whole) := ⟨rfl, rfl, rfl, by decide +kernel, rfl, by decide +kernel, by decide +kernel⟩
abbrev s_share_of : Stmt := topS 8
abbrev p_share_of : List Str := ["one", "other"]
abbrev n_share_of : List Str := ["one", "other"]
theorem sc_share_of : FnScope n_share_of p_share_of (defScope s_share_of) := ⟨rfl, rfl, rfl, by decide +kernel, rfl, by decide +kernel, by decide +kernel⟩
abbrev s_low : Stmt := topS 9
abbrev p_low : List Str := ["top", "bottom"]
abbrev n_low : List Str := ["top", "bottom", "share"]
theorem sc_low : FnScope n_low p_low (defScope s_low) := ⟨rfl, rfl, rfl, by decide +kernel, rfl, by decide +kernel, by decide +kernel⟩
abbrev s_is_fraction : Stmt := topS 10
abbrev p_is_fraction : List Str := ["x"]
abbrev n_is_fraction : List Str := ["x"]
theorem sc_is_fraction : FnScope n_is_fraction p_is_fraction (defScope s_is_fraction) := ⟨rfl, rfl, rfl, by decide +kernel, rfl, by decide +kernel, by decide +kernel⟩
abbrev s_is_from_zero : Stmt := topS 11
abbrev p_is_from_zero : List Str := ["x"]
abbrev n_is_from_zero : List Str := ["x"]
theorem sc_is_from_zero : FnScope n_is_from_zero p_is_from_zero (defScope s_is_from_zero) := ⟨rfl, rfl, rfl, by decide +kernel, rfl, by decide +kernel, by decide +kernel⟩
abbrev s_is_above_zero : Stmt := topS 12
abbrev p_is_above_zero : List Str := ["x"]
abbrev n_is_above_zero : List Str := ["x"]
theorem sc_is_above_zero : FnScope n_is_above_zero p_is_above_zero (defScope s_is_above_zero) := ⟨rfl, rfl, rfl, by decide +kernel, rfl, by decide +kernel, by decide +kernel⟩
abbrev s_add : Stmt := topS 13
abbrev p_add : List Str := ["a", "b"]
abbrev n_add : List Str := ["a", "b"]
theorem sc_add : FnScope n_add p_add (defScope s_add) := ⟨rfl, rfl, rfl, by decide +kernel, rfl, by decide +kernel, by decide +kernel⟩
abbrev s_less : Stmt := topS 14
abbrev p_less : List Str := ["a", "b"]
abbrev n_less : List Str := ["a", "b"]
theorem sc_less : FnScope n_less p_less (defScope s_less) := ⟨rfl, rfl, rfl, by decide +kernel, rfl, by decide +kernel, by decide +kernel⟩
abbrev s_mul : Stmt := topS 15
abbrev p_mul : List Str := ["a", "b"]
abbrev n_mul : List Str := ["a", "b"]
theorem sc_mul : FnScope n_mul p_mul (defScope s_mul) := ⟨rfl, rfl, rfl, by decide +kernel, rfl, by decide +kernel, by decide +kernel⟩
abbrev s_div : Stmt := topS 16
abbrev p_div : List Str := ["a", "b"]
abbrev n_div : List Str := ["a", "b"]
theorem sc_div : FnScope n_div p_div (defScope s_div) := ⟨rfl, rfl, rfl, by decide +kernel, rfl, by decide +kernel, by decide +kernel⟩
abbrev s_half : Stmt := topS 17
abbrev p_half : List Str := ["a"]
abbrev n_half : List Str := ["a"]
theorem sc_half : FnScope n_half p_half (defScope s_half) := ⟨rfl, rfl, rfl, by decide +kernel, rfl, by decide +kernel, by decide +kernel⟩
abbrev s_is_less : Stmt := topS 18
abbrev p_is_less : List Str := ["a", "b"]
abbrev n_is_less : List Str := ["a", "b"]
theorem sc_is_less : FnScope n_is_less p_is_less (defScope s_is_less) := ⟨rfl, rfl, rfl, by decide +kernel, rfl, by decide +kernel, by decide +kernel⟩
abbrev s_is_small : Stmt := topS 22
abbrev p_is_small : List Str := ["x"]
abbrev n_is_small : List Str := ["x"]
theorem sc_is_small : FnScope n_is_small p_is_small (defScope s_is_small) := ⟨rfl, rfl, rfl, by decide +kernel, rfl, by decide +kernel, by decide +kernel⟩
abbrev s_is_length : Stmt := topS 23
abbrev p_is_length : List Str := ["x"]
abbrev n_is_length : List Str := ["x"]
theorem sc_is_length : FnScope n_is_length p_is_length (defScope s_is_length) := ⟨rfl, rfl, rfl, by decide +kernel, rfl, by decide +kernel, by decide +kernel⟩
abbrev s_is_cable : Stmt := topS 24
abbrev p_is_cable : List Str := ["x"]
abbrev n_is_cable : List Str := ["x", "one"]
theorem sc_is_cable : FnScope n_is_cable p_is_cable (defScope s_is_cable) := ⟨rfl, rfl, rfl, by decide +kernel, rfl, by decide +kernel, by decide +kernel⟩
abbrev s_check_cable : Stmt := topS 25
abbrev p_check_cable : List Str := ["cable"]
abbrev n_check_cable : List Str := ["cable"]
theorem sc_check_cable : FnScope n_check_cable p_check_cable (defScope s_check_cable) := ⟨rfl, rfl, rfl, by decide +kernel, rfl, by decide +kernel, by decide +kernel⟩
abbrev s_all_drag : Stmt := topS 26
abbrev p_all_drag : List Str := ["cable"]
abbrev n_all_drag : List Str := ["cable", "found", "steps", "drag"]
theorem sc_all_drag : FnScope n_all_drag p_all_drag (defScope s_all_drag) := ⟨rfl, rfl, rfl, by decide +kernel, rfl, by decide +kernel, by decide +kernel⟩
abbrev s_splice_steps : Stmt := topS 27
abbrev p_splice_steps : List Str := ["cable"]
abbrev n_splice_steps : List Str := ["cable", "found", "here", "steps", "drag"]
theorem sc_splice_steps : FnScope n_splice_steps p_splice_steps (defScope s_splice_steps) := ⟨rfl, rfl, rfl, by decide +kernel, rfl, by decide +kernel, by decide +kernel⟩
abbrev s_drag_at : Stmt := topS 28
abbrev p_drag_at : List Str := ["cable", "place"]
abbrev n_drag_at : List Str := ["cable", "place", "found", "left", "steps", "drag"]
theorem sc_drag_at : FnScope n_drag_at p_drag_at (defScope s_drag_at) := ⟨rfl, rfl, rfl, by decide +kernel, rfl, by decide +kernel, by decide +kernel⟩
abbrev s_place_with : Stmt := topS 29
abbrev p_place_with : List Str := ["cable", "drag"]
abbrev n_place_with : List Str := ["cable", "drag", "here", "left", "steps", "each", "whole"]
theorem sc_place_with : FnScope n_place_with p_place_with (defScope s_place_with) := ⟨rfl, rfl, rfl, by decide +kernel, rfl, by decide +kernel, by decide +kernel⟩
abbrev s_is_day : Stmt := topS 31
abbrev p_is_day : List Str := ["x"]
abbrev n_is_day : List Str := ["x"]
theorem sc_is_day : FnScope n_is_day p_is_day (defScope s_is_day) := ⟨rfl, rfl, rfl, by decide +kernel, rfl, by decide +kernel, by decide +kernel⟩
abbrev s_check_day : Stmt := topS 32
abbrev p_check_day : List Str := ["day"]
abbrev n_check_day : List Str := ["day"]
theorem sc_check_day : FnScope n_check_day p_check_day (defScope s_check_day) := ⟨rfl, rfl, rfl, by decide +kernel, rfl, by decide +kernel, by decide +kernel⟩
abbrev s_four_of : Stmt := topS 33
abbrev p_four_of : List Str := ["cable", "day"]
abbrev n_four_of : List Str := ["cable", "day", "west_free", "east_free", "loop", "earth", "lack"]
theorem sc_four_of : FnScope n_four_of p_four_of (defScope s_four_of) := ⟨rfl, rfl, rfl, by decide +kernel, rfl, by decide +kernel, by decide +kernel⟩
abbrev s_fault_in : Stmt := topS 34
abbrev p_fault_in : List Str := ["four"]
abbrev n_fault_in : List Str := ["four", "west", "east", "earth", "lack"]
theorem sc_fault_in : FnScope n_fault_in p_fault_in (defScope s_fault_in) := ⟨rfl, rfl, rfl, by decide +kernel, rfl, by decide +kernel, by decide +kernel⟩
abbrev s_kind_by : Stmt := topS 35
abbrev p_kind_by : List Str := ["cable", "day"]
abbrev n_kind_by : List Str := ["cable", "day", "four", "word"]
theorem sc_kind_by : FnScope n_kind_by p_kind_by (defScope s_kind_by) := ⟨rfl, rfl, rfl, by decide +kernel, rfl, by decide +kernel, by decide +kernel⟩
abbrev s_check_two : Stmt := topS 36
abbrev p_check_two : List Str := ["cable", "day"]
abbrev n_check_two : List Str := ["cable", "day", "kind"]
theorem sc_check_two : FnScope n_check_two p_check_two (defScope s_check_two) := ⟨rfl, rfl, rfl, by decide +kernel, rfl, by decide +kernel, by decide +kernel⟩
abbrev s_east_drag : Stmt := topS 38
abbrev p_east_drag : List Str := ["whole", "four", "west"]
abbrev n_east_drag : List Str := ["whole", "four", "west"]
theorem sc_east_drag : FnScope n_east_drag p_east_drag (defScope s_east_drag) := ⟨rfl, rfl, rfl, by decide +kernel, rfl, by decide +kernel, by decide +kernel⟩
abbrev s_west_drag : Stmt := topS 39
abbrev p_west_drag : List Str := ["whole", "four", "east"]
abbrev n_west_drag : List Str := ["whole", "four", "east", "arm"]
theorem sc_west_drag : FnScope n_west_drag p_west_drag (defScope s_west_drag) := ⟨rfl, rfl, rfl, by decide +kernel, rfl, by decide +kernel, by decide +kernel⟩
abbrev s_marks_of : Stmt := topS 41
abbrev p_marks_of : List Str := ["drags", "whole", "four"]
abbrev n_marks_of : List Str := ["drags", "whole", "four", "most", "found", "at"]
theorem sc_marks_of : FnScope n_marks_of p_marks_of (defScope s_marks_of) := ⟨rfl, rfl, rfl, by decide +kernel, rfl, by decide +kernel, by decide +kernel⟩
abbrev s_ways_by : Stmt := topS 42
abbrev p_ways_by : List Str := ["cable", "four"]
abbrev n_ways_by : List Str := ["cable", "four", "whole", "drags", "found", "west", "east", "ahead", "steps", "at"]
theorem sc_ways_by : FnScope n_ways_by p_ways_by (defScope s_ways_by) := ⟨rfl, rfl, rfl, by decide +kernel, rfl, by decide +kernel, by decide +kernel⟩
abbrev s_answer_of : Stmt := topS 43
abbrev p_answer_of : List Str := ["way", "splice"]
abbrev n_answer_of : List Str := ["way", "splice"]
theorem sc_answer_of : FnScope n_answer_of p_answer_of (defScope s_answer_of) := ⟨rfl, rfl, rfl, by decide +kernel, rfl, by decide +kernel, by decide +kernel⟩
abbrev s_stretches_left : Stmt := topS 44
abbrev p_stretches_left : List Str := ["ways", "first", "last", "splice"]
abbrev n_stretches_left : List Str := ["ways", "first", "last", "splice", "found", "k", "answer"]
theorem sc_stretches_left : FnScope n_stretches_left p_stretches_left (defScope s_stretches_left) := ⟨rfl, rfl, rfl, by decide +kernel, rfl, by decide +kernel, by decide +kernel⟩
abbrev s_needed_by : Stmt := topS 45
abbrev p_needed_by : List Str := ["known", "left"]
abbrev n_needed_by : List Str := ["known", "left", "stretch"]
theorem sc_needed_by : FnScope n_needed_by p_needed_by (defScope s_needed_by) := ⟨rfl, rfl, rfl, by decide +kernel, rfl, by decide +kernel, by decide +kernel⟩
abbrev s_table_by : Stmt := topS 46
abbrev p_table_by : List Str := ["ways", "many"]
abbrev n_table_by : List Str := ["ways", "many", "known", "size", "first", "last", "splice", "left", "needed"]
theorem sc_table_by : FnScope n_table_by p_table_by (defScope s_table_by) := ⟨rfl, rfl, rfl, by decide +kernel, rfl, by decide +kernel, by decide +kernel⟩
abbrev s_all_ways : Stmt := topS 47
abbrev p_all_ways : List Str := ["cable", "day"]
abbrev n_all_ways : List Str := ["cable", "day"]
theorem sc_all_ways : FnScope n_all_ways p_all_ways (defScope s_all_ways) := ⟨rfl, rfl, rfl, by decide +kernel, rfl, by decide +kernel, by decide +kernel⟩
abbrev s_lamp_needed : Stmt := topS 48
abbrev p_lamp_needed : List Str := ["cable", "day"]
abbrev n_lamp_needed : List Str := ["cable", "day", "ways"]
theorem sc_lamp_needed : FnScope n_lamp_needed p_lamp_needed (defScope s_lamp_needed) := ⟨rfl, rfl, rfl, by decide +kernel, rfl, by decide +kernel, by decide +kernel⟩
abbrev s_L_cell : Stmt := topS 50
abbrev p_L_cell : List Str := ["_law_script", "_law_k"]
abbrev n_L_cell : List Str := ["_law_script", "_law_k", "_law_state", "_law_cell_here"]
theorem sc_L_cell : FnScope n_L_cell p_L_cell (defScope s_L_cell) := ⟨rfl, rfl, rfl, by decide +kernel, rfl, by decide +kernel, by decide +kernel⟩
abbrev s_L_purse : Stmt := topS 51
abbrev p_L_purse : List Str := ["_law_cell_here"]
abbrev n_L_purse : List Str := ["_law_cell_here"]
theorem sc_L_purse : FnScope n_L_purse p_L_purse (defScope s_L_purse) := ⟨rfl, rfl, rfl, by decide +kernel, rfl, by decide +kernel, by decide +kernel⟩
abbrev s_L_pick : Stmt := topS 52
abbrev p_L_pick : List Str := ["_law_purse_here", "_law_many"]
abbrev n_L_pick : List Str := ["_law_purse_here", "_law_many", "_law_state", "_law_taken"]
theorem sc_L_pick : FnScope n_L_pick p_L_pick (defScope s_L_pick) := ⟨rfl, rfl, rfl, by decide +kernel, rfl, by decide +kernel, by decide +kernel⟩
abbrev s_L_low : Stmt := topS 53
abbrev p_L_low : List Str := ["_law_top", "_law_bottom"]
abbrev n_L_low : List Str := ["_law_top", "_law_bottom", "_law_one", "_law_other"]
theorem sc_L_low : FnScope n_L_low p_L_low (defScope s_L_low) := ⟨rfl, rfl, rfl, by decide +kernel, rfl, by decide +kernel, by decide +kernel⟩
abbrev s_L_plus : Stmt := topS 54
abbrev p_L_plus : List Str := ["_law_a", "_law_b"]
abbrev n_L_plus : List Str := ["_law_a", "_law_b"]
theorem sc_L_plus : FnScope n_L_plus p_L_plus (defScope s_L_plus) := ⟨rfl, rfl, rfl, by decide +kernel, rfl, by decide +kernel, by decide +kernel⟩
abbrev s_L_minus : Stmt := topS 55
abbrev p_L_minus : List Str := ["_law_a", "_law_b"]
abbrev n_L_minus : List Str := ["_law_a", "_law_b"]
theorem sc_L_minus : FnScope n_L_minus p_L_minus (defScope s_L_minus) := ⟨rfl, rfl, rfl, by decide +kernel, rfl, by decide +kernel, by decide +kernel⟩
abbrev s_L_times : Stmt := topS 56
abbrev p_L_times : List Str := ["_law_a", "_law_b"]
abbrev n_L_times : List Str := ["_law_a", "_law_b"]
theorem sc_L_times : FnScope n_L_times p_L_times (defScope s_L_times) := ⟨rfl, rfl, rfl, by decide +kernel, rfl, by decide +kernel, by decide +kernel⟩
abbrev s_L_over : Stmt := topS 57
abbrev p_L_over : List Str := ["_law_a", "_law_b"]
abbrev n_L_over : List Str := ["_law_a", "_law_b"]
theorem sc_L_over : FnScope n_L_over p_L_over (defScope s_L_over) := ⟨rfl, rfl, rfl, by decide +kernel, rfl, by decide +kernel, by decide +kernel⟩
abbrev s_L_below : Stmt := topS 58
abbrev p_L_below : List Str := ["_law_a", "_law_b"]
abbrev n_L_below : List Str := ["_law_a", "_law_b"]
theorem sc_L_below : FnScope n_L_below p_L_below (defScope s_L_below) := ⟨rfl, rfl, rfl, by decide +kernel, rfl, by decide +kernel, by decide +kernel⟩
abbrev s_L_all : Stmt := topS 59
abbrev p_L_all : List Str := ["_law_cable_here"]
abbrev n_L_all : List Str := ["_law_cable_here", "_law_found", "_law_steps", "_law_drag"]
theorem sc_L_all : FnScope n_L_all p_L_all (defScope s_L_all) := ⟨rfl, rfl, rfl, by decide +kernel, rfl, by decide +kernel, by decide +kernel⟩
abbrev s_L_drag_to : Stmt := topS 60
abbrev p_L_drag_to : List Str := ["_law_cable_here", "_law_place"]
abbrev n_L_drag_to : List Str := ["_law_cable_here", "_law_place", "_law_found", "_law_start", "_law_steps", "_law_drag", "_law_along"]
theorem sc_L_drag_to : FnScope n_L_drag_to p_L_drag_to (defScope s_L_drag_to) := ⟨rfl, rfl, rfl, by decide +kernel, rfl, by decide +kernel, by decide +kernel⟩
abbrev s_L_points : Stmt := topS 61
abbrev p_L_points : List Str := ["_law_cable_here", "_law_leaks", "_law_west_here"]
abbrev n_L_points : List Str := ["_law_cable_here", "_law_leaks", "_law_west_here", "_law_some", "_law_place", "_law_drag", "_law_at"]
theorem sc_L_points : FnScope n_L_points p_L_points (defScope s_L_points) := ⟨rfl, rfl, rfl, by decide +kernel, rfl, by decide +kernel, by decide +kernel⟩
abbrev s_L_steps_seen : Stmt := topS 62
abbrev p_L_steps_seen : List Str := ["_law_points_here", "_law_far", "_law_end"]
abbrev n_L_steps_seen : List Str := ["_law_points_here", "_law_far", "_law_end", "_law_found", "_law_here", "_law_at", "_law_drag", "_law_rest"]
theorem sc_L_steps_seen : FnScope n_L_steps_seen p_L_steps_seen (defScope s_L_steps_seen) := ⟨rfl, rfl, rfl, by decide +kernel, rfl, by decide +kernel, by decide +kernel⟩
abbrev s_L_seen : Stmt := topS 63
abbrev p_L_seen : List Str := ["_law_cable_here", "_law_leaks", "_law_west_here", "_law_end"]
abbrev n_L_seen : List Str := ["_law_cable_here", "_law_leaks", "_law_west_here", "_law_end", "_law_points_here", "_law_far"]
theorem sc_L_seen : FnScope n_L_seen p_L_seen (defScope s_L_seen) := ⟨rfl, rfl, rfl, by decide +kernel, rfl, by decide +kernel, by decide +kernel⟩
abbrev s_L_day : Stmt := topS 64
abbrev p_L_day : List Str := ["_law_cable_here", "_law_leaks"]
abbrev n_L_day : List Str := ["_law_cable_here", "_law_leaks", "_law_points_here", "_law_far", "_law_some", "_law_feels", "_law_k", "_law_way_here", "_law_west_here", "_law_east_here", "_law_both"]
theorem sc_L_day : FnScope n_L_day p_L_day (defScope s_L_day) := ⟨rfl, rfl, rfl, by decide +kernel, rfl, by decide +kernel, by decide +kernel⟩
abbrev s_L_star : Stmt := topS 65
abbrev p_L_star : List Str := ["_law_cable_here", "_law_day_here"]
abbrev n_L_star : List Str := ["_law_cable_here", "_law_day_here", "_law_west_here", "_law_east_here", "_law_loop", "_law_foot", "_law_lack"]
theorem sc_L_star : FnScope n_L_star p_L_star (defScope s_L_star) := ⟨rfl, rfl, rfl, by decide +kernel, rfl, by decide +kernel, by decide +kernel⟩
abbrev s_L_cable : Stmt := topS 66
abbrev p_L_cable : List Str := ["_law_purse_here", "_law_most"]
abbrev n_L_cable : List Str := ["_law_purse_here", "_law_most", "_law_lengths", "_law_k", "_law_steps"]
theorem sc_L_cable : FnScope n_L_cable p_L_cable (defScope s_L_cable) := ⟨rfl, rfl, rfl, by decide +kernel, rfl, by decide +kernel, by decide +kernel⟩
abbrev s_L_two : Stmt := topS 67
abbrev p_L_two : List Str := ["_law_purse_here", "_law_cable_here"]
abbrev n_L_two : List Str := ["_law_purse_here", "_law_cable_here", "_law_steps", "_law_most", "_law_at", "_law_far", "_law_to", "_law_cut", "_law_end", "_law_drags", "_law_k", "_law_part"]
theorem sc_L_two : FnScope n_L_two p_L_two (defScope s_L_two) := ⟨rfl, rfl, rfl, by decide +kernel, rfl, by decide +kernel, by decide +kernel⟩
abbrev s_L_east : Stmt := topS 68
abbrev p_L_east : List Str := ["_law_cable_here", "_law_star_here", "_law_west_here"]
abbrev n_L_east : List Str := ["_law_cable_here", "_law_star_here", "_law_west_here", "_law_arm"]
theorem sc_L_east : FnScope n_L_east p_L_east (defScope s_L_east) := ⟨rfl, rfl, rfl, by decide +kernel, rfl, by decide +kernel, by decide +kernel⟩
abbrev s_L_west : Stmt := topS 69
abbrev p_L_west : List Str := ["_law_cable_here", "_law_star_here", "_law_east_here"]
abbrev n_L_west : List Str := ["_law_cable_here", "_law_star_here", "_law_east_here", "_law_arm", "_law_found"]
theorem sc_L_west : FnScope n_L_west p_L_west (defScope s_L_west) := ⟨rfl, rfl, rfl, by decide +kernel, rfl, by decide +kernel, by decide +kernel⟩
abbrev s_L_splices : Stmt := topS 70
abbrev p_L_splices : List Str := ["_law_cable_here"]
abbrev n_L_splices : List Str := ["_law_cable_here", "_law_found", "_law_here", "_law_steps", "_law_drag"]
theorem sc_L_splices : FnScope n_L_splices p_L_splices (defScope s_L_splices) := ⟨rfl, rfl, rfl, by decide +kernel, rfl, by decide +kernel, by decide +kernel⟩
abbrev s_L_most_west : Stmt := topS 71
abbrev p_L_most_west : List Str := ["_law_cable_here", "_law_star_here"]
abbrev n_L_most_west : List Str := ["_law_cable_here", "_law_star_here"]
theorem sc_L_most_west : FnScope n_L_most_west p_L_most_west (defScope s_L_most_west) := ⟨rfl, rfl, rfl, by decide +kernel, rfl, by decide +kernel, by decide +kernel⟩
abbrev s_L_ways : Stmt := topS 72
abbrev p_L_ways : List Str := ["_law_cable_here", "_law_star_here"]
abbrev n_L_ways : List Str := ["_law_cable_here", "_law_star_here", "_law_splices_here", "_law_most", "_law_found", "_law_west_here", "_law_at"]
theorem sc_L_ways : FnScope n_L_ways p_L_ways (defScope s_L_ways) := ⟨rfl, rfl, rfl, by decide +kernel, rfl, by decide +kernel, by decide +kernel⟩
abbrev s_L_way : Stmt := topS 73
abbrev p_L_way : List Str := ["_law_cable_here", "_law_star_here", "_law_splices_here", "_law_west_here"]
abbrev n_L_way : List Str := ["_law_cable_here", "_law_star_here", "_law_splices_here", "_law_west_here", "_law_east_here", "_law_ahead", "_law_at"]
theorem sc_L_way : FnScope n_L_way p_L_way (defScope s_L_way) := ⟨rfl, rfl, rfl, by decide +kernel, rfl, by decide +kernel, by decide +kernel⟩
abbrev s_L_answer : Stmt := topS 74
abbrev p_L_answer : List Str := ["_law_way_here", "_law_splice"]
abbrev n_L_answer : List Str := ["_law_way_here", "_law_splice"]
theorem sc_L_answer : FnScope n_L_answer p_L_answer (defScope s_L_answer) := ⟨rfl, rfl, rfl, by decide +kernel, rfl, by decide +kernel, by decide +kernel⟩
abbrev s_L_least : Stmt := topS 75
abbrev p_L_least : List Str := ["_law_ways_here", "_law_most", "_law_known"]
abbrev n_L_least : List Str := ["_law_ways_here", "_law_most", "_law_known", "_law_found", "_law_splice", "_law_parted", "_law_answer_here", "_law_way_here", "_law_some"]
theorem sc_L_least : FnScope n_L_least p_L_least (defScope s_L_least) := ⟨rfl, rfl, rfl, by decide +kernel, rfl, by decide +kernel, by decide +kernel⟩
abbrev s_law : Stmt := topS 76
abbrev p_law : List Str := ["_law_script"]
abbrev n_law : List Str := ["_law_script", "_law_k", "_law_purse_here", "_law_cable_here", "_law_day_here", "_law_ways_here"]
theorem sc_law : FnScope n_law p_law (defScope s_law) := ⟨rfl, rfl, rfl, by decide +kernel, rfl, by decide +kernel, by decide +kernel⟩
end Ee

/-! the defs of fractions -/
namespace Ee
open PySem PySem.Spec PyProof.Rows L2

/-- no built-in's name is the module's own -/
structure Bt (mg : Str → Option Value) : Prop where
  isinstance : mg "isinstance" = none
  int : mg "int" = none
  bool : mg "bool" = none
  tuple : mg "tuple" = none
  abs : mg "abs" = none
  len : mg "len" = none
  all : mg "all" = none
  range : mg "range" = none
  list : mg "list" = none
  sorted : mg "sorted" = none
  max : mg "max" = none
  min : mg "min" = none
  sum : mg "sum" = none
abbrev qD (r : Rat) : D := .tup [.int r.num, .int (r.den : Int)]
theorem wmul {i j : Int} {n m : Nat} (ha : i.natAbs < 2 ^ n) (hb : j.natAbs < 2 ^ m) (h : n + m ≤ 20000) : CMulW i j :=
  wide_mul (a := n + 1) (b := m + 1) (Nat.lt_of_lt_of_le ha (Nat.pow_le_pow_right (by decide) (Nat.le_succ _))) (Nat.lt_of_lt_of_le hb (Nat.pow_le_pow_right (by decide) (Nat.le_succ _))) (Nat.succ_pos _) (Nat.succ_pos _) (by omega)
theorem den_abs (r : Rat) : (r.den : Int).natAbs = r.den := by omega
section
variable {P : Program} {w : World} {K : PySem.W.Frag} {mg : Str → Option Value} {base : Heap}

/-! ### share_of, low -/
def R_share : List D → D → Prop := fun ds d => ∃ a b : Nat, ds = [.int a, .int b] ∧ d = .int (Nat.gcd a b)
theorem ok_share_of (hD : Df K mg "share_of" s_share_of p_share_of) : Ok P w K mg base 1 "share_of" p_share_of (PF K R_share) :=
  ok_pf hD sc_share_of (fun ds d h => by obtain ⟨a, b, rfl, _⟩ := h; rfl) fun ds d h => by
    obtain ⟨a, b, rfl, rfl⟩ := h
    refine g_while (α := Nat × Nat) (fun p => [some (.int p.1), some (.int p.2)]) (fun p => Nat.gcd p.1 p.2 = Nat.gcd a b) (fun p => decide ((0 : Int) < p.2)) (fun p => p.2) (fun p => (p.2, p.1 % p.2)) (a, b) rfl (LeE.refl _) (fun p hp => ?_) (fun p hp hb => ⟨?_, ?_, ?_⟩) (fun p hp hb => ?_)
    · exact b_gt (v_var 1 rfl rfl) v_int
    · have h0 : 0 < p.2 := by simpa using hb
      refine g_par 0 1 (v_cons (v_var 1 rfl rfl) (v_cons (v_mod (v_var 0 rfl rfl) (v_var 1 rfl rfl) (by omega)) v_nil)) ?_ sc_share_of.nd
      exact g_pop (g_end (LeE.refl _))
    · have h0 : 0 < p.2 := by simpa using hb
      rw [← hp, Nat.gcd_comm p.1 p.2, Nat.gcd_rec p.2 p.1, Nat.gcd_comm]
    · have h0 : 0 < p.2 := by simpa using hb
      exact Nat.mod_lt _ h0
    · have h0 : p.2 = 0 := by simp at hb; omega
      refine (g_ret ((v_var 0 rfl rfl).to ?_))
      rw [← hp, h0, Nat.gcd_zero_right]
/-- the fraction of two numbers, the second not 0 -/
def R_low : List D → D → Prop := fun ds d => ∃ t b : Int, ds = [.int t, .int b] ∧ b ≠ 0 ∧ b.natAbs < 2 ^ 9000 ∧ d = qD (Rat.divInt t b)
theorem abs_eq (i : Int) : (if i < 0 then -i else i) = (i.natAbs : Int) := by split <;> omega
theorem gcd_pos {t b : Int} (h : 0 < b) : 0 < Nat.gcd t.natAbs b.natAbs := Nat.gcd_pos_of_pos_right _ (by omega)
theorem gcd_small {i t b : Int} (h : 0 < b) (hz : b.natAbs < 2 ^ 9000) : CDivW i ((Nat.gcd t.natAbs b.natAbs : Nat) : Int) := by
  have h1 := gcd_pos (t := t) h
  refine wide_div (b := 9000) (by omega) ?_ (by decide) (Nat.le_refl _)
  refine Nat.lt_of_le_of_lt ?_ hz
  rw [Int.natAbs_natCast]
  exact Nat.gcd_le_right _ (by omega)
theorem low_eq {t b : Int} (h : 0 < b) : D.tup [.int (t / ((Nat.gcd t.natAbs b.natAbs : Nat) : Int)), .int (b / ((Nat.gcd t.natAbs b.natAbs : Nat) : Int))] = qD (Rat.divInt t b) := by
  show _ = D.tup [.int (Rat.divInt t b).num, .int ((Rat.divInt t b).den : Int)]
  rw [(low_pos h).1, (low_pos h).2]
theorem ok_low (hS : Ok P w K mg base 1 "share_of" p_share_of (PF K R_share)) (B : Bt mg) (hD : Df K mg "low" s_low p_low) : Ok P w K mg base 2 "low" p_low (PF K R_low) := by
  have tail : ∀ t b : Int, 0 < b → b.natAbs < 2 ^ 9000 → Go (sx P w K mg base n_low s_low 1) [(defBody s_low).drop 1] [some (.int t), some (.int b), none] (.ret (qD (Rat.divInt t b))) := fun t b h hz => by
    refine g_set 2 (d := .int ((Nat.gcd t.natAbs b.natAbs : Nat) : Int)) (v_call hS rfl (v_cons (v_abs rfl B.abs (v_cons (v_var 0 rfl rfl) v_nil)) (v_cons (v_var 1 rfl rfl) v_nil)) ⟨t.natAbs, b.natAbs, ?_, rfl⟩) ?_ sc_low.nd
    · rw [abs_eq]
      have : ((b.natAbs : Nat) : Int) = b := by omega
      rw [this]
    · exact g_ret ((v_tup (v_cons (v_fdiv (v_var 0 rfl rfl) (v_var 2 rfl rfl) (gcd_small h hz)) (v_cons (v_fdiv (v_var 1 rfl rfl) (v_var 2 rfl rfl) (gcd_small (t := t) h hz)) v_nil))).to (low_eq h))
  refine ok_pf hD sc_low (fun ds d h => by obtain ⟨a, b, rfl, _⟩ := h; rfl) fun ds d h => ?_
  obtain ⟨t, b, rfl, h0, hz, rfl⟩ := h
  by_cases hb : b < 0
  · refine g_ifT ((b_lt (v_var 1 rfl rfl) v_int).to (decide_eq_true hb)) ?_
    refine g_par 0 1 (v_cons (v_sub v_int (v_var 0 rfl rfl)) (v_cons (v_sub v_int (v_var 1 rfl rfl)) v_nil)) ?_ sc_low.nd
    rw [← low_neg]
    exact g_pop (tail (0 - t) (0 - b) (by omega) (by omega))
  · refine g_ifF ((b_lt (v_var 1 rfl rfl) v_int).to (decide_eq_false hb)) ?_
    exact g_pop (tail t b (by omega) hz)

/-! ### the four operations -/
abbrev OkLow (P : Program) (w : World) (K : PySem.W.Frag) (mg : Str → Option Value) (base : Heap) : Prop := Ok P w K mg base 2 "low" p_low (PF K R_low)
theorem mul_small {a b : Rat} (ha : Bd a 4000) (hb : Bd b 4000) : ((a.den : Int) * (b.den : Int)).natAbs < 2 ^ 9000 :=
  Nat.lt_of_lt_of_le (mulI_lt_pow (n := 4000) (m := 4000) (by simpa using ha.2) (by simpa using hb.2)) (Nat.pow_le_pow_right (by decide) (by decide))
theorem cm_nn {a b : Rat} (ha : Bd a 4000) (hb : Bd b 4000) : CMulW a.num b.num := wmul ha.1 hb.1 (by decide)
theorem cm_nd {a b : Rat} (ha : Bd a 4000) (hb : Bd b 4000) : CMulW a.num (b.den : Int) := wmul ha.1 (m := 4000) (by simpa using hb.2) (by decide)
theorem cm_dn {a b : Rat} (ha : Bd a 4000) (hb : Bd b 4000) : CMulW (a.den : Int) b.num := wmul (n := 4000) (by simpa using ha.2) hb.1 (by decide)
theorem cm_dd {a b : Rat} (ha : Bd a 4000) (hb : Bd b 4000) : CMulW (a.den : Int) (b.den : Int) := wmul (n := 4000) (m := 4000) (by simpa using ha.2) (by simpa using hb.2) (by decide)
def R_op (f : Rat → Rat → Rat) (C : Rat → Rat → Prop) : List D → D → Prop := fun ds d => ∃ a b : Rat, ds = [qD a, qD b] ∧ Bd a 4000 ∧ Bd b 4000 ∧ C a b ∧ d = qD (f a b)
abbrev R_add := R_op (· + ·) (fun _ _ => True)
abbrev R_sub := R_op (· - ·) (fun _ _ => True)
abbrev R_mul := R_op (· * ·) (fun _ _ => True)
abbrev R_div := R_op (· / ·) (fun _ b => b ≠ 0)
theorem num_ne {b : Rat} (h : b ≠ 0) : b.num ≠ 0 := fun e => h (by rw [← Rat.num_divInt_den b, e, Rat.zero_divInt])
theorem ok_add (hL : OkLow P w K mg base) (hD : Df K mg "add" s_add p_add) : Ok P w K mg base 3 "add" p_add (PF K R_add) :=
  ok_pf hD sc_add (fun ds d h => by obtain ⟨a, b, rfl, _⟩ := h; rfl) fun ds d h => by
    obtain ⟨a, b, rfl, ha, hb, _, rfl⟩ := h
    exact g_ret (v_call hL rfl (v_cons (v_add (v_mul (v_ix (v_var 0 rfl rfl) v_int) (v_ix (v_var 1 rfl rfl) v_int) (cm_nd ha hb)) (v_mul (v_ix (v_var 1 rfl rfl) v_int) (v_ix (v_var 0 rfl rfl) v_int) (cm_nd hb ha))) (v_cons (v_mul (v_ix (v_var 0 rfl rfl) v_int) (v_ix (v_var 1 rfl rfl) v_int) (cm_dd ha hb)) v_nil))
      ⟨_, _, rfl, Int.mul_ne_zero den_ne den_ne, mul_small ha hb, by rw [add_eq]⟩)
theorem dn_small {a b : Rat} (ha : Bd a 4000) (hb : Bd b 4000) : ((a.den : Int) * b.num).natAbs < 2 ^ 9000 :=
  Nat.lt_of_lt_of_le (mulI_lt_pow (n := 4000) (m := 4000) (by simpa using ha.2) hb.1) (Nat.pow_le_pow_right (by decide) (by decide))
theorem ok_less (hL : OkLow P w K mg base) (hD : Df K mg "less" s_less p_less) : Ok P w K mg base 3 "less" p_less (PF K R_sub) :=
  ok_pf hD sc_less (fun ds d h => by obtain ⟨a, b, rfl, _⟩ := h; rfl) fun ds d h => by
    obtain ⟨a, b, rfl, ha, hb, hc, rfl⟩ := h
    exact g_ret (v_call hL rfl (v_cons (v_sub (v_mul (v_ix (v_var 0 rfl rfl) v_int) (v_ix (v_var 1 rfl rfl) v_int) (cm_nd ha hb)) (v_mul (v_ix (v_var 1 rfl rfl) v_int) (v_ix (v_var 0 rfl rfl) v_int) (cm_nd hb ha))) (v_cons (v_mul (v_ix (v_var 0 rfl rfl) v_int) (v_ix (v_var 1 rfl rfl) v_int) (cm_dd ha hb)) v_nil)) ⟨_, _, rfl, Int.mul_ne_zero den_ne den_ne, mul_small ha hb, by rw [sub_eq]⟩)
theorem ok_mul (hL : OkLow P w K mg base) (hD : Df K mg "mul" s_mul p_mul) : Ok P w K mg base 3 "mul" p_mul (PF K R_mul) :=
  ok_pf hD sc_mul (fun ds d h => by obtain ⟨a, b, rfl, _⟩ := h; rfl) fun ds d h => by
    obtain ⟨a, b, rfl, ha, hb, hc, rfl⟩ := h
    exact g_ret (v_call hL rfl (v_cons (v_mul (v_ix (v_var 0 rfl rfl) v_int) (v_ix (v_var 1 rfl rfl) v_int) (cm_nn ha hb)) (v_cons (v_mul (v_ix (v_var 0 rfl rfl) v_int) (v_ix (v_var 1 rfl rfl) v_int) (cm_dd ha hb)) v_nil)) ⟨_, _, rfl, Int.mul_ne_zero den_ne den_ne, mul_small ha hb, by rw [mul_eq]⟩)
theorem ok_div (hL : OkLow P w K mg base) (hD : Df K mg "div" s_div p_div) : Ok P w K mg base 3 "div" p_div (PF K R_div) :=
  ok_pf hD sc_div (fun ds d h => by obtain ⟨a, b, rfl, _⟩ := h; rfl) fun ds d h => by
    obtain ⟨a, b, rfl, ha, hb, hc, rfl⟩ := h
    exact g_ret (v_call hL rfl (v_cons (v_mul (v_ix (v_var 0 rfl rfl) v_int) (v_ix (v_var 1 rfl rfl) v_int) (cm_nd ha hb)) (v_cons (v_mul (v_ix (v_var 0 rfl rfl) v_int) (v_ix (v_var 1 rfl rfl) v_int) (cm_dn ha hb)) v_nil)) ⟨_, _, rfl, Int.mul_ne_zero den_ne (num_ne hc), dn_small ha hb, by rw [div_eq]⟩)
def R_half : List D → D → Prop := fun ds d => ∃ a : Rat, ds = [qD a] ∧ Bd a 4000 ∧ d = qD (a / 2)
theorem half_eq (a : Rat) : Rat.divInt a.num (2 * a.den) = a / 2 := by
  have h := div_eq a 2
  have e : ((2 : Rat).den : Int) = 1 := rfl
  have e2 : (2 : Rat).num = 2 := rfl
  rw [e, e2, Int.mul_one, Int.mul_comm] at h
  exact h
theorem ok_half (hL : OkLow P w K mg base) (hD : Df K mg "half" s_half p_half) : Ok P w K mg base 3 "half" p_half (PF K R_half) :=
  ok_pf hD sc_half (fun ds d h => by obtain ⟨a, rfl, _⟩ := h; rfl) fun ds d h => by
    obtain ⟨a, rfl, ha, rfl⟩ := h
    have h2 : ((2 : Int) * (a.den : Int)).natAbs < 2 ^ 9000 := Nat.lt_of_lt_of_le (mulI_lt_pow (n := 2) (m := 4000) (by decide) (by simpa using ha.2)) (Nat.pow_le_pow_right (by decide) (by decide))
    exact g_ret (v_call hL rfl (v_cons (v_ix (v_var 0 rfl rfl) v_int) (v_cons (v_mul v_int (v_ix (v_var 0 rfl rfl) v_int) (wmul (n := 2) (m := 4000) (by decide) (by simpa using ha.2) (by decide))) v_nil)) ⟨_, _, rfl, Int.mul_ne_zero (by decide) den_ne, h2, by rw [half_eq]⟩)
def R_lt : List D → D → Prop := fun ds d => ∃ a b : Rat, ds = [qD a, qD b] ∧ Bd a 4000 ∧ Bd b 4000 ∧ d = .bl (decide (a < b))
theorem ok_is_less (hD : Df K mg "is_less" s_is_less p_is_less) : Ok P w K mg base 1 "is_less" p_is_less (PF K R_lt) :=
  ok_pf hD sc_is_less (fun ds d h => by obtain ⟨a, b, rfl, _⟩ := h; rfl) fun ds d h => by
    obtain ⟨a, b, rfl, ha, hb, rfl⟩ := h
    exact g_ret ((v_lt (v_mul (v_ix (v_var 0 rfl rfl) v_int) (v_ix (v_var 1 rfl rfl) v_int) (cm_nd ha hb)) (v_mul (v_ix (v_var 1 rfl rfl) v_int) (v_ix (v_var 0 rfl rfl) v_int) (cm_nd hb ha))).to (congrArg D.bl lt_cross))
theorem ok_L_below (hD : Df K mg "_law_below" s_L_below p_L_below) : Ok P w K mg base 1 "_law_below" p_L_below (PF K R_lt) :=
  ok_pf hD sc_L_below (fun ds d h => by obtain ⟨a, b, rfl, _⟩ := h; rfl) fun ds d h => by
    obtain ⟨a, b, rfl, ha, hb, rfl⟩ := h
    exact g_ret ((v_lt (v_mul (v_ix (v_var 0 rfl rfl) v_int) (v_ix (v_var 1 rfl rfl) v_int) (cm_nd ha hb)) (v_mul (v_ix (v_var 1 rfl rfl) v_int) (v_ix (v_var 0 rfl rfl) v_int) (cm_nd hb ha))).to (congrArg D.bl lt_cross))

/-! ### what is a fraction -/
def R_whole : List D → D → Prop := fun ds d => ∃ i : Int, ds = [.int i] ∧ d = .bl true
theorem boot_bool : bootBuiltins "bool" = some (.type "bool") := by decide +kernel
theorem ok_is_whole (B : Bt mg) (hD : Df K mg "is_whole" s_is_whole p_is_whole) : Ok P w K mg base 1 "is_whole" p_is_whole (PF K R_whole) :=
  ok_pf hD sc_is_whole (fun ds d h => by obtain ⟨i, rfl, _⟩ := h; rfl) fun ds d h => by
    obtain ⟨i, rfl, rfl⟩ := h
    exact g_ret (v_and (c := true) (c' := true) (v_isi (T := "int") (t := "int") rfl B.isinstance rfl B.int PyProof.Rows.boot_int (v_var 0 rfl rfl) rfl (by decide +kernel)) fun _ => v_one (v_not (c := false) (v_isi (T := "bool") (t := "int") rfl B.isinstance rfl B.bool boot_bool (v_var 0 rfl rfl) rfl (by decide +kernel))))
def R_q (f : Rat → Bool) : List D → D → Prop := fun ds d => ∃ a : Rat, ds = [qD a] ∧ d = .bl (f a)
theorem ok_is_fraction (B : Bt mg) (hW : Ok P w K mg base 1 "is_whole" p_is_whole (PF K R_whole)) (hS : Ok P w K mg base 1 "share_of" p_share_of (PF K R_share)) (hD : Df K mg "is_fraction" s_is_fraction p_is_fraction) : Ok P w K mg base 2 "is_fraction" p_is_fraction (PF K (R_q fun _ => true)) :=
  ok_pf hD sc_is_fraction (fun ds d h => by obtain ⟨i, rfl, _⟩ := h; rfl) fun ds d h => by
    obtain ⟨a, rfl, rfl⟩ := h
    refine g_ifF (b_w (w_or (c := false) (b_not (c := true) (b_val (v_isi (T := "tuple") (t := "tuple") rfl B.isinstance rfl B.tuple PyProof.Rows.boot_tuple (v_var 0 rfl rfl) rfl (by decide +kernel)))) fun _ => w_or (c := false) (PB.to (b_neI (v_len rfl B.len (v_cons (v_var 0 rfl rfl) v_nil)) v_int) rfl) fun _ =>
      w_or (c := false) (b_not (c := true) (b_val (v_call hW rfl (v_cons (v_ix (v_var 0 rfl rfl) v_int) v_nil) ⟨_, rfl, rfl⟩))) fun _ => w_or1 (c := false) (b_not (c := true) (b_val (v_call hW rfl (v_cons (v_ix (v_var 0 rfl rfl) v_int) v_nil) ⟨_, rfl, rfl⟩))))) ?_
    refine g_pop (g_ret ((v_and (v_gt (v_ix (v_var 0 rfl rfl) v_int) v_int) fun _ => v_one (v_eqI (v_call hS rfl (v_cons (v_abs rfl B.abs (v_cons (v_ix (v_var 0 rfl rfl) v_int) v_nil)) (v_cons (v_ix (v_var 0 rfl rfl) v_int) v_nil)) ⟨a.num.natAbs, a.den, by rw [abs_eq], rfl⟩) v_int)).to ?_))
    have h1 : (0 : Int) < (a.den : Int) := by have := a.den_pos; omega
    rw [gcd_red, decide_eq_true h1]
    rfl
theorem ok_is_from_zero (hF : Ok P w K mg base 2 "is_fraction" p_is_fraction (PF K (R_q fun _ => true))) (hD : Df K mg "is_from_zero" s_is_from_zero p_is_from_zero) : Ok P w K mg base 3 "is_from_zero" p_is_from_zero (PF K (R_q fun a => decide (0 ≤ a))) :=
  ok_pf hD sc_is_from_zero (fun ds d h => by obtain ⟨i, rfl, _⟩ := h; rfl) fun ds d h => by
    obtain ⟨a, rfl, rfl⟩ := h
    refine g_ret ((v_and (c := true) (v_call hF rfl (v_cons (v_var 0 rfl rfl) v_nil) ⟨a, rfl, rfl⟩) fun _ => v_one (v_ge (v_ix (v_var 0 rfl rfl) v_int) v_int)).to ?_)
    rw [Bool.true_and]
    exact congrArg D.bl (decide_eq_decide.mpr num_nonneg)
theorem ok_is_above_zero (hF : Ok P w K mg base 2 "is_fraction" p_is_fraction (PF K (R_q fun _ => true))) (hD : Df K mg "is_above_zero" s_is_above_zero p_is_above_zero) : Ok P w K mg base 3 "is_above_zero" p_is_above_zero (PF K (R_q fun a => decide (0 < a))) :=
  ok_pf hD sc_is_above_zero (fun ds d h => by obtain ⟨i, rfl, _⟩ := h; rfl) fun ds d h => by
    obtain ⟨a, rfl, rfl⟩ := h
    refine g_ret ((v_and (c := true) (v_call hF rfl (v_cons (v_var 0 rfl rfl) v_nil) ⟨a, rfl, rfl⟩) fun _ => v_one (v_gt (v_ix (v_var 0 rfl rfl) v_int) v_int)).to ?_)
    rw [Bool.true_and]
    exact congrArg D.bl (decide_eq_decide.mpr num_pos)

/-! ### the law's own -/
theorem ok_L_low (B : Bt mg) (hD : Df K mg "_law_low" s_L_low p_L_low) : Ok P w K mg base 2 "_law_low" p_L_low (PF K R_low) := by
  have tail : ∀ t b : Int, 0 < b → b.natAbs < 2 ^ 9000 → Go (sx P w K mg base n_L_low s_L_low 1) [(defBody s_L_low).drop 1] [some (.int t), some (.int b), none, none] (.ret (qD (Rat.divInt t b))) := fun t b h hz => by
    refine g_par 2 3 (v_cons ((v_abs rfl B.abs (v_cons (v_var 0 rfl rfl) v_nil)).to (congrArg D.int (abs_eq t))) (v_cons (v_var 1 rfl rfl) v_nil)) ?_ sc_L_low.nd
    refine g_while (α := Nat × Nat) (fun p => [some (.int t), some (.int b), some (.int p.1), some (.int p.2)]) (fun p => Nat.gcd p.1 p.2 = Nat.gcd t.natAbs b.natAbs) (fun p => decide ((0 : Int) < p.2)) (fun p => p.2) (fun p => (p.2, p.1 % p.2)) (t.natAbs, b.natAbs) rfl ?_ (fun p hp => ?_) (fun p hp hb => ⟨?_, ?_, ?_⟩) (fun p hp hb => ?_)
    · have : ((b.natAbs : Nat) : Int) = b := by omega
      show LeE [some (.int t), some (.int b), some (.int (t.natAbs : Int)), some (.int (b.natAbs : Int))] _
      rw [this]
      exact LeE.refl _
    · exact b_gt (v_var 3 rfl rfl) v_int
    · have h0 : 0 < p.2 := by simpa using hb
      refine g_par 2 3 (v_cons (v_var 3 rfl rfl) (v_cons (v_mod (v_var 2 rfl rfl) (v_var 3 rfl rfl) (by omega)) v_nil)) ?_ sc_L_low.nd
      exact g_pop (g_end (LeE.refl _))
    · have h0 : 0 < p.2 := by simpa using hb
      rw [← hp, Nat.gcd_comm p.1 p.2, Nat.gcd_rec p.2 p.1, Nat.gcd_comm]
    · have h0 : 0 < p.2 := by simpa using hb
      exact Nat.mod_lt _ h0
    · have h0 : p.2 = 0 := by simp at hb; omega
      have hp' : p.1 = Nat.gcd t.natAbs b.natAbs := by rw [← hp, h0, Nat.gcd_zero_right]
      refine (g_ret ((v_tup (v_cons (v_fdiv (v_var 0 rfl rfl) (v_var 2 rfl rfl) ?_) (v_cons (v_fdiv (v_var 1 rfl rfl) (v_var 2 rfl rfl) ?_) v_nil))).to ?_))
      · rw [hp']
        exact gcd_small h hz
      · rw [hp']
        exact gcd_small h hz
      · rw [hp']
        exact low_eq h
  refine ok_pf hD sc_L_low (fun ds d h => by obtain ⟨a, b, rfl, _⟩ := h; rfl) fun ds d h => ?_
  obtain ⟨t, b, rfl, h0, hz, rfl⟩ := h
  by_cases hb : b < 0
  · refine g_ifT ((b_lt (v_var 1 rfl rfl) v_int).to (decide_eq_true hb)) ?_
    refine g_par 0 1 (v_cons (v_sub v_int (v_var 0 rfl rfl)) (v_cons (v_sub v_int (v_var 1 rfl rfl)) v_nil)) ?_ sc_L_low.nd
    rw [← low_neg]
    exact g_pop (tail (0 - t) (0 - b) (by omega) (by omega))
  · refine g_ifF ((b_lt (v_var 1 rfl rfl) v_int).to (decide_eq_false hb)) ?_
    exact g_pop (tail t b (by omega) hz)
abbrev OkLlow (P : Program) (w : World) (K : PySem.W.Frag) (mg : Str → Option Value) (base : Heap) : Prop := Ok P w K mg base 2 "_law_low" p_L_low (PF K R_low)
theorem ok_L_plus (hL : OkLlow P w K mg base) (hD : Df K mg "_law_plus" s_L_plus p_L_plus) : Ok P w K mg base 3 "_law_plus" p_L_plus (PF K R_add) :=
  ok_pf hD sc_L_plus (fun ds d h => by obtain ⟨a, b, rfl, _⟩ := h; rfl) fun ds d h => by
    obtain ⟨a, b, rfl, ha, hb, hc, rfl⟩ := h
    exact g_ret (v_call hL rfl (v_cons (v_add (v_mul (v_ix (v_var 0 rfl rfl) v_int) (v_ix (v_var 1 rfl rfl) v_int) (cm_nd ha hb)) (v_mul (v_ix (v_var 1 rfl rfl) v_int) (v_ix (v_var 0 rfl rfl) v_int) (cm_nd hb ha))) (v_cons (v_mul (v_ix (v_var 0 rfl rfl) v_int) (v_ix (v_var 1 rfl rfl) v_int) (cm_dd ha hb)) v_nil)) ⟨_, _, rfl, Int.mul_ne_zero den_ne den_ne, mul_small ha hb, by rw [add_eq]⟩)
theorem ok_L_minus (hL : OkLlow P w K mg base) (hD : Df K mg "_law_minus" s_L_minus p_L_minus) : Ok P w K mg base 3 "_law_minus" p_L_minus (PF K R_sub) :=
  ok_pf hD sc_L_minus (fun ds d h => by obtain ⟨a, b, rfl, _⟩ := h; rfl) fun ds d h => by
    obtain ⟨a, b, rfl, ha, hb, hc, rfl⟩ := h
    exact g_ret (v_call hL rfl (v_cons (v_sub (v_mul (v_ix (v_var 0 rfl rfl) v_int) (v_ix (v_var 1 rfl rfl) v_int) (cm_nd ha hb)) (v_mul (v_ix (v_var 1 rfl rfl) v_int) (v_ix (v_var 0 rfl rfl) v_int) (cm_nd hb ha))) (v_cons (v_mul (v_ix (v_var 0 rfl rfl) v_int) (v_ix (v_var 1 rfl rfl) v_int) (cm_dd ha hb)) v_nil)) ⟨_, _, rfl, Int.mul_ne_zero den_ne den_ne, mul_small ha hb, by rw [sub_eq]⟩)
theorem ok_L_times (hL : OkLlow P w K mg base) (hD : Df K mg "_law_times" s_L_times p_L_times) : Ok P w K mg base 3 "_law_times" p_L_times (PF K R_mul) :=
  ok_pf hD sc_L_times (fun ds d h => by obtain ⟨a, b, rfl, _⟩ := h; rfl) fun ds d h => by
    obtain ⟨a, b, rfl, ha, hb, hc, rfl⟩ := h
    exact g_ret (v_call hL rfl (v_cons (v_mul (v_ix (v_var 0 rfl rfl) v_int) (v_ix (v_var 1 rfl rfl) v_int) (cm_nn ha hb)) (v_cons (v_mul (v_ix (v_var 0 rfl rfl) v_int) (v_ix (v_var 1 rfl rfl) v_int) (cm_dd ha hb)) v_nil)) ⟨_, _, rfl, Int.mul_ne_zero den_ne den_ne, mul_small ha hb, by rw [mul_eq]⟩)
theorem ok_L_over (hL : OkLlow P w K mg base) (hD : Df K mg "_law_over" s_L_over p_L_over) : Ok P w K mg base 3 "_law_over" p_L_over (PF K R_div) :=
  ok_pf hD sc_L_over (fun ds d h => by obtain ⟨a, b, rfl, _⟩ := h; rfl) fun ds d h => by
    obtain ⟨a, b, rfl, ha, hb, hc, rfl⟩ := h
    exact g_ret (v_call hL rfl (v_cons (v_mul (v_ix (v_var 0 rfl rfl) v_int) (v_ix (v_var 1 rfl rfl) v_int) (cm_nd ha hb)) (v_cons (v_mul (v_ix (v_var 0 rfl rfl) v_int) (v_ix (v_var 1 rfl rfl) v_int) (cm_dn ha hb)) v_nil)) ⟨_, _, rfl, Int.mul_ne_zero den_ne (num_ne hc), dn_small ha hb, by rw [div_eq]⟩)
end
end Ee

/-! the defs of cables -/
namespace Ee
open PySem PySem.Spec PyProof.Rows L2

/-- the module's constants -/
structure Kc (K : PySem.W.Frag) (mg : Str → Option Value) : Prop where
  zero : ∃ z, mg "ZERO" = some (.ref z) ∧ ∀ H, Is K H (qD 0) (.ref z)
  ml : ∃ t, mg "MOST_LENGTHS" = some (.int 12 t)
  mn : ∃ t, mg "MOST_NUMBER" = some (.int 999 t)
abbrev lnD (p : Int × Rat) : D := .tup [.int p.1, qD p.2]
abbrev cabD (ls : Lens) (back : Rat) : D := .tup [.tup (ls.map lnD), qD back]
theorem lnD_at {ls : Lens} {i : Nat} {d : D} (h : (ls.map lnD)[i]? = some d) : ∃ p, ls[i]? = some p ∧ d = lnD p := by
  rw [List.getElem?_map] at h
  cases e : ls[i]? with
  | none => rw [e] at h; cases h
  | some p =>
    rw [e] at h
    exact ⟨p, rfl, (Option.some.inj h).symm⟩
theorem fm_some {α β : Type} (f : α → β) (l : List α) : l.filterMap (fun x => some (f x)) = l.map f := by
  induction l with
  | nil => rfl
  | cons x t ih =>
    rw [List.map_cons, ← ih]
    rfl
section
variable {P : Program} {w : World} {K : PySem.W.Frag} {mg : Str → Option Value} {base : Heap}
section
variable {S : Sx} {E : En} {pos : Pos}
theorem v_zero (C : Kc S.K S.mg) (hg : GlS S "ZERO") : PV S E (.Name "ZERO" pos) (qD 0) := by
  obtain ⟨z, h1, h2⟩ := C.zero
  exact v_glob hg h1 (v := .ref z) rfl h2
theorem v_ml (C : Kc S.K S.mg) (hg : GlS S "MOST_LENGTHS") : PV S E (.Name "MOST_LENGTHS" pos) (.int 12) := by
  obtain ⟨t, h1⟩ := C.ml
  exact v_glob hg h1 (v := .int 12) ⟨t, rfl⟩ fun _ => rfl
theorem v_mn (C : Kc S.K S.mg) (hg : GlS S "MOST_NUMBER") : PV S E (.Name "MOST_NUMBER" pos) (.int 999) := by
  obtain ⟨t, h1⟩ := C.mn
  exact v_glob hg h1 (v := .int 999) ⟨t, rfl⟩ fun _ => rfl
end
def R_small : List D → D → Prop := fun ds d => ∃ a : Rat, ds = [qD a] ∧ a.num ≤ 999 ∧ a.den ≤ 999 ∧ d = .bl true
theorem ok_is_small (C : Kc K mg) (hD : Df K mg "is_small" s_is_small p_is_small) : Ok P w K mg base 1 "is_small" p_is_small (PF K R_small) :=
  ok_pf hD sc_is_small (fun ds d h => by obtain ⟨i, rfl, _⟩ := h; rfl) fun ds d h => by
    obtain ⟨a, rfl, h1, h2, rfl⟩ := h
    refine g_ret ((v_and (v_le (v_ix (v_var 0 rfl rfl) v_int) (v_mn C rfl)) fun _ => v_one (v_le (v_ix (v_var 0 rfl rfl) v_int) (v_mn C rfl))).to ?_)
    rw [decide_eq_true h1, decide_eq_true (show (a.den : Int) ≤ 999 by omega)]
    rfl
abbrev OkAbove (P : Program) (w : World) (K : PySem.W.Frag) (mg : Str → Option Value) (base : Heap) : Prop := Ok P w K mg base 3 "is_above_zero" p_is_above_zero (PF K (R_q fun a => decide (0 < a)))
abbrev OkFrom (P : Program) (w : World) (K : PySem.W.Frag) (mg : Str → Option Value) (base : Heap) : Prop := Ok P w K mg base 3 "is_from_zero" p_is_from_zero (PF K (R_q fun a => decide (0 ≤ a)))
abbrev OkWhole (P : Program) (w : World) (K : PySem.W.Frag) (mg : Str → Option Value) (base : Heap) : Prop := Ok P w K mg base 1 "is_whole" p_is_whole (PF K R_whole)
def R_length : List D → D → Prop := fun ds d => ∃ p : Int × Rat, ds = [lnD p] ∧ LenOk p ∧ d = .bl true
theorem ok_is_length (B : Bt mg) (C : Kc K mg) (hW : OkWhole P w K mg base) (hA : OkAbove P w K mg base) (hS : Ok P w K mg base 1 "is_small" p_is_small (PF K R_small)) (hD : Df K mg "is_length" s_is_length p_is_length) : Ok P w K mg base 4 "is_length" p_is_length (PF K R_length) :=
  ok_pf hD sc_is_length (fun ds d h => by obtain ⟨i, rfl, _⟩ := h; rfl) fun ds d h => by
    obtain ⟨p, rfl, hp, rfl⟩ := h
    obtain ⟨h1, h2, h3, h4, h5⟩ := hp
    refine g_ifF (b_w (w_or (c := false) (b_not (c := true) (b_val (v_isi (T := "tuple") (t := "tuple") rfl B.isinstance rfl B.tuple PyProof.Rows.boot_tuple (v_var 0 rfl rfl) rfl (by decide +kernel)))) fun _ => w_or (c := false) (PB.to (b_neI (v_len rfl B.len (v_cons (v_var 0 rfl rfl) v_nil)) v_int) rfl) fun _ =>
      w_or (c := false) (b_not (c := true) (b_val (v_call hW rfl (v_cons (v_ix (v_var 0 rfl rfl) v_int) v_nil) ⟨_, rfl, rfl⟩))) fun _ => w_or1 (c := false) (b_not (c := true) (PB.to (b_chainLe v_int (v_ix (v_var 0 rfl rfl) v_int) (v_mn C rfl)) ?_)))) ?_
    · rw [decide_eq_true h1, decide_eq_true h2]
      rfl
    refine g_pop (g_ret ((v_and (v_call hA rfl (v_cons (v_ix (v_var 0 rfl rfl) v_int) v_nil) ⟨_, rfl, rfl⟩) fun _ => v_one (v_call hS rfl (v_cons (v_ix (v_var 0 rfl rfl) v_int) v_nil) ⟨p.2, rfl, by omega, by omega, rfl⟩)).to ?_))
    show D.bl (decide (0 < p.2) && true) = _
    rw [decide_eq_true h3]
    rfl
def R_cable : List D → D → Prop := fun ds d => ∃ ls back, ds = [cabD ls back] ∧ CabOk ls back ∧ d = .bl true
theorem ok_is_cable (B : Bt mg) (C : Kc K mg) (hL : Ok P w K mg base 4 "is_length" p_is_length (PF K R_length)) (hF : OkFrom P w K mg base) (hS : Ok P w K mg base 1 "is_small" p_is_small (PF K R_small)) (hD : Df K mg "is_cable" s_is_cable p_is_cable) : Ok P w K mg base 5 "is_cable" p_is_cable (PF K R_cable) :=
  ok_pf hD sc_is_cable (fun ds d h => by obtain ⟨i, j, rfl, _⟩ := h; rfl) fun ds d h => by
    obtain ⟨ls, back, rfl, hc, rfl⟩ := h
    have h1 := hc.some
    have h2 := hc.most
    refine g_ifF (b_w (w_or (c := false) (b_not (c := true) (b_val (v_isi (T := "tuple") (t := "tuple") rfl B.isinstance rfl B.tuple PyProof.Rows.boot_tuple (v_var 0 rfl rfl) rfl (by decide +kernel)))) fun _ => w_or (c := false) (PB.to (b_neI (v_len rfl B.len (v_cons (v_var 0 rfl rfl) v_nil)) v_int) rfl) fun _ =>
      w_or1 (c := false) (b_not (c := true) (b_val (v_isi (T := "tuple") (t := "tuple") rfl B.isinstance rfl B.tuple PyProof.Rows.boot_tuple (v_ix (v_var 0 rfl rfl) v_int) rfl (by decide +kernel)))))) ?_
    refine g_pop (g_ifF (b_w (w_or (c := false) (b_not (c := true) (PB.to (b_chainLe v_int (v_len rfl B.len (v_cons (v_ix (v_var 0 rfl rfl) v_int) v_nil)) (v_ml C rfl)) ?_)) fun _ => w_or1 (c := false) (b_not (c := true) (b_val ((v_all (ns := ls.map fun _ => true) rfl B.all (v_cons ((v_lcT (g := lnD) (f := fun _ => some (.bl true)) [("one", 1)] sc_is_cable.nd (blkOk_by (N := n_is_cable) (sc := defScope s_is_cable) (by decide +kernel)) (v_ix (v_var 0 rfl rfl) v_int) ?_ (fun p hp => ?_)).to ?_) v_nil)).to ?_))))) ?_)
    · rw [List.length_map, decide_eq_true (show (1 : Int) ≤ (ls.length : Int) by omega), decide_eq_true (show (ls.length : Int) ≤ 12 by omega)]
      rfl
    · omega
    · exact ⟨_, _, .name 1, by decide, rfl, fun y hy => by
        cases hy
        exact ⟨v_call hL rfl (v_cons (v_var 1 rfl rfl) v_nil) ⟨p, rfl, hc.each p hp, rfl⟩, rfl⟩⟩
    · rw [fm_some, List.map_map]
      rfl
    · congr 1
      simp
    refine g_pop (g_ret ((v_and (v_call hF rfl (v_cons (v_ix (v_var 0 rfl rfl) v_int) v_nil) ⟨_, rfl, rfl⟩) fun _ => v_one (v_call hS rfl (v_cons (v_ix (v_var 0 rfl rfl) v_int) v_nil) ⟨back, rfl, by have := hc.backN; omega, by have := hc.backD; omega, rfl⟩)).to ?_))
    show D.bl (decide (0 ≤ back) && true) = _
    rw [decide_eq_true hc.back0]
    rfl
abbrev OkCable (P : Program) (w : World) (K : PySem.W.Frag) (mg : Str → Option Value) (base : Heap) : Prop := Ok P w K mg base 5 "is_cable" p_is_cable (PF K R_cable)
def R_check : List D → D → Prop := fun ds d => ∃ ls back, ds = [cabD ls back] ∧ CabOk ls back ∧ d = .non
theorem ok_check_cable (hC : OkCable P w K mg base) (hD : Df K mg "check_cable" s_check_cable p_check_cable) : Ok P w K mg base 6 "check_cable" p_check_cable (PF K R_check) :=
  ok_pf hD sc_check_cable (fun ds d h => by obtain ⟨i, j, rfl, _⟩ := h; rfl) fun ds d h => by
    obtain ⟨ls, back, rfl, hc, rfl⟩ := h
    exact g_ifF (b_not (c := true) (b_val (v_call hC rfl (v_cons (v_var 0 rfl rfl) v_nil) ⟨ls, back, rfl, hc, rfl⟩))) (g_pop (g_pop g_endN))
/-! ### all that a cable drags -/
abbrev OkAdd (P : Program) (w : World) (K : PySem.W.Frag) (mg : Str → Option Value) (base : Heap) : Prop := Ok P w K mg base 3 "add" p_add (PF K R_add)
abbrev OkSub (P : Program) (w : World) (K : PySem.W.Frag) (mg : Str → Option Value) (base : Heap) : Prop := Ok P w K mg base 3 "less" p_less (PF K R_sub)
abbrev OkMul (P : Program) (w : World) (K : PySem.W.Frag) (mg : Str → Option Value) (base : Heap) : Prop := Ok P w K mg base 3 "mul" p_mul (PF K R_mul)
abbrev OkDiv (P : Program) (w : World) (K : PySem.W.Frag) (mg : Str → Option Value) (base : Heap) : Prop := Ok P w K mg base 3 "div" p_div (PF K R_div)
abbrev OkLess (P : Program) (w : World) (K : PySem.W.Frag) (mg : Str → Option Value) (base : Heap) : Prop := Ok P w K mg base 1 "is_less" p_is_less (PF K R_lt)
def R_alldrag : List D → D → Prop := fun ds d => ∃ ls back, ds = [cabD ls back] ∧ CabOk ls back ∧ d = qD (drg ls)
theorem ok_all_drag (C : Kc K mg) (hA : OkAdd P w K mg base) (hM : OkMul P w K mg base) (hD : Df K mg "all_drag" s_all_drag p_all_drag) : Ok P w K mg base 4 "all_drag" p_all_drag (PF K R_alldrag) :=
  ok_pf hD sc_all_drag (fun ds d h => by obtain ⟨i, j, rfl, _⟩ := h; rfl) fun ds d h => by
    obtain ⟨ls, back, rfl, hc, rfl⟩ := h
    refine g_set 1 (v_zero C rfl) ?_ sc_all_drag.nd
    refine g_forT (fun i => [some (cabD ls back), some (qD (drg (ls.take i))), none, none]) (v_ix (v_var 0 rfl rfl) v_int) sc_all_drag.nd (LeE.refl _) (fun i d hd => ?_) ?_
    · obtain ⟨p, hp, rfl⟩ := lnD_at hd
      have hk := hc.each p (List.mem_of_getElem? hp)
      refine ⟨_, _, .pair 2 3, ?_⟩
      refine g_set 1 (v_call hA rfl (v_cons (v_var 1 rfl rfl) (v_cons (v_call hM rfl (v_cons (v_tup (v_cons (v_var 2 rfl rfl) (v_cons v_int v_nil))) (v_cons (v_var 3 rfl rfl) v_nil)) ⟨(p.1 : Rat), p.2, rfl, hk.bd1.le (by decide), hk.bd2.le (by decide), trivial, rfl⟩) v_nil))
        ⟨drg (ls.take i), (p.1 : Rat) * p.2, rfl, (hc.bd_drg i).le (by decide), (hk.bd1.mul hk.bd2).le (by decide), trivial, rfl⟩) ?_ sc_all_drag.nd
      refine g_pop (g_end ?_)
      rw [drg_succ hp]
      exact .cons (.inr rfl) (.cons (.inr rfl) (.cons (.inl rfl) (.cons (.inl rfl) .nil)))
    · rw [List.length_map, List.take_length]
      exact g_ret (v_var 1 rfl rfl)
end
end Ee

/-! places, days, the drags of pairs -/
namespace Ee
open PySem PySem.Spec PyProof.Rows L2
section
variable {P : Program} {w : World} {K : PySem.W.Frag} {mg : Str → Option Value} {base : Heap}
theorem cast_add (a b : Int) : ((a + b : Int) : Rat) = (a : Rat) + (b : Rat) := Rat.intCast_add ..
theorem lf_succ {ls : Lens} {i : Nat} {p : Int × Rat} {l : Rat} (h : ls[i]? = some p) : l - ((stp (ls.take (i + 1)) : Int) : Rat) = l - ((stp (ls.take i) : Int) : Rat) - (p.1 : Rat) := by
  rw [stp_succ h, cast_add]
  grind
theorem CabOk.bd_lf {ls : Lens} {back : Rat} (C : CabOk ls back) {l : Rat} (h : Bd l 20) (i : Nat) : Bd (l - ((stp (ls.take i) : Int) : Rat)) 35 := h.sub (C.bd_stp i)
def R_dragat : List D → D → Prop := fun ds d => ∃ ls back l, ds = [cabD ls back, qD l] ∧ CabOk ls back ∧ Bd l 20 ∧ l ≤ ((stp ls : Int) : Rat) ∧ d = qD (dAt ls l)
theorem ok_drag_at (C : Kc K mg) (hA : OkAdd P w K mg base) (hS : OkSub P w K mg base) (hM : OkMul P w K mg base) (hL : OkLess P w K mg base) (hD : Df K mg "drag_at" s_drag_at p_drag_at) : Ok P w K mg base 4 "drag_at" p_drag_at (PF K R_dragat) :=
  ok_pf hD sc_drag_at (fun ds d h => by obtain ⟨i, j, l, rfl, _⟩ := h; rfl) fun ds d h => by
    obtain ⟨ls, back, l, rfl, hc, hb, hl, rfl⟩ := h
    obtain ⟨n, pn, e1, e2, e3, e4⟩ := dAt_stop hc.each (l := l) (by rintro rfl; have := hc.some; simp at this) hl
    refine g_set 2 (v_zero C rfl) ?_ sc_drag_at.nd
    refine g_set 3 (v_var 1 rfl rfl) ?_ sc_drag_at.nd
    refine g_forTR n (fun i => [some (cabD ls back), some (qD l), some (qD (drg (ls.take i))), some (qD (l - ((stp (ls.take i) : Int) : Rat))), none, none]) (v_ix (v_var 0 rfl rfl) v_int) sc_drag_at.nd ?_ ?_ (fun z => nomatch z) (fun i x hi hx => ?_) (fun x hx => ?_)
    · have e : l - ((stp (ls.take 0) : Int) : Rat) = l := by
        show l - ((0 : Int) : Rat) = l
        grind
      show LeE [_, _, _, some (qD (l - ((stp (ls.take 0) : Int) : Rat))), _, _] _
      rw [e]
      exact LeE.refl _
    · rw [List.length_map]
      exact (List.getElem?_eq_some_iff.mp e1).1
    · obtain ⟨p, hp, rfl⟩ := lnD_at hx
      have hk := hc.each p (List.mem_of_getElem? hp)
      have hlt := e2 i p hi hp
      refine ⟨_, _, .pair 4 5, ?_⟩
      refine g_ifT (b_val ((v_call hL rfl (v_cons (v_tup (v_cons (v_var 4 rfl rfl) (v_cons v_int v_nil))) (v_cons (v_var 3 rfl rfl) v_nil)) ⟨(p.1 : Rat), _, rfl, hk.bd1.le (by decide), (hc.bd_lf hb i).le (by decide), rfl⟩).to (congrArg D.bl (decide_eq_true hlt)))) ?_
      refine g_set 2 (v_call hA rfl (v_cons (v_var 2 rfl rfl) (v_cons (v_call hM rfl (v_cons (v_tup (v_cons (v_var 4 rfl rfl) (v_cons v_int v_nil))) (v_cons (v_var 5 rfl rfl) v_nil)) ⟨(p.1 : Rat), p.2, rfl, hk.bd1.le (by decide), hk.bd2.le (by decide), trivial, rfl⟩) v_nil))
        ⟨drg (ls.take i), (p.1 : Rat) * p.2, rfl, (hc.bd_drg i).le (by decide), (hk.bd1.mul hk.bd2).le (by decide), trivial, rfl⟩) ?_ sc_drag_at.nd
      refine g_set 3 (v_call hS rfl (v_cons (v_var 3 rfl rfl) (v_cons (v_tup (v_cons (v_var 4 rfl rfl) (v_cons v_int v_nil))) v_nil)) ⟨_, (p.1 : Rat), rfl, (hc.bd_lf hb i).le (by decide), hk.bd1.le (by decide), trivial, rfl⟩) ?_ sc_drag_at.nd
      refine g_pop (g_pop (g_end ?_))
      rw [drg_succ hp, lf_succ hp]
      exact .cons (.inr rfl) (.cons (.inr rfl) (.cons (.inr rfl) (.cons (.inr rfl) (.cons (.inl rfl) (.cons (.inl rfl) .nil)))))
    · obtain ⟨p, hp, rfl⟩ := lnD_at hx
      have hk := hc.each p (List.mem_of_getElem? hp)
      have hpp : p = pn := by
        rw [e1] at hp
        exact (Option.some.inj hp).symm
      subst hpp
      refine ⟨_, _, .pair 4 5, ?_⟩
      refine g_ifF (b_val ((v_call hL rfl (v_cons (v_tup (v_cons (v_var 4 rfl rfl) (v_cons v_int v_nil))) (v_cons (v_var 3 rfl rfl) v_nil)) ⟨(p.1 : Rat), _, rfl, hk.bd1.le (by decide), (hc.bd_lf hb n).le (by decide), rfl⟩).to (congrArg D.bl (decide_eq_false e3)))) ?_
      rw [e4]
      exact g_ret (v_call hA rfl (v_cons (v_var 2 rfl rfl) (v_cons (v_call hM rfl (v_cons (v_var 3 rfl rfl) (v_cons (v_var 5 rfl rfl) v_nil)) ⟨_, p.2, rfl, (hc.bd_lf hb n).le (by decide), hk.bd2.le (by decide), trivial, rfl⟩) v_nil))
        ⟨drg (ls.take n), _, rfl, (hc.bd_drg n).le (by decide), ((hc.bd_lf hb n).mul hk.bd2).le (by decide), trivial, rfl⟩)

/-! ### days -/
abbrev dayD (w e l : Rat) : D := .tup [qD w, qD e, qD l]
abbrev fourD (w e f l : Rat) : D := .tup [qD w, qD e, qD f, qD l]
def R_isday : List D → D → Prop := fun ds d => ∃ w e l, ds = [dayD w e l] ∧ 0 < w ∧ 0 < e ∧ 0 ≤ l ∧ d = .bl true
theorem ok_is_day (B : Bt mg) (hF : OkFrom P w K mg base) (hA : OkAbove P w K mg base) (hD : Df K mg "is_day" s_is_day p_is_day) : Ok P w K mg base 4 "is_day" p_is_day (PF K R_isday) :=
  ok_pf hD sc_is_day (fun ds d h => by obtain ⟨i, j, l, rfl, _⟩ := h; rfl) fun ds d h => by
    obtain ⟨w', e, l, rfl, h1, h2, h3, rfl⟩ := h
    refine g_ifF (b_w (w_or (c := false) (b_not (c := true) (b_val (v_isi (T := "tuple") (t := "tuple") rfl B.isinstance rfl B.tuple PyProof.Rows.boot_tuple (v_var 0 rfl rfl) rfl (by decide +kernel)))) fun _ => w_or (c := false) (PB.to (b_neI (v_len rfl B.len (v_cons (v_var 0 rfl rfl) v_nil)) v_int) rfl) fun _ =>
      w_or1 (c := false) (b_not (c := true) (b_val ((v_call hF rfl (v_cons (v_ix (v_var 0 rfl rfl) v_int) v_nil) ⟨_, rfl, rfl⟩).to (congrArg D.bl (decide_eq_true h3))))))) ?_
    refine g_pop (g_ifF (b_w (w_or (c := false) (PB.to (b_isN (v_ix (v_var 0 rfl rfl) v_int)) rfl) fun _ => w_or1 (c := false) (PB.to (b_isN (v_ix (v_var 0 rfl rfl) v_int)) rfl))) ?_)
    refine g_pop (g_ret ((v_and (v_call hA rfl (v_cons (v_ix (v_var 0 rfl rfl) v_int) v_nil) ⟨_, rfl, rfl⟩) fun _ => v_one (v_call hA rfl (v_cons (v_ix (v_var 0 rfl rfl) v_int) v_nil) ⟨_, rfl, rfl⟩)).to ?_))
    show D.bl (decide (0 < w') && decide (0 < e)) = _
    rw [decide_eq_true h1, decide_eq_true h2]
    rfl
def R_checkday : List D → D → Prop := fun ds d => ∃ w e l, ds = [dayD w e l] ∧ 0 < w ∧ 0 < e ∧ 0 ≤ l ∧ d = .non
theorem ok_check_day (hI : Ok P w K mg base 4 "is_day" p_is_day (PF K R_isday)) (hD : Df K mg "check_day" s_check_day p_check_day) : Ok P w K mg base 5 "check_day" p_check_day (PF K R_checkday) :=
  ok_pf hD sc_check_day (fun ds d h => by obtain ⟨i, j, l, rfl, _⟩ := h; rfl) fun ds d h => by
    obtain ⟨w', e, l, rfl, h1, h2, h3, rfl⟩ := h
    exact g_ifF (b_not (c := true) (b_val (v_call hI rfl (v_cons (v_var 0 rfl rfl) v_nil) ⟨_, _, _, rfl, h1, h2, h3, rfl⟩))) (g_pop (g_pop g_endN))
abbrev dayS (back W A F : Rat) : D := dayD (W + F) (A + F) (back + (W + A))
abbrev OkAllDrag (P : Program) (w : World) (K : PySem.W.Frag) (mg : Str → Option Value) (base : Heap) : Prop := Ok P w K mg base 4 "all_drag" p_all_drag (PF K R_alldrag)
abbrev OkHalf (P : Program) (w : World) (K : PySem.W.Frag) (mg : Str → Option Value) (base : Heap) : Prop := Ok P w K mg base 3 "half" p_half (PF K R_half)
def R_four : List D → D → Prop := fun ds d => ∃ ls back W A F L, ds = [cabD ls back, dayS back W A F] ∧ Star ls back W A F L ∧ d = fourD W A F L
theorem ok_four_of (hA : OkAdd P w K mg base) (hS : OkSub P w K mg base) (hH : OkHalf P w K mg base) (hAll : OkAllDrag P w K mg base) (hD : Df K mg "four_of" s_four_of p_four_of) : Ok P w K mg base 5 "four_of" p_four_of (PF K R_four) :=
  ok_pf hD sc_four_of (fun ds d h => by obtain ⟨_, _, _, _, _, _, rfl, _⟩ := h; rfl) fun ds d h => by
    obtain ⟨ls, back, W, A, F, L, rfl, s, rfl⟩ := h
    have b1 : Bd (W + F) 801 := s.bW.add s.bF
    have b2 : Bd (A + F) 801 := s.bA.add s.bF
    have b3 : Bd (back + (W + A)) 807 := s.cab.bd_back.add (s.bW.add s.bA)
    have b4 : Bd ((W + F) + (A + F)) 1603 := b1.add b2
    have b5 : Bd ((W + F) + (A + F) + back) 1609 := b4.add s.cab.bd_back
    have b6 : Bd ((W + F) + (A + F) + back - (back + (W + A))) 2417 := b5.sub b3
    have b7 : Bd (back + drg ls) 206 := s.cab.bd_back.add s.cab.bd_all
    refine g_unpack (v_var 1 rfl rfl) (.cons 2 (.cons 3 (.cons 4 .nil))) sc_four_of.nd ?_
    refine g_set 5 (d := qD F) ((v_call hH rfl (v_cons (v_call hS rfl (v_cons (v_call hA rfl (v_cons (v_call hA rfl (v_cons (v_var 2 rfl rfl) (v_cons (v_var 3 rfl rfl) v_nil)) ⟨W + F, A + F, rfl, b1.le (by decide), b2.le (by decide), trivial, rfl⟩) (v_cons (v_ix (v_var 0 rfl rfl) v_int) v_nil)) ⟨_, back, rfl, b4.le (by decide), s.cab.bd_back.le (by decide), trivial, rfl⟩) (v_cons (v_var 4 rfl rfl) v_nil))
      ⟨_, back + (W + A), rfl, b5.le (by decide), b3.le (by decide), trivial, rfl⟩) v_nil) ⟨_, rfl, b6.le (by decide), rfl⟩).to (congrArg qD (by grind))) ?_ sc_four_of.nd
    refine g_set 6 (d := qD L) ((v_call hS rfl (v_cons (v_call hA rfl (v_cons (v_ix (v_var 0 rfl rfl) v_int) (v_cons (v_call hAll rfl (v_cons (v_var 0 rfl rfl) v_nil) ⟨ls, back, rfl, s.cab, rfl⟩) v_nil)) ⟨back, drg ls, rfl, s.cab.bd_back.le (by decide), s.cab.bd_all.le (by decide), trivial, rfl⟩) (v_cons (v_var 4 rfl rfl) v_nil)) ⟨_, back + (W + A), rfl, b7.le (by decide), b3.le (by decide), trivial, rfl⟩).to (congrArg qD (by have := s.lack; grind))) ?_ sc_four_of.nd
    exact g_ret (v_tup (v_cons ((v_call hS rfl (v_cons (v_var 2 rfl rfl) (v_cons (v_var 5 rfl rfl) v_nil)) ⟨W + F, F, rfl, b1.le (by decide), s.bF.le (by decide), trivial, rfl⟩).to (congrArg qD (by grind))) (v_cons ((v_call hS rfl (v_cons (v_var 3 rfl rfl) (v_cons (v_var 5 rfl rfl) v_nil)) ⟨A + F, F, rfl, b2.le (by decide), s.bF.le (by decide), trivial, rfl⟩).to (congrArg qD (by grind))) (v_cons (v_var 5 rfl rfl) (v_cons (v_var 6 rfl rfl) v_nil)))))
end
end Ee

/-! a day's kind; the other leak of a pair -/
namespace Ee
open PySem PySem.Spec PyProof.Rows L2
section
variable {P : Program} {w : World} {K : PySem.W.Frag} {mg : Str → Option Value} {base : Heap}
theorem bd0 : Bd 0 1 := ⟨by decide, by decide⟩
def R_fault : List D → D → Prop := fun ds d => ∃ ls back W A F L, ds = [fourD W A F L] ∧ Star ls back W A F L ∧ d = .non
theorem ok_fault_in (C : Kc K mg) (hM : OkMul P w K mg base) (hL : OkLess P w K mg base) (hD : Df K mg "fault_in" s_fault_in p_fault_in) : Ok P w K mg base 4 "fault_in" p_fault_in (PF K R_fault) :=
  ok_pf hD sc_fault_in (fun ds d h => by obtain ⟨_, _, _, _, _, _, rfl, _⟩ := h; rfl) fun ds d h => by
    obtain ⟨ls, back, W, A, F, L, rfl, s, rfl⟩ := h
    have z : Bd (0 : Rat) 4000 := bd0.le (by decide)
    have nl : ∀ {a : Rat}, 0 < a → decide (a < 0) = false := fun {a} h => decide_eq_false (by grind)
    refine g_unpack (v_var 0 rfl rfl) (.cons 1 (.cons 2 (.cons 3 (.cons 4 .nil)))) sc_fault_in.nd ?_
    refine g_ifF (b_val ((v_call hL rfl (v_cons (v_var 4 rfl rfl) (v_cons (v_zero C rfl) v_nil)) ⟨L, 0, rfl, s.bL.le (by decide), z, rfl⟩).to (congrArg D.bl (nl s.L0)))) (g_pop ?_)
    refine g_ifF (b_not (c := true) (b_val ((v_call hL rfl (v_cons (v_zero C rfl) (v_cons (v_var 3 rfl rfl) v_nil)) ⟨0, F, rfl, z, s.bF.le (by decide), rfl⟩).to (congrArg D.bl (decide_eq_true s.F0))))) (g_pop ?_)
    refine g_ifF (b_val ((v_call hL rfl (v_cons (v_var 1 rfl rfl) (v_cons (v_zero C rfl) v_nil)) ⟨W, 0, rfl, s.bW.le (by decide), z, rfl⟩).to (congrArg D.bl (nl s.W0)))) (g_pop ?_)
    refine g_ifF (b_val ((v_call hL rfl (v_cons (v_var 2 rfl rfl) (v_cons (v_zero C rfl) v_nil)) ⟨A, 0, rfl, s.bA.le (by decide), z, rfl⟩).to (congrArg D.bl (nl s.A0)))) (g_pop ?_)
    refine g_ifF (b_val ((v_call hL rfl (v_cons (v_call hM rfl (v_cons (v_var 1 rfl rfl) (v_cons (v_var 2 rfl rfl) v_nil)) ⟨W, A, rfl, s.bW.le (by decide), s.bA.le (by decide), trivial, rfl⟩) (v_cons (v_call hM rfl (v_cons (v_var 3 rfl rfl) (v_cons (v_var 4 rfl rfl) v_nil)) ⟨F, L, rfl, s.bF.le (by decide), s.bL.le (by decide), trivial, rfl⟩) v_nil)) ⟨W * A, F * L, rfl, (s.bW.mul s.bA).le (by decide), (s.bF.mul s.bL).le (by decide), rfl⟩).to (congrArg D.bl (decide_eq_false (by have := s.fits; grind))))) (g_pop ?_)
    exact g_ret v_non
abbrev OkFour (P : Program) (w : World) (K : PySem.W.Frag) (mg : Str → Option Value) (base : Heap) : Prop := Ok P w K mg base 5 "four_of" p_four_of (PF K R_four)
def R_kind : List D → D → Prop := fun ds d => ∃ ls back W A F L, ds = [cabD ls back, dayS back W A F] ∧ Star ls back W A F L ∧ d = .tup [.str "two"]
theorem ok_kind_by (C : Kc K mg) (hF : OkFour P w K mg base) (hX : Ok P w K mg base 4 "fault_in" p_fault_in (PF K R_fault)) (hD : Df K mg "kind_by" s_kind_by p_kind_by) : Ok P w K mg base 6 "kind_by" p_kind_by (PF K R_kind) :=
  ok_pf hD sc_kind_by (fun ds d h => by obtain ⟨_, _, _, _, _, _, rfl, _⟩ := h; rfl) fun ds d h => by
    obtain ⟨ls, back, W, A, F, L, rfl, s, rfl⟩ := h
    refine g_ifF (PB.to (b_isN (v_ix (v_var 1 rfl rfl) v_int)) rfl) (g_pop ?_)
    refine g_set 2 (v_call hF rfl (v_cons (v_var 0 rfl rfl) (v_cons (v_var 1 rfl rfl) v_nil)) ⟨ls, back, W, A, F, L, rfl, s, rfl⟩) ?_ sc_kind_by.nd
    refine g_set 3 (v_call hX rfl (v_cons (v_var 2 rfl rfl) v_nil) ⟨ls, back, W, A, F, L, rfl, s, rfl⟩) ?_ sc_kind_by.nd
    refine g_ifF (PB.to (b_notN (v_var 3 rfl rfl)) rfl) (g_pop ?_)
    refine g_ifF (PB.to (b_eqD (n := 1) (m := 1) (v_ix (d := qD L) (v_var 2 rfl rfl) v_int) (v_zero C rfl) rfl rfl) ?_) (g_pop ?_)
    · have h0 : L.num ≠ 0 := by have := num_pos.mpr s.L0; omega
      simp [toPy, toPyA, PyData.eqv, PyData.eqvAll, h0]
    · exact g_ret (v_tup (v_cons v_str v_nil))
abbrev OkKind (P : Program) (w : World) (K : PySem.W.Frag) (mg : Str → Option Value) (base : Heap) : Prop := Ok P w K mg base 6 "kind_by" p_kind_by (PF K R_kind)
theorem ok_check_two (hC : Ok P w K mg base 5 "check_day" p_check_day (PF K R_checkday)) (hK : OkKind P w K mg base) (hF : OkFour P w K mg base) (hD : Df K mg "check_two" s_check_two p_check_two) : Ok P w K mg base 7 "check_two" p_check_two (PF K R_four) :=
  ok_pf hD sc_check_two (fun ds d h => by obtain ⟨_, _, _, _, _, _, rfl, _⟩ := h; rfl) fun ds d h => by
    obtain ⟨ls, back, W, A, F, L, rfl, s, rfl⟩ := h
    have w0 := s.W0
    have a0 := s.A0
    have f0 := s.F0
    have k0 := s.cab.back0
    refine g_drop (v_call hC rfl (v_cons (v_var 1 rfl rfl) v_nil) ⟨_, _, _, rfl, by grind, by grind, by grind, rfl⟩) ?_
    refine g_set 2 (v_call hK rfl (v_cons (v_var 0 rfl rfl) (v_cons (v_var 1 rfl rfl) v_nil)) ⟨ls, back, W, A, F, L, rfl, s, rfl⟩) ?_ sc_check_two.nd
    refine g_ifF (PB.to (b_eqS (v_ix (d := .str "two") (v_var 2 rfl rfl) v_int) v_str) (by decide)) (g_pop ?_)
    refine g_ifF (PB.to (b_neS (v_ix (d := .str "two") (v_var 2 rfl rfl) v_int) v_str) (by decide)) (g_pop ?_)
    exact g_ret (v_call hF rfl (v_cons (v_var 0 rfl rfl) (v_cons (v_var 1 rfl rfl) v_nil)) ⟨ls, back, W, A, F, L, rfl, s, rfl⟩)
/-! ### the other leak -/
/-- as far as the east leak, by the west one -/
def eastOf (R W A F L x : Rat) : Rat := R - A + F * L / (W - x)
/-- as far as the west leak, by the east one -/
def westOf (R W A F L y : Rat) : Option Rat := if 0 < A - (R - y) then some (W - F * L / (A - (R - y))) else none
def mostOf (W A F L : Rat) : Rat := W - F * L / A
def oqD : Option Rat → D
  | none => .non
  | some r => qD r
def R_east : List D → D → Prop := fun ds d => ∃ R W A F L x : Rat, ds = [qD R, fourD W A F L, qD x] ∧ Bd R 400 ∧ Bd W 400 ∧ Bd A 400 ∧ Bd F 400 ∧ Bd L 400 ∧ Bd x 1900 ∧ x ≠ W ∧ d = qD (eastOf R W A F L x)
theorem sub_ne {a b : Rat} (h : b ≠ a) : a - b ≠ 0 := fun e => h (by grind)
theorem ok_east_drag (hA : OkAdd P w K mg base) (hS : OkSub P w K mg base) (hM : OkMul P w K mg base) (hV : OkDiv P w K mg base) (hD : Df K mg "east_drag" s_east_drag p_east_drag) : Ok P w K mg base 4 "east_drag" p_east_drag (PF K R_east) :=
  ok_pf hD sc_east_drag (fun ds d h => by obtain ⟨_, _, _, _, _, _, rfl, _⟩ := h; rfl) fun ds d h => by
    obtain ⟨R, W, A, F, L, x, rfl, bR, bW, bA, bF, bL, bx, hx, rfl⟩ := h
    exact g_ret (v_call hA rfl (v_cons (v_call hS rfl (v_cons (v_var 0 rfl rfl) (v_cons (v_ix (v_var 1 rfl rfl) v_int) v_nil)) ⟨R, A, rfl, bR.le (by decide), bA.le (by decide), trivial, rfl⟩)
      (v_cons (v_call hV rfl (v_cons (v_call hM rfl (v_cons (v_ix (v_var 1 rfl rfl) v_int) (v_cons (v_ix (v_var 1 rfl rfl) v_int) v_nil)) ⟨F, L, rfl, bF.le (by decide), bL.le (by decide), trivial, rfl⟩)
        (v_cons (v_call hS rfl (v_cons (v_ix (v_var 1 rfl rfl) v_int) (v_cons (v_var 2 rfl rfl) v_nil)) ⟨W, x, rfl, bW.le (by decide), bx.le (by decide), trivial, rfl⟩) v_nil)) ⟨F * L, W - x, rfl, (bF.mul bL).le (by decide), (bW.sub bx).le (by decide), sub_ne hx, rfl⟩) v_nil)) ⟨_, _, rfl, (bR.sub bA).le (by decide), ((bF.mul bL).div (bW.sub bx)).le (by decide), trivial, rfl⟩)
def R_west : List D → D → Prop := fun ds d => ∃ R W A F L y : Rat, ds = [qD R, fourD W A F L, qD y] ∧ Bd R 400 ∧ Bd W 400 ∧ Bd A 400 ∧ Bd F 400 ∧ Bd L 400 ∧ Bd y 400 ∧ d = oqD (westOf R W A F L y)
theorem ok_west_drag (hA : OkAbove P w K mg base) (hS : OkSub P w K mg base) (hM : OkMul P w K mg base) (hV : OkDiv P w K mg base) (hD : Df K mg "west_drag" s_west_drag p_west_drag) : Ok P w K mg base 4 "west_drag" p_west_drag (PF K R_west) :=
  ok_pf hD sc_west_drag (fun ds d h => by obtain ⟨_, _, _, _, _, _, rfl, _⟩ := h; rfl) fun ds d h => by
    obtain ⟨R, W, A, F, L, y, rfl, bR, bW, bA, bF, bL, by_, rfl⟩ := h
    refine g_set 3 (v_call hS rfl (v_cons (v_ix (v_var 1 rfl rfl) v_int) (v_cons (v_call hS rfl (v_cons (v_var 0 rfl rfl) (v_cons (v_var 2 rfl rfl) v_nil)) ⟨R, y, rfl, bR.le (by decide), by_.le (by decide), trivial, rfl⟩) v_nil)) ⟨A, R - y, rfl, bA.le (by decide), (bR.sub by_).le (by decide), trivial, rfl⟩) ?_ sc_west_drag.nd
    unfold westOf
    by_cases h : 0 < A - (R - y)
    · rw [if_pos h]
      refine g_ifF (b_not (c := true) (b_val ((v_call hA rfl (v_cons (v_var 3 rfl rfl) v_nil) ⟨_, rfl, rfl⟩).to (congrArg D.bl (decide_eq_true h))))) (g_pop ?_)
      exact g_ret (v_call hS rfl (v_cons (v_ix (v_var 1 rfl rfl) v_int) (v_cons (v_call hV rfl (v_cons (v_call hM rfl (v_cons (v_ix (v_var 1 rfl rfl) v_int) (v_cons (v_ix (v_var 1 rfl rfl) v_int) v_nil)) ⟨F, L, rfl, bF.le (by decide), bL.le (by decide), trivial, rfl⟩)
        (v_cons (v_var 3 rfl rfl) v_nil)) ⟨F * L, _, rfl, (bF.mul bL).le (by decide), (bA.sub (bR.sub by_)).le (by decide), by grind, rfl⟩) v_nil)) ⟨W, _, rfl, bW.le (by decide), ((bF.mul bL).div (bA.sub (bR.sub by_))).le (by decide), trivial, rfl⟩)
    · rw [if_neg h]
      exact g_ifT (b_not (c := false) (b_val ((v_call hA rfl (v_cons (v_var 3 rfl rfl) v_nil) ⟨_, rfl, rfl⟩).to (congrArg D.bl (decide_eq_false h))))) (g_ret v_non)
def R_answer : List D → D → Prop := fun ds d => ∃ (p : Int × Int) (s : Int), ds = [prD p, .int s] ∧ d = .int (if p.2 < s then 0 else if s ≤ p.1 then 2 else 1)
theorem ok_answer_of (B : Bt mg) (hD : Df K mg "answer_of" s_answer_of p_answer_of) : Ok P w K mg base 1 "answer_of" p_answer_of (PF K R_answer) :=
  ok_pf hD sc_answer_of (fun ds d h => by obtain ⟨_, _, rfl, _⟩ := h; rfl) fun ds d h => by
    obtain ⟨p, s, rfl, rfl⟩ := h
    by_cases h : p.2 < s
    · rw [if_pos h]
      exact g_ifT (PB.to (b_lt (v_ix (v_var 0 rfl rfl) v_int) (v_var 1 rfl rfl)) (decide_eq_true h)) (g_ret v_int)
    · rw [if_neg h]
      refine g_ifF (PB.to (b_lt (v_ix (v_var 0 rfl rfl) v_int) (v_var 1 rfl rfl)) (decide_eq_false h)) (g_pop (g_ret ((v_add v_int (v_int1 rfl B.int (v_cons (v_ge (v_ix (v_var 0 rfl rfl) v_int) (v_var 1 rfl rfl)) v_nil))).to ?_)))
      by_cases h2 : s ≤ p.1
      · rw [if_pos h2, decide_eq_true h2]
        rfl
      · rw [if_neg h2, decide_eq_false h2]
        rfl
end
end Ee

/-! the law's own reckoning of drags and stars -/
namespace Ee
open PySem PySem.Spec PyProof.Rows L2
section
variable {P : Program} {w : World} {K : PySem.W.Frag} {mg : Str → Option Value} {base : Heap}
abbrev OkLp (P : Program) (w : World) (K : PySem.W.Frag) (mg : Str → Option Value) (base : Heap) : Prop := Ok P w K mg base 3 "_law_plus" p_L_plus (PF K R_add)
abbrev OkLm (P : Program) (w : World) (K : PySem.W.Frag) (mg : Str → Option Value) (base : Heap) : Prop := Ok P w K mg base 3 "_law_minus" p_L_minus (PF K R_sub)
abbrev OkLt (P : Program) (w : World) (K : PySem.W.Frag) (mg : Str → Option Value) (base : Heap) : Prop := Ok P w K mg base 3 "_law_times" p_L_times (PF K R_mul)
abbrev OkLo (P : Program) (w : World) (K : PySem.W.Frag) (mg : Str → Option Value) (base : Heap) : Prop := Ok P w K mg base 3 "_law_over" p_L_over (PF K R_div)
abbrev OkLb (P : Program) (w : World) (K : PySem.W.Frag) (mg : Str → Option Value) (base : Heap) : Prop := Ok P w K mg base 1 "_law_below" p_L_below (PF K R_lt)
theorem ok_L_all (hA : OkLp P w K mg base) (hM : OkLt P w K mg base) (hD : Df K mg "_law_all" s_L_all p_L_all) : Ok P w K mg base 4 "_law_all" p_L_all (PF K R_alldrag) :=
  ok_pf hD sc_L_all (fun ds d h => by obtain ⟨i, j, rfl, _⟩ := h; rfl) fun ds d h => by
    obtain ⟨ls, back, rfl, hc, rfl⟩ := h
    refine g_set 1 (d := qD 0) (v_tup (v_cons v_int (v_cons v_int v_nil))) ?_ sc_L_all.nd
    refine g_forT (fun i => [some (cabD ls back), some (qD (drg (ls.take i))), none, none]) (v_ix (v_var 0 rfl rfl) v_int) sc_L_all.nd (LeE.refl _) (fun i d hd => ?_) ?_
    · obtain ⟨p, hp, rfl⟩ := lnD_at hd
      have hk := hc.each p (List.mem_of_getElem? hp)
      refine ⟨_, _, .pair 2 3, ?_⟩
      refine g_set 1 (v_call hA rfl (v_cons (v_var 1 rfl rfl) (v_cons (v_call hM rfl (v_cons (v_tup (v_cons (v_var 2 rfl rfl) (v_cons v_int v_nil))) (v_cons (v_var 3 rfl rfl) v_nil)) ⟨(p.1 : Rat), p.2, rfl, hk.bd1.le (by decide), hk.bd2.le (by decide), trivial, rfl⟩) v_nil))
        ⟨drg (ls.take i), (p.1 : Rat) * p.2, rfl, (hc.bd_drg i).le (by decide), (hk.bd1.mul hk.bd2).le (by decide), trivial, rfl⟩) ?_ sc_L_all.nd
      refine g_pop (g_end ?_)
      rw [drg_succ hp]
      exact .cons (.inr rfl) (.cons (.inr rfl) (.cons (.inl rfl) (.cons (.inl rfl) .nil)))
    · rw [List.length_map, List.take_length]
      exact g_ret (v_var 1 rfl rfl)
theorem bd_clip {s l : Rat} {n : Nat} (hs : Bd s n) (hl : Bd l n) (h1 : 1 ≤ n) : Bd (clip s l) n := by
  unfold clip
  split
  · exact hs
  · split
    · exact hl
    · exact bd0.le h1
theorem CabOk.bd_dTo {ls : Lens} {back : Rat} (C : CabOk ls back) {l : Rat} (hl : Bd l 20) : ∀ i, i ≤ ls.length → Bd (dTo (ls.take i) l) (1 + 40 * i)
  | 0, _ => bd0
  | i + 1, hi => by
    have h1 : ls[i]? = Option.some ls[i] := List.getElem?_eq_getElem (by omega)
    have hk := C.each _ (List.getElem_mem (h := (by omega : i < ls.length)))
    rw [dTo_succ h1]
    exact ((C.bd_dTo hl i (by omega)).add ((bd_clip (hk.bd1.le (by decide : 10 ≤ 35)) (C.bd_lf hl i) (by decide)).mul hk.bd2)).le (by omega)
def R_dragto : List D → D → Prop := fun ds d => ∃ ls back l, ds = [cabD ls back, qD l] ∧ CabOk ls back ∧ Bd l 20 ∧ d = qD (dTo ls l)
theorem ok_L_drag_to (hA : OkLp P w K mg base) (hS : OkLm P w K mg base) (hM : OkLt P w K mg base) (hL : OkLb P w K mg base) (hD : Df K mg "_law_drag_to" s_L_drag_to p_L_drag_to) : Ok P w K mg base 4 "_law_drag_to" p_L_drag_to (PF K R_dragto) :=
  ok_pf hD sc_L_drag_to (fun ds d h => by obtain ⟨i, j, l, rfl, _⟩ := h; rfl) fun ds d h => by
    obtain ⟨ls, back, l, rfl, hc, hb, rfl⟩ := h
    refine g_unpack (ds := [qD 0, .int 0]) (v_tup (v_cons (v_tup (v_cons v_int (v_cons v_int v_nil))) (v_cons v_int v_nil))) (.cons 2 (.cons 3 .nil)) sc_L_drag_to.nd ?_
    refine g_forT (fun i => [some (cabD ls back), some (qD l), some (qD (dTo (ls.take i) l)), some (.int (stp (ls.take i))), none, none, none]) (v_ix (v_var 0 rfl rfl) v_int) sc_L_drag_to.nd (LeE.refl _) (fun i d hd => ?_) ?_
    · obtain ⟨p, hp, rfl⟩ := lnD_at hd
      have hk := hc.each p (List.mem_of_getElem? hp)
      have hi : i < ls.length := (List.getElem?_eq_some_iff.mp hp).1
      have hpos : (0 : Rat) < (p.1 : Rat) := by exact_mod_cast (show (0 : Int) < p.1 by have := hk.1; omega)
      have bf := hc.bd_dTo hb i (by omega)
      have hm := hc.most
      refine ⟨_, _, .pair 4 5, ?_⟩
      refine g_set 6 (v_call hS rfl (v_cons (v_var 1 rfl rfl) (v_cons (v_tup (v_cons (v_var 3 rfl rfl) (v_cons v_int v_nil))) v_nil)) ⟨l, ((stp (ls.take i) : Int) : Rat), rfl, hb.le (by decide), (hc.bd_stp i).le (by decide), trivial, rfl⟩) ?_ sc_L_drag_to.nd
      have blf := hc.bd_lf hb i
      have tail : ∀ c : Rat, c = clip p.1 (l - ((stp (ls.take i) : Int) : Rat)) ∨ (¬ 0 < c ∧ clip p.1 (l - ((stp (ls.take i) : Int) : Rat)) = 0) → Bd c 35 →
          Go (sx P w K mg base n_L_drag_to s_L_drag_to 3) [(match (defBody s_L_drag_to).getD 1 (.Pass default) with | .For _ _ b _ _ => b | _ => []).drop 2] [some (cabD ls back), some (qD l), some (qD (dTo (ls.take i) l)), some (.int (stp (ls.take i))), some (.int p.1), some (qD p.2), some (qD c)] (.nxt [some (cabD ls back), some (qD l), some (qD (dTo (ls.take (i + 1)) l)), some (.int (stp (ls.take (i + 1)))), none, none, none]) := fun c hcl hbc => by
        by_cases h0 : 0 < c
        · have e : c = clip p.1 (l - ((stp (ls.take i) : Int) : Rat)) := by
            rcases hcl with e | e
            · exact e
            · exact absurd h0 e.1
          refine g_ifT (PB.to (b_gt (v_ix (v_var 6 rfl rfl) v_int) v_int) (decide_eq_true (num_pos.mpr h0))) ?_
          refine g_set 2 (v_call hA rfl (v_cons (v_var 2 rfl rfl) (v_cons (v_call hM rfl (v_cons (v_var 6 rfl rfl) (v_cons (v_var 5 rfl rfl) v_nil)) ⟨c, p.2, rfl, hbc.le (by decide), hk.bd2.le (by decide), trivial, rfl⟩) v_nil)) ⟨_, c * p.2, rfl, bf.le (by omega), (hbc.mul hk.bd2).le (by decide), trivial, rfl⟩) ?_ sc_L_drag_to.nd
          refine g_pop (g_set 3 (v_add (v_var 3 rfl rfl) (v_var 4 rfl rfl)) ?_ sc_L_drag_to.nd)
          refine g_pop (g_end ?_)
          rw [dTo_succ hp, stp_succ hp, ← e]
          exact .cons (.inr rfl) (.cons (.inr rfl) (.cons (.inr rfl) (.cons (.inr rfl) (.cons (.inl rfl) (.cons (.inl rfl) (.cons (.inl rfl) .nil))))))
        · have e : clip p.1 (l - ((stp (ls.take i) : Int) : Rat)) = 0 := by
            rcases hcl with e | e
            · have := clip_nn p.1 (l - ((stp (ls.take i) : Int) : Rat)) (Rat.le_of_lt hpos)
              grind
            · exact e.2
          refine g_ifF (PB.to (b_gt (v_ix (v_var 6 rfl rfl) v_int) v_int) (decide_eq_false (by rw [num_pos]; exact h0))) ?_
          refine g_pop (g_set 3 (v_add (v_var 3 rfl rfl) (v_var 4 rfl rfl)) ?_ sc_L_drag_to.nd)
          refine g_pop (g_end ?_)
          have e2 : dTo (ls.take i) l + 0 * p.2 = dTo (ls.take i) l := by grind
          rw [dTo_succ hp, stp_succ hp, e, e2]
          exact .cons (.inr rfl) (.cons (.inr rfl) (.cons (.inr rfl) (.cons (.inr rfl) (.cons (.inl rfl) (.cons (.inl rfl) (.cons (.inl rfl) .nil))))))
      by_cases hlt : (p.1 : Rat) < l - ((stp (ls.take i) : Int) : Rat)
      · refine g_ifT (b_val ((v_call hL rfl (v_cons (v_tup (v_cons (v_var 4 rfl rfl) (v_cons v_int v_nil))) (v_cons (v_var 6 rfl rfl) v_nil)) ⟨(p.1 : Rat), _, rfl, hk.bd1.le (by decide), blf.le (by decide), rfl⟩).to (congrArg D.bl (decide_eq_true hlt)))) ?_
        refine g_set 6 (d := qD (p.1 : Rat)) (v_tup (v_cons (v_var 4 rfl rfl) (v_cons v_int v_nil))) ?_ sc_L_drag_to.nd
        exact g_pop (tail p.1 (.inl (by unfold clip; rw [if_pos hlt])) (hk.bd1.le (by decide)))
      · refine g_ifF (b_val ((v_call hL rfl (v_cons (v_tup (v_cons (v_var 4 rfl rfl) (v_cons v_int v_nil))) (v_cons (v_var 6 rfl rfl) v_nil)) ⟨(p.1 : Rat), _, rfl, hk.bd1.le (by decide), blf.le (by decide), rfl⟩).to (congrArg D.bl (decide_eq_false hlt)))) ?_
        refine g_pop (tail _ ?_ blf)
        unfold clip
        rw [if_neg hlt]
        by_cases h0 : 0 < l - ((stp (ls.take i) : Int) : Rat)
        · exact .inl (by rw [if_pos h0])
        · exact .inr ⟨h0, by rw [if_neg h0]⟩
    · rw [List.length_map, List.take_length]
      exact g_ret (v_var 2 rfl rfl)
abbrev OkLall (P : Program) (w : World) (K : PySem.W.Frag) (mg : Str → Option Value) (base : Heap) : Prop := Ok P w K mg base 4 "_law_all" p_L_all (PF K R_alldrag)
def halfQ : Rat := ⟨1, 2, by decide, by decide⟩
theorem halfQ_eq : halfQ = 1 / 2 := by decide +kernel
theorem ok_L_star (hA : OkLp P w K mg base) (hS : OkLm P w K mg base) (hM : OkLt P w K mg base) (hAll : OkLall P w K mg base) (hD : Df K mg "_law_star" s_L_star p_L_star) : Ok P w K mg base 5 "_law_star" p_L_star (PF K R_four) :=
  ok_pf hD sc_L_star (fun ds d h => by obtain ⟨_, _, _, _, _, _, rfl, _⟩ := h; rfl) fun ds d h => by
    obtain ⟨ls, back, W, A, F, L, rfl, s, rfl⟩ := h
    have b1 : Bd (W + F) 801 := s.bW.add s.bF
    have b2 : Bd (A + F) 801 := s.bA.add s.bF
    have b3 : Bd (back + (W + A)) 807 := s.cab.bd_back.add (s.bW.add s.bA)
    have b4 : Bd ((W + F) + (A + F)) 1603 := b1.add b2
    have b5 : Bd ((W + F) + (A + F) + back) 1609 := b4.add s.cab.bd_back
    have b6 : Bd ((W + F) + (A + F) + back - (back + (W + A))) 2417 := b5.sub b3
    have b7 : Bd (back + drg ls) 206 := s.cab.bd_back.add s.cab.bd_all
    refine g_unpack (v_var 1 rfl rfl) (.cons 2 (.cons 3 (.cons 4 .nil))) sc_L_star.nd ?_
    refine g_set 5 (d := qD F) ((v_call hM rfl (v_cons (v_call hS rfl (v_cons (v_call hA rfl (v_cons (v_call hA rfl (v_cons (v_var 2 rfl rfl) (v_cons (v_var 3 rfl rfl) v_nil)) ⟨W + F, A + F, rfl, b1.le (by decide), b2.le (by decide), trivial, rfl⟩) (v_cons (v_ix (v_var 0 rfl rfl) v_int) v_nil)) ⟨_, back, rfl, b4.le (by decide), s.cab.bd_back.le (by decide), trivial, rfl⟩) (v_cons (v_var 4 rfl rfl) v_nil))
      ⟨_, back + (W + A), rfl, b5.le (by decide), b3.le (by decide), trivial, rfl⟩) (v_cons (v_tup (v_cons v_int (v_cons v_int v_nil))) v_nil)) ⟨_, halfQ, rfl, b6.le (by decide), (show Bd halfQ 2 from ⟨by decide, by decide⟩).le (by decide), trivial, rfl⟩).to (congrArg qD (by have := halfQ_eq; grind))) ?_ sc_L_star.nd
    refine g_set 6 (d := qD L) ((v_call hS rfl (v_cons (v_call hA rfl (v_cons (v_ix (v_var 0 rfl rfl) v_int) (v_cons (v_call hAll rfl (v_cons (v_var 0 rfl rfl) v_nil) ⟨ls, back, rfl, s.cab, rfl⟩) v_nil)) ⟨back, drg ls, rfl, s.cab.bd_back.le (by decide), s.cab.bd_all.le (by decide), trivial, rfl⟩) (v_cons (v_var 4 rfl rfl) v_nil)) ⟨_, back + (W + A), rfl, b7.le (by decide), b3.le (by decide), trivial, rfl⟩).to (congrArg qD (by have := s.lack; grind))) ?_ sc_L_star.nd
    exact g_ret (v_tup (v_cons ((v_call hS rfl (v_cons (v_var 2 rfl rfl) (v_cons (v_var 5 rfl rfl) v_nil)) ⟨W + F, F, rfl, b1.le (by decide), s.bF.le (by decide), trivial, rfl⟩).to (congrArg qD (by grind))) (v_cons ((v_call hS rfl (v_cons (v_var 3 rfl rfl) (v_cons (v_var 5 rfl rfl) v_nil)) ⟨A + F, F, rfl, b2.le (by decide), s.bF.le (by decide), trivial, rfl⟩).to (congrArg qD (by grind))) (v_cons (v_var 5 rfl rfl) (v_cons (v_var 6 rfl rfl) v_nil)))))
/-- the law's: none where the curve has none so far west -/
def westL (R W A F L y : Rat) : Option Rat := if 0 < A - (R - y) then (if W - F * L / (A - (R - y)) < 0 then none else some (W - F * L / (A - (R - y)))) else none
def R_Least : List D → D → Prop := fun ds d => ∃ ls back W A F L x, ds = [cabD ls back, fourD W A F L, qD x] ∧ Star ls back W A F L ∧ Bd x 1900 ∧ x ≠ W ∧ d = qD (eastOf (drg ls) W A F L x)
theorem ok_L_east (hA : OkLp P w K mg base) (hS : OkLm P w K mg base) (hM : OkLt P w K mg base) (hV : OkLo P w K mg base) (hAll : OkLall P w K mg base) (hD : Df K mg "_law_east" s_L_east p_L_east) : Ok P w K mg base 5 "_law_east" p_L_east (PF K R_Least) :=
  ok_pf hD sc_L_east (fun ds d h => by obtain ⟨_, _, _, _, _, _, _, rfl, _⟩ := h; rfl) fun ds d h => by
    obtain ⟨ls, back, W, A, F, L, x, rfl, s, bx, hx, rfl⟩ := h
    refine g_set 3 (v_call hS rfl (v_cons (v_ix (v_var 1 rfl rfl) v_int) (v_cons (v_var 2 rfl rfl) v_nil)) ⟨W, x, rfl, s.bW.le (by decide), bx.le (by decide), trivial, rfl⟩) ?_ sc_L_east.nd
    exact g_ret (v_call hA rfl (v_cons (v_call hS rfl (v_cons (v_call hAll rfl (v_cons (v_var 0 rfl rfl) v_nil) ⟨ls, back, rfl, s.cab, rfl⟩) (v_cons (v_ix (v_var 1 rfl rfl) v_int) v_nil)) ⟨drg ls, A, rfl, s.cab.bd_all.le (by decide), s.bA.le (by decide), trivial, rfl⟩)
      (v_cons (v_call hV rfl (v_cons (v_call hM rfl (v_cons (v_ix (v_var 1 rfl rfl) v_int) (v_cons (v_ix (v_var 1 rfl rfl) v_int) v_nil)) ⟨F, L, rfl, s.bF.le (by decide), s.bL.le (by decide), trivial, rfl⟩)
        (v_cons (v_var 3 rfl rfl) v_nil)) ⟨F * L, W - x, rfl, (s.bF.mul s.bL).le (by decide), (s.bW.sub bx).le (by decide), sub_ne hx, rfl⟩) v_nil)) ⟨_, _, rfl, (s.cab.bd_all.sub s.bA).le (by decide), ((s.bF.mul s.bL).div (s.bW.sub bx)).le (by decide), trivial, rfl⟩)
def R_Lwest : List D → D → Prop := fun ds d => ∃ ls back W A F L y, ds = [cabD ls back, fourD W A F L, qD y] ∧ Star ls back W A F L ∧ Bd y 400 ∧ d = oqD (westL (drg ls) W A F L y)
theorem num_lt1 {a : Rat} : a.num < 1 ↔ ¬ 0 < a := by
  have := num_pos (r := a)
  constructor
  · intro h h2
    have := this.mpr h2
    omega
  · intro h
    have h3 : ¬ 0 < a.num := fun h2 => h (this.mp h2)
    omega
theorem ok_L_west (B : Bt mg) (hS : OkLm P w K mg base) (hM : OkLt P w K mg base) (hV : OkLo P w K mg base) (hAll : OkLall P w K mg base) (hD : Df K mg "_law_west" s_L_west p_L_west) : Ok P w K mg base 5 "_law_west" p_L_west (PF K R_Lwest) :=
  ok_pf hD sc_L_west (fun ds d h => by obtain ⟨_, _, _, _, _, _, _, rfl, _⟩ := h; rfl) fun ds d h => by
    obtain ⟨ls, back, W, A, F, L, y, rfl, s, by_, rfl⟩ := h
    refine g_set 3 (v_call hS rfl (v_cons (v_ix (v_var 1 rfl rfl) v_int) (v_cons (v_call hS rfl (v_cons (v_call hAll rfl (v_cons (v_var 0 rfl rfl) v_nil) ⟨ls, back, rfl, s.cab, rfl⟩) (v_cons (v_var 2 rfl rfl) v_nil)) ⟨drg ls, y, rfl, s.cab.bd_all.le (by decide), by_.le (by decide), trivial, rfl⟩) v_nil)) ⟨A, drg ls - y, rfl, s.bA.le (by decide), (s.cab.bd_all.sub by_).le (by decide), trivial, rfl⟩) ?_ sc_L_west.nd
    unfold westL
    by_cases h : 0 < A - (drg ls - y)
    · rw [if_pos h]
      refine g_ifF (PB.to (b_lt (v_ix (v_var 3 rfl rfl) v_int) v_int) (decide_eq_false (by rw [num_lt1]; exact fun z => z h))) (g_pop ?_)
      refine g_set 4 (v_call hS rfl (v_cons (v_ix (v_var 1 rfl rfl) v_int) (v_cons (v_call hV rfl (v_cons (v_call hM rfl (v_cons (v_ix (v_var 1 rfl rfl) v_int) (v_cons (v_ix (v_var 1 rfl rfl) v_int) v_nil)) ⟨F, L, rfl, s.bF.le (by decide), s.bL.le (by decide), trivial, rfl⟩)
        (v_cons (v_var 3 rfl rfl) v_nil)) ⟨F * L, _, rfl, (s.bF.mul s.bL).le (by decide), (s.bA.sub (s.cab.bd_all.sub by_)).le (by decide), by grind, rfl⟩) v_nil)) ⟨W, _, rfl, s.bW.le (by decide), ((s.bF.mul s.bL).div (s.bA.sub (s.cab.bd_all.sub by_))).le (by decide), trivial, rfl⟩) ?_ sc_L_west.nd
      have hn : ∀ a : Rat, decide (a.num < 0) = decide (a < 0) := fun a => decide_eq_decide.mpr (by rw [← Int.not_le, num_nonneg]; grind)
      by_cases h2 : W - F * L / (A - (drg ls - y)) < 0
      · rw [if_pos h2]
        exact g_ret (v_ixL (v_lst (v_cons (v_var 4 rfl rfl) (v_cons v_non v_nil))) ((v_int1 rfl B.int (v_cons ((v_lt (v_ix (v_var 4 rfl rfl) v_int) v_int).to (congrArg D.bl ((hn _).trans (decide_eq_true h2)))) v_nil)).to (d' := .int 1) rfl))
      · rw [if_neg h2]
        exact g_ret (v_ixL (v_lst (v_cons (v_var 4 rfl rfl) (v_cons v_non v_nil))) ((v_int1 rfl B.int (v_cons ((v_lt (v_ix (v_var 4 rfl rfl) v_int) v_int).to (congrArg D.bl ((hn _).trans (decide_eq_false h2)))) v_nil)).to (d' := .int 0) rfl))
    · rw [if_neg h]
      exact g_ifT (PB.to (b_lt (v_ix (v_var 3 rfl rfl) v_int) v_int) (decide_eq_true (by rw [num_lt1]; exact h))) (g_ret v_non)
def R_Lmost : List D → D → Prop := fun ds d => ∃ ls back W A F L, ds = [cabD ls back, fourD W A F L] ∧ Star ls back W A F L ∧ d = qD (mostOf W A F L)
theorem ok_L_most_west (hS : OkLm P w K mg base) (hM : OkLt P w K mg base) (hV : OkLo P w K mg base) (hD : Df K mg "_law_most_west" s_L_most_west p_L_most_west) : Ok P w K mg base 4 "_law_most_west" p_L_most_west (PF K R_Lmost) :=
  ok_pf hD sc_L_most_west (fun ds d h => by obtain ⟨_, _, _, _, _, _, rfl, _⟩ := h; rfl) fun ds d h => by
    obtain ⟨ls, back, W, A, F, L, rfl, s, rfl⟩ := h
    exact g_ret (v_call hS rfl (v_cons (v_ix (v_var 1 rfl rfl) v_int) (v_cons (v_call hV rfl (v_cons (v_call hM rfl (v_cons (v_ix (v_var 1 rfl rfl) v_int) (v_cons (v_ix (v_var 1 rfl rfl) v_int) v_nil)) ⟨F, L, rfl, s.bF.le (by decide), s.bL.le (by decide), trivial, rfl⟩)
        (v_cons (v_ix (v_var 1 rfl rfl) v_int) v_nil)) ⟨F * L, A, rfl, (s.bF.mul s.bL).le (by decide), s.bA.le (by decide), by have := s.A0; grind, rfl⟩) v_nil)) ⟨W, _, rfl, s.bW.le (by decide), ((s.bF.mul s.bL).div s.bA).le (by decide), trivial, rfl⟩)
theorem ok_L_answer (B : Bt mg) (hD : Df K mg "_law_answer" s_L_answer p_L_answer) : Ok P w K mg base 1 "_law_answer" p_L_answer (PF K R_answer) :=
  ok_pf hD sc_L_answer (fun ds d h => by obtain ⟨_, _, rfl, _⟩ := h; rfl) fun ds d h => by
    obtain ⟨p, s, rfl, rfl⟩ := h
    by_cases h : p.2 < s
    · rw [if_pos h]
      exact g_ifT (PB.to (b_lt (v_ix (v_var 0 rfl rfl) v_int) (v_var 1 rfl rfl)) (decide_eq_true h)) (g_ret v_int)
    · rw [if_neg h]
      refine g_ifF (PB.to (b_lt (v_ix (v_var 0 rfl rfl) v_int) (v_var 1 rfl rfl)) (decide_eq_false h)) (g_pop ?_)
      by_cases h2 : s ≤ p.1
      · rw [if_pos h2]
        exact g_ret (v_ixL (v_lst (v_cons v_int (v_cons v_int v_nil))) ((v_int1 rfl B.int (v_cons ((v_ge (v_ix (v_var 0 rfl rfl) v_int) (v_var 1 rfl rfl)).to (congrArg D.bl (decide_eq_true h2))) v_nil)).to (d' := .int 1) rfl))
      · rw [if_neg h2]
        exact g_ret (v_ixL (v_lst (v_cons v_int (v_cons v_int v_nil))) ((v_int1 rfl B.int (v_cons ((v_ge (v_ix (v_var 0 rfl rfl) v_int) (v_var 1 rfl rfl)).to (congrArg D.bl (decide_eq_false h2))) v_nil)).to (d' := .int 0) rfl))
end
end Ee

/-! defs that change lists and dicts of their own, or one that was handed in -/
namespace Ee
open PySem PySem.Spec PyProof.Rows L2

/-- what is known of the object at an address, whatever else is changed -/
structure Cel where
  ok : Hp → Addr → Prop
  st : ∀ {H H' : Hp} {a : Addr}, Tst H H' → H' a = H a → ok H a → ok H' a
  nn : ∀ {H : Hp} {a : Addr}, ok H a → H a ≠ none
abbrev Mem := List (Addr × Cel)
def MOk (H0 H : Hp) (m : Mem) : Prop := (∀ x ∈ m, H0 x.1 = none ∧ x.2.ok H x.1) ∧ (m.map (·.1)).Nodup
/-- a list of immutable data -/
def celL (K : PySem.W.Frag) (ds : List D) : Cel where
  ok := fun H a => ∃ xs, H a = some (.lst xs) ∧ IsA K H ds xs ∧ immA ds = true
  st := fun t e ⟨xs, h1, h2, h3⟩ => ⟨xs, by rw [e]; exact h1, h2.stay t h3, h3⟩
  nn := fun ⟨xs, h1, _⟩ z => by rw [h1] at z; cases z
/-- a purse: three ints, the second from 0 on -/
def celP : Cel where
  ok := fun H p => ∃ a b c : Int, 0 ≤ b ∧ H p = some (.lst [.int a, .int b, .int c])
  st := fun t e ⟨a, b, c, h0, h1⟩ => ⟨a, b, c, h0, by rw [e]; exact h1⟩
  nn := fun ⟨a, b, c, h0, h1⟩ z => by rw [h1] at z; cases z
/-- a dict with pairs of ints as keys -/
def celD (K : PySem.W.Frag) (ks : List (Int × Int)) (ds : List D) : Cel where
  ok := fun H a => ∃ xs, H a = some (.dT ((ks.map keyP).zip xs)) ∧ IsA K H ds xs ∧ immA ds = true ∧ ks.length = ds.length ∧ ks.Nodup
  st := fun t e ⟨xs, h1, h2, h3, h4⟩ => ⟨xs, by rw [e]; exact h1, h2.stay t h3, h3, h4⟩
  nn := fun ⟨xs, h1, _⟩ z => by rw [h1] at z; cases z
section
variable {K : PySem.W.Frag} {H0 H H' : Hp} {m m' : Mem} {σ : L2.St} {E E' : En}
theorem same_at (e : Same H H') {a : Addr} (h : H a ≠ none) : H' a = H a := by
  cases q : H a with
  | none => exact absurd q h
  | some o => exact e a o q
theorem MOk.same (e : Same H H') (h : MOk H0 H m) : MOk H0 H' m := ⟨fun x hx => ⟨(h.1 x hx).1, x.2.st (Tst.of e) (same_at e (x.2.nn (h.1 x hx).2)) (h.1 x hx).2⟩, h.2⟩
theorem MOk.sub (s : m'.Sublist m) (h : MOk H0 H m) : MOk H0 H m' := ⟨fun x hx => h.1 x (s.mem hx), h.2.sublist (s.map _)⟩
theorem MOk.nil : MOk H0 H [] := ⟨(fun _ h => nomatch h), List.nodup_nil⟩
/-- a new object -/
theorem MOk.new (h : MOk H0 H m) {p : Addr} {c : Cel} (hp : H p = none) (e : Same H H') (e0 : Same H0 H) (hc : c.ok H' p) : MOk H0 H' (m ++ [(p, c)]) := by
  refine ⟨fun x hx => ?_, ?_⟩
  · rcases List.mem_append.mp hx with hx | hx
    · exact (h.same e).1 x hx
    · have : x = (p, c) := by simpa using hx
      subst this
      exact ⟨Same.free e0 hp, hc⟩
  · rw [List.map_append, List.nodup_append]
    refine ⟨h.2, by simp, fun a ha b hb => ?_⟩
    have hb : b = p := by simpa using hb
    subst hb
    rintro rfl
    obtain ⟨x, hx, e1⟩ := List.mem_map.mp ha
    subst e1
    exact x.2.nn (h.1 x hx).2 hp
theorem mem_ix {a : Addr} {c : Cel} {k : Nat} (h : m[k]? = some (a, c)) : (a, c) ∈ m := List.mem_of_getElem? h
/-- the k-th object is changed -/
theorem MOk.put (h : MOk H0 H m) {k : Nat} {a : Addr} {c c' : Cel} (hk : m[k]? = some (a, c)) (t : Tst H H') (e : ∀ b, b ≠ a → H b ≠ none → H' b = H b) (hc : c'.ok H' a) : MOk H0 H' (m.set k (a, c')) := by
  have hl : k < m.length := (List.getElem?_eq_some_iff.mp hk).1
  have ek : m[k] = (a, c) := (List.getElem?_eq_some_iff.mp hk).2
  refine ⟨fun x hx => ?_, ?_⟩
  · obtain ⟨j, hj⟩ := List.mem_iff_getElem?.mp hx
    by_cases hjk : k = j
    · subst hjk
      rw [List.getElem?_set_self hl] at hj
      cases hj
      exact ⟨(h.1 _ (mem_ix hk)).1, hc⟩
    · rw [List.getElem?_set_ne hjk] at hj
      have hx' := mem_ix (a := x.1) (c := x.2) hj
      have hne : x.1 ≠ a := by
        intro e1
        have h1 : (m.map (·.1))[j]? = some a := by rw [List.getElem?_map, hj]; exact congrArg some e1
        have h2 : (m.map (·.1))[k]? = some a := by rw [List.getElem?_map, hk]; rfl
        have hjl : j < m.length := (List.getElem?_eq_some_iff.mp hj).1
        exact hjk (nd_ix h.2 h2 h1)
      have h3 := h.1 _ hx'
      exact ⟨h3.1, x.2.st t (e x.1 hne (x.2.nn h3.2)) h3.2⟩
  · have : (m.set k (a, c')).map (·.1) = m.map (·.1) := by
      rw [List.map_set]
      apply List.ext_getElem?
      intro j
      by_cases hjk : k = j
      · subst hjk
        rw [List.getElem?_set_self (by rw [List.length_map]; exact hl), List.getElem?_map, hk]
        rfl
      · rw [List.getElem?_set_ne hjk]
    rw [this]
    exact h.2
/-- names: what they held at the entry, or what cannot change -/
def EnvM (K : PySem.W.Frag) (H0 H : Hp) (σ : L2.St) (E : En) : Prop := σ.length = E.length ∧ ∀ (i : Nat) (d : D), E[i]? = some (some d) → ∃ v, σ[i]? = some (some v) ∧ (Is K H0 d v ∨ (imm d = true ∧ Is K H d v))
theorem EnvM.env (h : EnvM K H0 H σ E) (e : Same H0 H) : Env K H σ E := ⟨h.1, fun i d q => by
  obtain ⟨v, h1, h2⟩ := h.2 i d q
  exact ⟨v, h1, h2.elim (fun z => z.mono e) fun z => z.2⟩⟩
theorem EnvM.of (h : Env K H0 σ E) : EnvM K H0 H σ E := ⟨h.1, fun i d q => by
  obtain ⟨v, h1, h2⟩ := h.2 i d q
  exact ⟨v, h1, .inl h2⟩⟩
theorem EnvM.stay (h : EnvM K H0 H σ E) (t : Tst H H') : EnvM K H0 H' σ E := ⟨h.1, fun i d q => by
  obtain ⟨v, h1, h2⟩ := h.2 i d q
  exact ⟨v, h1, h2.imp id fun z => ⟨z.1, z.2.stay t z.1⟩⟩⟩
theorem EnvM.set (h : EnvM K H0 H σ E) (i : Nat) {d : D} {v : V} (hi : imm d = true) (hv : Is K H d v) : EnvM K H0 H (σ.set i (some v)) (E.set i (some d)) := ⟨by rw [List.length_set, List.length_set]; exact h.1, fun j d' e => by
  by_cases hij : i = j
  · subst hij
    by_cases hl : i < E.length
    · rw [List.getElem?_set_self hl] at e
      cases e
      exact ⟨v, by rw [List.getElem?_set_self (by rw [h.1]; exact hl)], .inr ⟨hi, hv⟩⟩
    · rw [List.getElem?_eq_none (by rw [List.length_set]; omega)] at e
      cases e
  · rw [List.getElem?_set_ne hij] at e
    obtain ⟨u, h1, h2⟩ := h.2 j d' e
    exact ⟨u, by rw [List.getElem?_set_ne hij]; exact h1, h2⟩⟩
theorem EnvM.weak (h : EnvM K H0 H σ E) (w : LeE E' E) : EnvM K H0 H σ E' := ⟨by rw [w.len]; exact h.1, fun i d e => h.2 i d (w.get e)⟩
/-- addresses seen as what stands there -/
inductive VW (K : PySem.W.Frag) (m : Mem) : En → En → Prop
  | nil : VW K m [] []
  | same {o : Option D} {E E' : En} : VW K m E E' → VW K m (o :: E) (o :: E')
  | lst {a : Addr} {ds : List D} {E E' : En} (k : Nat) (h : m[k]? = some (a, celL K ds)) : VW K m E E' → VW K m (some (.adr a) :: E) (some (.lst ds) :: E')
  | dic {a : Addr} {ks : List (Int × Int)} {ds : List D} {E E' : En} (k : Nat) (h : m[k]? = some (a, celD K ks ds)) : VW K m E E' → VW K m (some (.adr a) :: E) (some (.dic ks ds) :: E')
theorem VW.refl : ∀ E : En, VW K m E E
  | [] => .nil
  | _ :: E => .same (VW.refl E)
theorem env_cons {o : Option D} {s : Option V} : Env K H (s :: σ) (o :: E) ↔ (∀ d, o = some d → ∃ v, s = some v ∧ Is K H d v) ∧ Env K H σ E := by
  constructor
  · intro h
    refine ⟨fun d hd => ?_, by have := h.1; simpa using this, fun i d e => ?_⟩
    · subst hd
      obtain ⟨v, h1, h2⟩ := h.2 0 d rfl
      exact ⟨v, by simpa using h1, h2⟩
    · obtain ⟨v, h1, h2⟩ := h.2 (i + 1) d (by simpa using e)
      exact ⟨v, by simpa using h1, h2⟩
  · intro h
    refine ⟨by simp [h.2.1], fun i d e => ?_⟩
    cases i with
    | zero =>
      obtain ⟨v, h1, h2⟩ := h.1 d (by simpa using e)
      exact ⟨v, by simp [h1], h2⟩
    | succ i =>
      obtain ⟨v, h1, h2⟩ := h.2.2 i d (by simpa using e)
      exact ⟨v, by simpa using h1, h2⟩
theorem Env.view : ∀ {E E' : En} {σ : L2.St}, VW K m E E' → MOk H0 H m → Env K H σ E → Env K H σ E'
  | _, _, _, .nil, _, h => h
  | _, _, s :: σ, .same w, hm, h => by
    obtain ⟨h1, h2⟩ := env_cons.mp h
    exact env_cons.mpr ⟨h1, Env.view w hm h2⟩
  | _, _, [], .same w, hm, h => by have := h.1; simp at this
  | _, _, s :: σ, .lst k hk w, hm, h => by
    obtain ⟨h1, h2⟩ := env_cons.mp h
    refine env_cons.mpr ⟨fun d hd => ?_, Env.view w hm h2⟩
    cases hd
    obtain ⟨v, e1, e2⟩ := h1 _ rfl
    have e2 : v = .ref _ := e2
    subst e2
    obtain ⟨xs, g1, g2, _⟩ := (hm.1 _ (mem_ix hk)).2
    exact ⟨_, e1, _, xs, rfl, .inl (.inl g1), g2⟩
  | _, _, [], .lst _ _ w, hm, h => by have := h.1; simp at this
  | _, _, s :: σ, .dic k hk w, hm, h => by
    obtain ⟨h1, h2⟩ := env_cons.mp h
    refine env_cons.mpr ⟨fun d hd => ?_, Env.view w hm h2⟩
    cases hd
    obtain ⟨v, e1, e2⟩ := h1 _ rfl
    have e2 : v = .ref _ := e2
    subst e2
    obtain ⟨xs, g1, g2, _⟩ := (hm.1 _ (mem_ix hk)).2
    exact ⟨_, e1, _, xs, rfl, g1, g2⟩
  | _, _, [], .dic _ _ w, hm, h => by have := h.1; simp at this
end

/-! ### values, where lists and dicts of the def's own stand -/
/-- e is worth some d of G; the objects in m are as told -/
def ZV (S : Sx) (E : En) (m : Mem) (e : Expr) (G : D → Prop) : Prop := ∀ H0 σ H, Same H0 H → Env S.K H σ E → MOk H0 H m → ∀ Q : VK, (∀ v H' d, Same H0 H' → Tst H H' → MOk H0 H' m → G d → Is S.K H' d v → Q v H') → SE S e σ H Q
def ZVs (S : Sx) (E : En) (m : Mem) (es : List Expr) (G : List D → Prop) : Prop := ∀ H0 σ H, Same H0 H → EnvM S.K H0 H σ E → MOk H0 H m → ∀ Q : List V → Hp → Prop, (∀ vs H' ds, Same H0 H' → Tst H H' → MOk H0 H' m → G ds → IsA S.K H' ds vs → Q vs H') → SA S es σ H Q
def ZB (S : Sx) (E : En) (m : Mem) (e : Expr) (G : Bool → Prop) : Prop := ∀ H0 σ H, Same H0 H → EnvM S.K H0 H σ E → MOk H0 H m → ∀ Q : Bool → Hp → Prop, (∀ b H', Same H0 H' → Tst H H' → MOk H0 H' m → G b → Q b H') → SC S e σ H Q
/-- the same over the names of a def that changes things -/
def ZM (S : Sx) (E : En) (m : Mem) (e : Expr) (G : D → Prop) : Prop := ∀ H0 σ H, Same H0 H → EnvM S.K H0 H σ E → MOk H0 H m → ∀ Q : VK, (∀ v H' d, Same H0 H' → Tst H H' → MOk H0 H' m → G d → Is S.K H' d v → Q v H') → SE S e σ H Q
section
variable {S : Sx} {E E' : En} {m : Mem} {a b e : Expr} {es : List Expr} {d : D} {ds : List D} {pos p : Pos} {G Ga Gb : D → Prop} {GA : List D → Prop}
theorem z_v (w : VW S.K m E E') (he : PV S E' e d) : ZM S E m e (· = d) := fun H0 σ H e0 hE hm Q q => he σ H ((hE.env e0).view w hm) Q fun v H' e1 i1 => q v H' d (e0.trans e1) (Tst.of e1) (hm.same e1) rfl i1
theorem z_p (he : PV S E e d) : ZM S E m e (· = d) := z_v (VW.refl _) he
theorem ZM.imp (h : ZM S E m e G) (k : ∀ d, G d → Ga d) : ZM S E m e Ga := fun H0 σ H e0 hE hm Q q => h H0 σ H e0 hE hm Q fun v H' d a b c g i => q v H' d a b c (k d g) i
theorem zb_v {c : Bool} (w : VW S.K m E E') (he : PB S E' e c) : ZB S E m e (· = c) := fun H0 σ H e0 hE hm Q q => he σ H ((hE.env e0).view w hm) Q fun H' e1 => q c H' (e0.trans e1) (Tst.of e1) (hm.same e1) rfl
theorem zb_p {c : Bool} (he : PB S E e c) : ZB S E m e (· = c) := zb_v (VW.refl _) he
theorem zs_v (w : VW S.K m E E') (he : PVs S E' es ds) : ZVs S E m es (· = ds) := fun H0 σ H e0 hE hm Q q => he σ H ((hE.env e0).view w hm) Q fun v H' e1 i1 => q v H' ds (e0.trans e1) (Tst.of e1) (hm.same e1) rfl i1
theorem zs_p (he : PVs S E es ds) : ZVs S E m es (· = ds) := zs_v (VW.refl _) he
theorem zs_nil : ZVs S E m [] (· = []) := zs_p v_nil
theorem zs_cons (h : ZM S E m e G) (hi : ∀ d, G d → imm d = true) (hr : ZVs S E m es GA) (hs : ∀ env : PySem.Env, starEach (e :: es) env = (false, eval e env) :: starEach es env := by intro _; rfl) : ZVs S E m (e :: es) (fun ds => ∃ d r, ds = d :: r ∧ G d ∧ GA r) := fun H0 σ H e0 hE hm Q q =>
  ⟨_, fun X M => pa_cons (se_ok M) (sa_ok M) (hs _), h H0 σ H e0 hE hm _ fun v H1 d e1 t1 m1 g1 i1 => hr H0 σ H1 e1 (hE.stay t1) m1 _ fun vs H2 r e2 t2 m2 g2 i2 => q (v :: vs) H2 (d :: r) e2 (t1.trans t2) m2 ⟨d, r, rfl, g1, g2⟩ ⟨v, vs, rfl, i1.stay t2 (hi d g1), i2⟩⟩
theorem ZVs.imp {GB : List D → Prop} (h : ZVs S E m es GA) (k : ∀ ds, GA ds → GB ds) : ZVs S E m es GB := fun H0 σ H e0 hE hm Q q => h H0 σ H e0 hE hm Q fun v H' d a b c g i => q v H' d a b c (k d g) i
/-- an int -/
abbrev ZI (S : Sx) (E : En) (m : Mem) (e : Expr) (g : Int → Prop) : Prop := ZM S E m e fun d => ∃ i, d = .int i ∧ g i
theorem z_add {ga gb : Int → Prop} (ha : ZI S E m a ga) (hb : ZI S E m b gb) : ZI S E m (.BinOp a .Add b pos) (fun k => ∃ i j, ga i ∧ gb j ∧ k = i + j) := fun H0 σ H e0 hE hm Q q =>
  ⟨_, fun X M => pe_op op_add (se_ok M) (se_ok M), ha H0 σ H e0 hE hm _ fun u H1 d e1 t1 m1 g1 i1 => hb H0 σ H1 e1 (hE.stay t1) m1 _ fun v H2 d2 e2 t2 m2 g2 i2 => by
    obtain ⟨i, rfl, g1⟩ := g1
    obtain ⟨j, rfl, g2⟩ := g2
    exact ⟨i, j, i1, i2, q _ H2 (.int (i + j)) e2 (t1.trans t2) m2 ⟨_, rfl, i, j, g1, g2, rfl⟩ rfl⟩⟩
theorem z_eqI {ga gb : Int → Prop} (ha : ZI S E m a ga) (hb : ZI S E m b gb) : ZB S E m (.Compare a [.Eq] [b] pos) (fun _ => True) := fun H0 σ H e0 hE hm Q q =>
  ⟨_, fun X M => pt_cmpR op_eq (se_ok M) (se_ok M) (nomark _), ha H0 σ H e0 hE hm _ fun u H1 d e1 t1 m1 g1 i1 => hb H0 σ H1 e1 (hE.stay t1) m1 _ fun v H2 d2 e2 t2 m2 g2 i2 => by
    obtain ⟨i, rfl, g1⟩ := g1
    obtain ⟨j, rfl, g2⟩ := g2
    have i1 : u = .int i := i1
    have i2 : v = .int j := i2
    subst i1 i2
    exact ⟨rfl, _, rfl, q _ H2 e2 (t1.trans t2) m2 trivial⟩⟩
theorem z_eqV {ga gb : Int → Prop} (ha : ZI S E m a ga) (hb : ZI S E m b gb) : ZM S E m (.Compare a [.Eq] [b] pos) (fun d => ∃ c, d = .bl c) := fun H0 σ H e0 hE hm Q q =>
  ⟨_, fun X M => pe_cmpR op_eq (se_ok M) (se_ok M) (nomark _), ha H0 σ H e0 hE hm _ fun u H1 d e1 t1 m1 g1 i1 => hb H0 σ H1 e1 (hE.stay t1) m1 _ fun v H2 d2 e2 t2 m2 g2 i2 => by
    obtain ⟨i, rfl, g1⟩ := g1
    obtain ⟨j, rfl, g2⟩ := g2
    have i1 : u = .int i := i1
    have i2 : v = .int j := i2
    subst i1 i2
    exact ⟨rfl, q _ H2 (.bl _) e2 (t1.trans t2) m2 ⟨_, rfl⟩ rfl⟩⟩
/-- a tuple -/
theorem z_tup {k} (h : ZVs S E m es GA) (hl : ∀ ds, GA ds → ds.length ≤ 1000) : ZM S E m (.Tuple es k pos) (fun d => ∃ ds, d = .tup ds ∧ GA ds) := fun H0 σ H e0 hE hm Q q =>
  ⟨_, fun X M => pe_tup (sa_ok M), h H0 σ H e0 hE hm _ fun vs H1 ds e1 t1 m1 g1 i1 => ⟨by rw [← i1.len]; exact Nat.le_trans (hl ds g1) (by decide), fun p hp => q _ _ (.tup ds) (e1.trans (Same.new hp)) (t1.trans (Tst.of (Same.new hp))) (m1.same (Same.new hp)) ⟨ds, rfl, g1⟩ ⟨p, vs, rfl, .inl (.inl upd_same), i1.mono (Same.new hp)⟩⟩⟩
/-- a pure call -/
theorem z_call {n : Str} {ps : List Str} {R : List D → D → Prop} {k : Nat} (h : Ok S.P S.w S.K S.mg S.base k n ps (PF S.K R)) (hg : GlS S n) (ha : ZVs S E m (e :: es) GA) (hR : ∀ ds, GA ds → ∃ d, R ds d ∧ G d) (hk : Nat.ble k S.k = true := by rfl)
    (hdb : (n == ("__debug__" : Str)) = false := by decide) (he : St1 e es := by intro _; rfl) (hpl : NoSt es pos := by intro _; rfl) : ZM S E m (.Call (.Name n p) (e :: es) [] pos) G := fun H0 σ H e0 hE hm Q q => by
  obtain ⟨f, fd, h1, h2, h3, h4⟩ := h
  obtain ⟨P, w, K, mg, base, N, sc, fn, k'⟩ := S
  refine ⟨tCall (PF K R) [] E0 (SA ⟨P, w, K, mg, base, N, sc, fn, k'⟩ (e :: es)), fun X M => ?_, ha H0 σ H e0 hE hm _ fun vs H1 ds e1 t1 m1 g1 i1 => ?_⟩
  · have M' := M
    obtain ⟨rfl, rfl, rfl, rfl, rfl, rfl, rfl, rfl, _, hr, _⟩ := M'
    exact pe_call h4 (hr.mono (Nat.le_of_ble_eq_true hk)) hg h1 h2 h3 .nil pass0 (sa_ok M) hdb (he _) (hpl _)
  · obtain ⟨d, r1, r2⟩ := hR ds g1
    exact ⟨ds, d, by rw [List.append_nil]; exact i1, r1, fun v H2 e2 i2 => q v H2 d (e1.trans e2) (t1.trans (Tst.of e2)) (m1.same e2) r2 i2⟩
/-- [e1, .., en][e] -/
theorem z_menu {g : Int → Prop} (hl : PVs S E es ds) (hi : ZI S E m b g) (hR : ∀ i, g i → 0 ≤ i ∧ i < ds.length) (him : immA ds = true) (hlen : ds.length ≤ 1000) (hs : PlainIx b := by exact fun _ _ => rfl) : ZM S E m (.Subscript (.List es p) b pos) (fun d => d ∈ ds) := fun H0 σ H e0 hE hm Q q =>
  ⟨tOp (rIxL S.K) (SE S (.List es p)) (SE S b), fun X M => pe_ix (by rw [← M.K]; exact ix_list) (se_ok M) (se_ok M) hs, ⟨tLst (SA S es), fun X M => pe_lst (sa_ok M), hl σ H (hE.env e0) _ fun vs H1 e1 i1 => ⟨by rw [← i1.len]; exact Nat.le_trans hlen (by decide), fun l hl' => by
    have n1 : Same H1 (upd H1 l (.lst vs)) := Same.new hl'
    have hl0 : H0 l = none := Same.free (e0.trans e1) hl'
    have m1 := (hm.same e1).same n1
    have e0' : Same (upd H0 l (.lst vs)) (upd H1 l (.lst vs)) := fun b o hb => by
      by_cases hbl : b = l
      · subst hbl
        rw [upd_same] at hb ⊢
        exact hb
      · rw [upd_ne hbl] at hb ⊢
        exact (e0.trans e1) b o hb
    have m1' : MOk (upd H0 l (.lst vs)) (upd H1 l (.lst vs)) m := ⟨fun x hx => by
      have h1 := m1.1 x hx
      refine ⟨?_, h1.2⟩
      have hne : x.1 ≠ l := by
        intro z
        have := x.2.nn ((hm.same e1).1 x hx).2
        rw [z] at this
        exact this hl'
      rw [upd_ne hne]
      exact h1.1, m1.2⟩
    have hE' : EnvM S.K (upd H0 l (.lst vs)) (upd H1 l (.lst vs)) σ E := ⟨hE.1, fun i d hd => by
      obtain ⟨v, h1, h2⟩ := hE.2 i d hd
      exact ⟨v, h1, h2.imp (fun z => z.mono (Same.new hl0)) fun z => ⟨z.1, z.2.mono (e1.trans n1)⟩⟩⟩
    refine hi _ σ _ e0' hE' m1' _ fun v H2 d e2 t2 m2 g2 i2 => ?_
    obtain ⟨i, rfl, g2⟩ := g2
    have i2 : v = .int i := i2
    subst i2
    obtain ⟨h0, hn⟩ := hR i g2
    have hlt : i.toNat < ds.length := by omega
    have ed : ds[i.toNat]? = some ds[i.toNat] := List.getElem?_eq_getElem hlt
    have e00 : Same H0 H2 := (Same.new hl0).trans e2
    have t02 : Tst H H2 := ((Tst.of e1).trans (Tst.of n1)).trans t2
    have iH2 : IsA S.K H2 ds vs := ((i1.mono n1).stay t2 him)
    obtain ⟨w', w1, w2⟩ := iH2.get ed
    refine ⟨l, vs, i, w', rfl, rfl, .inl (.inl (e2 l _ upd_same)), ?_, q w' H2 ds[i.toNat] e00 t02 ⟨fun x hx => ⟨(hm.1 x hx).1, (m2.1 x hx).2⟩, hm.2⟩ (List.mem_of_getElem? ed) w2⟩
    have : i = ((i.toNat : Nat) : Int) := by omega
    rw [this]
    exact atI_nat w1⟩⟩⟩
end

/-! ### statements -/
def AccM (K : PySem.W.Frag) (H0 H : Hp) (N : En → Mem → Prop) (R : D → Mem → Prop) (T : Ends) : Prop :=
  (∀ E' m' σ' H', N E' m' → Same H0 H' → Tst H H' → EnvM K H0 H' σ' E' → MOk H0 H' m' → T.nx σ' H') ∧ ∀ d m' v H', R d m' → Same H0 H' → Tst H H' → MOk H0 H' m' → Is K H' d v → T.rt v H'
theorem AccM.mono {K : PySem.W.Frag} {H0 H H' : Hp} {N : En → Mem → Prop} {R : D → Mem → Prop} {T : Ends} (t : Tst H H') (h : AccM K H0 H N R T) : AccM K H0 H' N R T :=
  ⟨fun E' m' σ' H2 a b c => h.1 E' m' σ' H2 a b (t.trans c), fun d m' v H2 a b c => h.2 d m' v H2 a b (t.trans c)⟩
def GoM (S : Sx) (bs : List (List Stmt)) (E : En) (m : Mem) (N : En → Mem → Prop) (R : D → Mem → Prop) : Prop := ∀ H0 σ H T, Same H0 H → EnvM S.K H0 H σ E → MOk H0 H m → AccM S.K H0 H N R T → RK S bs T σ H
section
variable {S : Sx} {E E' : En} {m m' : Mem} {a b c e : Expr} {es : List Expr} {d x y : D} {ds : List D} {pos p p2 : Pos} {G Ga Gb : D → Prop} {GA : List D → Prop} {N : En → Mem → Prop} {R : D → Mem → Prop} {rest A B : List Stmt} {bs : List (List Stmt)}
theorem m_pop (h : GoM S bs E m N R) : GoM S ([] :: bs) E m N R := fun H0 σ H T e0 hE hm ha => rk_pop (h H0 σ H T e0 hE hm ha)
theorem m_end (w : LeE E' E) (s : m'.Sublist m) (h : N E' m') : GoM S [] E m N R := fun H0 σ H T e0 hE hm ha => ha.1 E' m' σ H h e0 (Tst.refl H) (hE.weak w) (hm.sub s)
theorem m_weak (w : LeE E' E) (h : GoM S bs E' m N R) : GoM S bs E m N R := fun H0 σ H T e0 hE hm ha => h H0 σ H T e0 (hE.weak w) hm ha
theorem m_ret (he : ZM S E m e G) (h : ∀ d, G d → ∃ m', m'.Sublist m ∧ R d m') : GoM S ((.Return (some e) pos :: rest) :: bs) E m N R := fun H0 σ H T e0 hE hm ha => by
  refine rk_st (t := tRet (SE S e)) (fun X M => ps_ret (se_ok M)) (he H0 σ H e0 hE hm _ fun v H1 d e1 t1 m1 g1 i1 => ?_)
  obtain ⟨m', s, r⟩ := h d g1
  exact ha.2 d m' v H1 r e1 t1 (m1.sub s) i1
theorem m_set (i : Nat) {n : Str} (he : ZM S E m e G) (h : ∀ d, G d → imm d = true ∧ GoM S (rest :: bs) (E.set i (some d)) m N R) (hnd : S.N.Nodup) (hN : S.N[i]? = some n := by rfl) (hx : Loc S.sc n := by first | exact .inl rfl | exact .inr rfl) (hf : S.fn n = true := by rfl) (hs : ∀ env : PySem.Env, swapsWith e (some (.Name n p)) pos.line env = pure false := by intro _; rfl) :
    GoM S ((.Assign [.Name n p] e pos :: rest) :: bs) E m N R := fun H0 σ H T e0 hE hm ha =>
  rk_st (fun X M => ps_set (by rw [M.N]; exact hnd) (by rw [M.N]; exact hN) (by rw [M.sc]; exact hx) (se_ok M) (hs _) (.inl (by rw [M.fn]; exact hf))) (he H0 σ H e0 hE hm _ fun v H1 d e1 t1 m1 g1 i1 => (h d g1).2 H0 _ H1 T e1 ((hE.stay t1).set i (h d g1).1 i1) m1 (ha.mono t1))
theorem m_setv (i : Nat) {n : Str} (w : VW S.K m E E') (he : PV S E' e d) (hi : imm d = true) (h : GoM S (rest :: bs) (E.set i (some d)) m N R) (hnd : S.N.Nodup) (hN : S.N[i]? = some n := by rfl) (hx : Loc S.sc n := by first | exact .inl rfl | exact .inr rfl) (hf : S.fn n = true := by rfl) (hs : ∀ env : PySem.Env, swapsWith e (some (.Name n p)) pos.line env = pure false := by intro _; rfl) :
    GoM S ((.Assign [.Name n p] e pos :: rest) :: bs) E m N R := m_set i (z_v w he) (fun d' q => by subst q; exact ⟨hi, h⟩) hnd hN hx hf hs
theorem m_setp (i : Nat) {n : Str} (he : PV S E e d) (hi : imm d = true) (h : GoM S (rest :: bs) (E.set i (some d)) m N R) (hnd : S.N.Nodup) (hN : S.N[i]? = some n := by rfl) (hx : Loc S.sc n := by first | exact .inl rfl | exact .inr rfl) (hf : S.fn n = true := by rfl) (hs : ∀ env : PySem.Env, swapsWith e (some (.Name n p)) pos.line env = pure false := by intro _; rfl) :
    GoM S ((.Assign [.Name n p] e pos :: rest) :: bs) E m N R := m_setv i (VW.refl _) he hi h hnd hN hx hf hs
theorem m_if {g : Bool → Prop} (hc : ZB S E m c g) (h : ∀ b, g b → GoM S ((cond b A B) :: rest :: bs) E m N R) : GoM S ((.If c A B pos :: rest) :: bs) E m N R := fun H0 σ H T e0 hE hm ha =>
  rk_st (fun X M => ps_if (sc_ok M) (sb_ok M) (sb_ok M)) (hc H0 σ H e0 hE hm _ fun b H1 e1 t1 m1 g1 => by
    have k := h b g1 H0 σ H1 T e1 (hE.stay t1) m1 (ha.mono t1)
    cases b with
    | true => exact iteT k
    | false => exact iteF k)
theorem m_ifTv (w : VW S.K m E E') (hc : PB S E' c true) (h : GoM S (A :: rest :: bs) E m N R) : GoM S ((.If c A B pos :: rest) :: bs) E m N R := m_if (zb_v w hc) fun b q => by subst q; exact h
theorem m_ifFv (w : VW S.K m E E') (hc : PB S E' c false) (h : GoM S (B :: rest :: bs) E m N R) : GoM S ((.If c A B pos :: rest) :: bs) E m N R := m_if (zb_v w hc) fun b q => by subst q; exact h
theorem m_ifT (hc : PB S E c true) (h : GoM S (A :: rest :: bs) E m N R) : GoM S ((.If c A B pos :: rest) :: bs) E m N R := m_if (zb_p hc) fun b q => by subst q; exact h
theorem m_ifF (hc : PB S E c false) (h : GoM S (B :: rest :: bs) E m N R) : GoM S ((.If c A B pos :: rest) :: bs) E m N R := m_if (zb_p hc) fun b q => by subst q; exact h
/-- x = [..] -/
theorem m_newL (i : Nat) {n : Str} (he : PVs S E es ds) (hi : immA ds = true) (hl : ds.length ≤ 1000) (h : ∀ a, GoM S (rest :: bs) (E.set i (some (.adr a))) (m ++ [(a, celL S.K ds)]) N R) (hnd : S.N.Nodup) (hN : S.N[i]? = some n := by rfl) (hx : Loc S.sc n := by first | exact .inl rfl | exact .inr rfl) (hf : S.fn n = true := by rfl) :
    GoM S ((.Assign [.Name n p] (.List es p2) pos :: rest) :: bs) E m N R := fun H0 σ H T e0 hE hm ha =>
  rk_st (fun X M => ps_set (by rw [M.N]; exact hnd) (by rw [M.N]; exact hN) (by rw [M.sc]; exact hx) (pe_lst (sa_ok M)) rfl (.inl (by rw [M.fn]; exact hf))) (he σ H (hE.env e0) _ fun vs H1 e1 i1 => ⟨by rw [← i1.len]; exact Nat.le_trans hl (by decide), fun l hl' => by
    have n1 : Same H1 (upd H1 l (.lst vs)) := Same.new hl'
    have n2 := e1.trans n1
    exact h l H0 _ _ T (e0.trans n2) ((hE.stay (Tst.of n2)).set i rfl rfl) ((hm.same e1).new hl' n1 (e0.trans e1) ⟨vs, upd_same, i1.mono n1, hi⟩) (ha.mono (Tst.of n2))⟩)
/-- x, y = [], e -/
theorem m_parNew (i j : Nat) {n n2 : Str} {px py pt pt2 pl : Pos} {kt k2} (he : PV S E b y) (hy0 : imm y = true) (h : ∀ a, GoM S (rest :: bs) ((E.set i (some (.adr a))).set j (some y)) (m ++ [(a, celL S.K [])]) N R) (hnd : S.N.Nodup) (hi : S.N[i]? = some n := by rfl) (hj : S.N[j]? = some n2 := by rfl) (hij : i ≠ j := by decide) (hx : S.sc.names.lookup n = some .local := by rfl) (hy : S.sc.names.lookup n2 = some .local := by rfl)
    (hw : swappedStores [.Tuple [.Name n px, .Name n2 py] kt pt] (.Tuple [.List [] pl, b] k2 pt2) (envS S.sc) = pure (some [n, n2]) := by rfl) (hst : ∀ env : PySem.Env, starEach [b] env = (false, eval b env) :: starEach [] env := by intro _; rfl) :
    GoM S ((.Assign [.Tuple [.Name n px, .Name n2 py] kt pt] (.Tuple [.List [] pl, b] k2 pt2) pos :: rest) :: bs) E m N R := fun H0 σ H T e0 hE hm ha =>
  rk_st (t := tPar i j (tCons (tLst tNil) (tCons (SE S b) tNil))) (fun X M => ps_par M.calm (by rw [M.N]; exact hnd) (by rw [M.N]; exact hi) (by rw [M.N]; exact hj) hij (by rw [M.sc]; exact hx) (by rw [M.sc]; exact hy) (pa_cons (pe_lst pa_nil) (pa_cons (se_ok M) pa_nil (hst _)) rfl) (by rw [sw_env, M.sc]; exact hw) rfl)
    (⟨Nat.zero_le _, fun l hl' => by
      have n1 : Same H (upd H l (.lst [])) := Same.new hl'
      refine he σ _ ((hE.env e0).mono n1) _ fun v H2 e2 i2 => ⟨.ref l, v, rfl, ?_⟩
      have n2 := n1.trans e2
      exact h l H0 _ _ T (e0.trans n2) (((hE.stay (Tst.of n2)).set i (d := .adr l) (v := .ref l) rfl rfl).set j hy0 i2) (hm.new hl' n2 e0 ⟨[], e2 _ _ upd_same, rfl, rfl⟩) (ha.mono (Tst.of n2))⟩)
/-- x.append(e) -/
theorem m_app (k : Nat) {l : Addr} {apos : Pos} (hm' : m[k]? = some (l, celL S.K ds)) (ho : PV S E a (.adr l)) (he : ZM S E m e G) (hi : ∀ d, G d → imm d = true) (hl : ds.length < 10000) (h : ∀ d, G d → GoM S (rest :: bs) E (m.set k (l, celL S.K (ds ++ [d]))) N R)
    (hbase : ∀ env : PySem.Env, attributeBase a "append" env (eval a env) = eval a env := by intro _; rfl)
    (hfew : ∀ env : PySem.Env, ((backTo p (starEach [e] env)).all (fun x => !x.1) && (backToKw p (keywordEach [] env)).all (fun x => x.1.isSome) && decide ([e].length + ([] : List Keyword).length + (if ([] : List Keyword).isEmpty then 0 else 1) < 30)) = true := by intro _; rfl)
    (hline : (apos.endLine == p.line) = true := by rfl) (hst : ∀ env : PySem.Env, starEach [e] env = (false, eval e env) :: starEach [] env := by intro _; rfl) (hs : ∀ env : PySem.Env, swapsWith (.Call (.Attribute a "append" apos) [e] [] p) none pos.line env = pure false := by intro _; rfl) :
    GoM S ((.Expr (.Call (.Attribute a "append" apos) [e] [] p) pos :: rest) :: bs) E m N R := fun H0 σ H T e0 hE hm ha => by
  refine rk_st (t := tDrop (tBM S.K "list" rAppend (SE S a) (tCons (SE S e) tNil))) (fun X M => by
    rw [← M.K]
    exact ps_expr (pe_bm PySem.F.plainAttrs_list PySem.F.slot_list_append PySem.F.type_list_append mt_append (se_ok M) (pa_cons (se_ok M) pa_nil (hst _)) (hbase _) (hfew _) hline (hst _) rfl) (hs _)) ?_
  refine ho σ H (hE.env e0) _ fun v H1 e1 i1 => ?_
  have i1 : v = .ref l := i1
  subst i1
  have m1 := hm.same e1
  obtain ⟨xs1, g1, _⟩ := (m1.1 _ (mem_ix hm')).2
  refine ⟨.inl ⟨rfl, xs1, .inl (.inl g1)⟩, ?_⟩
  refine he H0 σ H1 (e0.trans e1) (hE.stay (Tst.of e1)) m1 _ fun w H2 d e2 t2 m2 gd i2 => ?_
  obtain ⟨xs, g2, g3, g4⟩ := (m2.1 _ (mem_ix hm')).2
  have t3 : Tst H2 (upd H2 l (.lst (xs ++ [w]))) := Tst.upd_lst g2
  refine ⟨l, xs, w, rfl, rfl, g2, ?_, ?_⟩
  · rw [← g3.len]
    exact Nat.lt_of_lt_of_le hl (by decide)
  have hl0 : H0 l = none := (m2.1 _ (mem_ix hm')).1
  exact h d gd H0 σ _ T (Same.mut e2 hl0) (((hE.stay (Tst.of e1)).stay t2).stay t3) (m2.put hm' t3 (fun b hb _ => upd_ne hb) ⟨_, upd_same, (g3.stay t3 g4).app (IsA.one (i2.stay t3 (hi d gd))), immA_app g4 (by show (imm d && true) = true; rw [hi d gd]; rfl)⟩) (ha.mono (((Tst.of e1).trans t2).trans t3))
theorem m_appp (k : Nat) {l : Addr} {apos : Pos} (hm' : m[k]? = some (l, celL S.K ds)) (ho : PV S E a (.adr l)) (he : PV S E e d) (hi : imm d = true) (hl : ds.length < 10000) (h : GoM S (rest :: bs) E (m.set k (l, celL S.K (ds ++ [d]))) N R)
    (hbase : ∀ env : PySem.Env, attributeBase a "append" env (eval a env) = eval a env := by intro _; rfl)
    (hfew : ∀ env : PySem.Env, ((backTo p (starEach [e] env)).all (fun x => !x.1) && (backToKw p (keywordEach [] env)).all (fun x => x.1.isSome) && decide ([e].length + ([] : List Keyword).length + (if ([] : List Keyword).isEmpty then 0 else 1) < 30)) = true := by intro _; rfl)
    (hline : (apos.endLine == p.line) = true := by rfl) (hst : ∀ env : PySem.Env, starEach [e] env = (false, eval e env) :: starEach [] env := by intro _; rfl) (hs : ∀ env : PySem.Env, swapsWith (.Call (.Attribute a "append" apos) [e] [] p) none pos.line env = pure false := by intro _; rfl) :
    GoM S ((.Expr (.Call (.Attribute a "append" apos) [e] [] p) pos :: rest) :: bs) E m N R :=
  m_app k hm' ho (z_p he) (fun d' q => by subst q; exact hi) hl (fun d' q => by subst q; exact h) hbase hfew hline hst hs
/-- x[i] = e -/
theorem m_setItem (k : Nat) {l : Addr} {j : Nat} {ps : Pos} (w : VW S.K m E E') (hm' : m[k]? = some (l, celL S.K ds)) (he : PV S E' e d) (ho : PV S E a (.adr l)) (hj : PV S E b (.int (j : Int))) (hi : imm d = true) (hl : j < ds.length) (h : GoM S (rest :: bs) E (m.set k (l, celL S.K (ds.set j d))) N R)
    (hs : ∀ env : PySem.Env, swapsWithSole [.Subscript a b ps] e pos.line env = pure false := by intro _; rfl) (hw : ∀ env : PySem.Env, swappedStores [.Subscript a b ps] e env = pure none := by intro _; rfl)
    (hsub : ∀ (env : PySem.Env) v, assign (.Subscript a b ps) env v = (do let ov ← holding [v] (eval a env); let iv ← holding [v, ov] (eval b env); standAt ps; holding [v, ov, iv] (setItem ov iv v); release [v, ov, iv] []) := by intro _ _; rfl) :
    GoM S ((.Assign [.Subscript a b ps] e pos :: rest) :: bs) E m N R := fun H0 σ H T e0 hE hm ha => by
  refine rk_st (t := tAsg (SE S e) (gSub (SE S a) (SE S b) rSetL)) (fun X M => ps_asg (se_ok M) (pg_sub (se_ok M) (se_ok M) set_list (fun v => hsub _ v)) (hs _) (hw _) rfl) ?_
  refine he σ H ((hE.env e0).view w hm) _ fun v H1 e1 i1 => ho σ H1 ((hE.env e0).mono e1) _ fun u H2 e2 i2 => hj σ H2 ((hE.env e0).mono (e1.trans e2)) _ fun t H3 e3 i3 => ?_
  have i2 : u = .ref l := i2
  have i3 : t = .int (j : Int) := i3
  subst i2 i3
  have e123 := e1.trans (e2.trans e3)
  have m3 := hm.same e123
  obtain ⟨xs, g2, g3, g4⟩ := (m3.1 _ (mem_ix hm')).2
  have t3 : Tst H3 (upd H3 l (.lst (xs.set j v))) := Tst.upd_lst g2
  have hl0 : H0 l = none := (m3.1 _ (mem_ix hm')).1
  refine ⟨l, xs, (j : Int), j, rfl, rfl, g2, ?_, ?_⟩
  · unfold ixN
    rw [← g3.len]
    simp
    omega
  refine h H0 σ _ T (Same.mut (e0.trans e123) hl0) ((hE.stay (Tst.of e123)).stay t3) (m3.put hm' t3 (fun b hb _ => upd_ne hb) ⟨_, upd_same, (g3.stay t3 g4).set j ((i1.mono (e2.trans e3)).stay t3 hi), ?_⟩) (ha.mono ((Tst.of e123).trans t3))
  refine immA_of fun x hx => ?_
  rcases List.mem_or_eq_of_mem_set hx with hx | hx
  · exact immA_mem g4 hx
  · rw [hx]; exact hi
end
end Ee

/-! loops, dicts, calls of defs that change a purse; promises -/
namespace Ee
open PySem PySem.Spec PyProof.Rows L2

/-! ### targets -/
/-- known at the entry, or immutable -/
def IsM (K : PySem.W.Frag) (H0 H : Hp) (d : D) (v : V) : Prop := Is K H0 d v ∨ (imm d = true ∧ Is K H d v)
section
variable {S : Sx} {E E' : En} {tg : Expr} {es : List Expr} {d : D} {ds : List D} {js : List Nat}
theorem EnvM.setM {K : PySem.W.Frag} {H0 H : Hp} {σ : L2.St} (h : EnvM K H0 H σ E) (i : Nat) {v : V} (hv : IsM K H0 H d v) : EnvM K H0 H (σ.set i (some v)) (E.set i (some d)) := ⟨by rw [List.length_set, List.length_set]; exact h.1, fun j d' e => by
  by_cases hij : i = j
  · subst hij
    by_cases hl : i < E.length
    · rw [List.getElem?_set_self hl] at e
      cases e
      exact ⟨v, by rw [List.getElem?_set_self (by rw [h.1]; exact hl)], hv⟩
    · rw [List.getElem?_eq_none (by rw [List.length_set]; omega)] at e
      cases e
  · rw [List.getElem?_set_ne hij] at e
    obtain ⟨u, h1, h2⟩ := h.2 j d' e
    exact ⟨u, by rw [List.getElem?_set_ne hij]; exact h1, h2⟩⟩
theorem Tgs.rdM (h : Tgs S es ds E E' js) (hnd : S.N.Nodup) : ∃ t : TGs, (∀ X, Mt S X → PGs X es t) ∧ ∀ (vs : List V) (σ : L2.St) (H0 H : Hp), EnvM S.K H0 H σ E → IsA S.K H ds vs → immA ds = true → ∀ Q : L2.St → Hp → Prop, (∀ σ', EnvM S.K H0 H σ' E' → Q σ' H) → t vs σ H Q := by
  induction h with
  | nil => exact ⟨_, fun X M => pgs_nil, fun vs σ H0 H hE hv _ Q q => ⟨hv, q σ hE⟩⟩
  | @cons n pos d E E' es ds js i h hN hx hf ih =>
    obtain ⟨t, h1, h2⟩ := ih
    refine ⟨gCons (gName i) t, fun X M => pgs_cons (pg_name (by rw [M.N]; exact hnd) (by rw [M.N]; exact hN) (by rw [M.sc]; exact hx) (by rw [M.fn, M.sc]; exact hf)) (h1 X M), fun vs σ H0 H hE hv hi Q q => ?_⟩
    obtain ⟨v, r, rfl, i1, i2⟩ := hv
    have hi : imm d = true ∧ immA ds = true := by simpa [immA] using hi
    exact ⟨v, r, rfl, h2 r _ H0 H (hE.set i hi.1 i1) i2 hi.2 Q q⟩
theorem Tg.rdM (h : Tg S tg d E E' js) (hnd : S.N.Nodup) {σ : L2.St} {H0 H : Hp} {v : V} (hE : EnvM S.K H0 H σ E) (hv : Is S.K H d v) (hi : imm d = true) {Q : L2.St → Hp → Prop} (q : ∀ σ', EnvM S.K H0 H σ' E' → Q σ' H) : SG S tg v σ H Q := by
  cases h with
  | name i hN hx hf =>
    exact ⟨_, fun X M => pg_name (by rw [M.N]; exact hnd) (by rw [M.N]; exact hN) (by rw [M.sc]; exact hx) (by rw [M.fn, M.sc]; exact hf), q _ (hE.set i hi hv)⟩
  | @tup es k pos ds E E' js h =>
    obtain ⟨a, xs, rfl, h1, h2⟩ := hv
    obtain ⟨t, t1, t2⟩ := h.rdM hnd
    have hl := (h.each (envS default)).2.2
    refine ⟨gTup S.K es.length t, fun X M => ?_, a, xs, rfl, h1, by rw [← h2.len, hl], t2 xs σ H0 H hE h2 (by simpa [imm] using hi) Q q⟩
    rw [← M.K]
    exact pg_tup M.calm (t1 X M) (h.each X.env).1 (h.each X.env).2.1
end

/-! ### what makes a new list -/
def PVN (S : Sx) (E : En) (e : Expr) (ds : List D) : Prop := ∀ σ H, Env S.K H σ E → ∀ Q : VK, (∀ p xs H', H p = none → Same H H' → H' p = some (.lst xs) → IsA S.K H' ds xs → Q (.ref p) H') → SE S e σ H Q
/-- a promise that hands back a new list -/
def PN (K : PySem.W.Frag) (R : List D → List D → Prop) : Sp := fun vs H Q _ => ∃ ds es, IsA K H ds vs ∧ R ds es ∧ ∀ p xs H', H p = none → Same H H' → H' p = some (.lst xs) → IsA K H' es xs → Q (.ref p) H'
section
variable {S : Sx} {E E' : En} {m m' : Mem} {a b c e : Expr} {es : List Expr} {d x y : D} {ds : List D} {pos p p2 : Pos} {rest A B : List Stmt} {bs : List (List Stmt)}
theorem PVN.to {es : List D} (h : PVN S E e ds) (q : ds = es) : PVN S E e es := q ▸ h
theorem PVN.pv (h : PVN S E e ds) : PV S E e (.lst ds) := fun σ H hE Q q => h σ H hE Q fun p xs H' hp e1 h1 i1 => q _ H' e1 ⟨p, xs, rfl, .inl (.inl h1), i1⟩
theorem n_rev {k p3 p4 p5} (ha : PV S E a (.lst ds)) : PVN S E (.Subscript a (.Slice none none (some (.UnaryOp .USub (.Constant (.int 1) k p3) p4)) p5) pos) ds.reverse := fun σ H hE Q q =>
  ⟨tRevL S.K (SE S a), fun X M => by rw [← M.K]; exact pe_revL (se_ok M), ha σ H hE _ fun u H1 e1 i1 => by
    obtain ⟨a', xs, rfl, h1, h2⟩ := i1
    exact ⟨a', xs, rfl, h1, fun p hp => q p _ _ (Same.free e1 hp) (e1.trans (Same.new hp)) upd_same (h2.rev.mono (Same.new hp))⟩⟩
/-- a + b of two new lists -/
theorem n_cat {es : List D} (ha : PVN S E a ds) (hb : PVN S E b es) (hl : ds.length + es.length ≤ 10000) : PVN S E (.BinOp a .Add b pos) (ds ++ es) := fun σ H hE Q q =>
  ⟨_, fun X M => pe_op op_cat (se_ok M) (se_ok M), ha σ H hE _ fun l xs H1 hl1 e1 h1 i1 => hb σ H1 (hE.mono e1) _ fun k ys H2 hk e2 h2 i2 =>
    ⟨l, k, xs, ys, rfl, rfl, e2 _ _ h1, h2, by rw [← i1.len, ← i2.len]; exact Nat.le_trans hl (by decide), fun p hp => q p _ _ (Same.free (e1.trans e2) hp) ((e1.trans e2).trans (Same.new hp)) upd_same (((i1.mono e2).app i2).mono (Same.new hp))⟩⟩
/-- a + b, a a list that stands -/
theorem n_lst (h : PVs S E es ds) (hl : ds.length ≤ 1000) : PVN S E (.List es pos) ds := fun σ H hE Q q =>
  ⟨_, fun X M => pe_lst (sa_ok M), h σ H hE _ fun vs H1 e1 i1 => ⟨by rw [← i1.len]; exact Nat.le_trans hl (by decide), fun p hp => q p _ _ (Same.free e1 hp) (e1.trans (Same.new hp)) upd_same (i1.mono (Same.new hp))⟩⟩
theorem n_listOf (hg : GlS S "list") (hm : S.mg "list" = none) (ha : PVs S E [e] [.lst ds]) (he : St1 e [] := by intro _; rfl) : PVN S E (.Call (.Name "list" p) [e] [] pos) ds := fun σ H hE Q q =>
  ⟨tCB (fun xs H Q => ∃ p ys, xs = [.ref p] ∧ (SqL S.K H p ys ∨ SqT S.K H p ys) ∧ ∀ l, H l = none → Q (.ref l) (upd H l (.lst ys))) (SA S [e]), fun X M => pe_callTy (by rw [← M.K]; exact call_list_of) (show X.env.scope.names.lookup _ = _ by rw [M.sc]; exact hg) (by rw [M.mg]; exact hm) PyProof.Rows.boot_list (sa_ok M) (by decide) (by decide) (he _) rfl, ha σ H hE _ fun vs H1 e1 i1 => by
    obtain ⟨v, rfl, a', xs, rfl, h2, h3⟩ := isA1 i1
    exact ⟨a', xs, rfl, .inl h2, fun l hl => q l _ _ (Same.free e1 hl) (e1.trans (Same.new hl)) upd_same (h3.mono (Same.new hl))⟩⟩
theorem n_lc_core {α : Type} {l : List α} {g : α → D} {f : α → Option D} {tg it elt : Expr} {ifs : List Expr} {scope : Scope} {own : List (Str × Nat)} (hnd : S.N.Nodup) (hit : PV S E it (.lst (l.map g))) (hlen : l.length ≤ 1000) (ht : ∀ x ∈ l, Turn1 S E scope own tg elt ifs (g x) (f x)) {σ : L2.St} {H : Hp} (hE : Env S.K H σ E) {Q : VK}
    (q : ∀ p xs H', H p = none → Same H H' → H' p = some (.lst xs) → IsA S.K H' (l.filterMap f) xs → Q (.ref p) H') : tLc (iList S.K (SE S it)) (SG (S.blk scope) tg) (ST1 (S.blk scope) ifs) (SE (S.blk scope) elt) (own.map (·.2)) σ H Q := by
  refine hit σ H hE _ fun v H1 e1 i1 => ?_
  obtain ⟨a, xs, rfl, h1, h2⟩ := i1
  refine ⟨a, rfl, ⟨xs, h1⟩, fun Dl hD => ?_⟩
  refine lc_list (K := S.K) (a := a) (xs := xs) (fun i H' => Same H1 H' ∧ ∃ acc, H' Dl = some (.lst acc) ∧ IsA S.K H' ((l.take i).filterMap f) acc ∧ immA ((l.take i).filterMap f) = true) ⟨Same.new hD, [], upd_same, by rw [List.take_zero]; exact rfl, by rw [List.take_zero]; rfl⟩ (fun i H' _ p => Same.seq p.1 h1)
    (fun i x H' hx p => ?_) (fun H' p => ?_)
  · obtain ⟨d', hd', hi⟩ := h2.getV hx
    obtain ⟨d, hd, rfl⟩ := map_at hd'
    have hil : i < l.length := (List.getElem?_eq_some_iff.mp hd).1
    exact turn_rd (g := g) hnd hd (by omega) (ht d (List.mem_of_getElem? hd)) (hE.mono e1) hD p.1 (hi.mono p.1) p.2
  · obtain ⟨p1, acc, p2, p3, _⟩ := p
    rw [← h2.len, List.length_map, List.take_length] at p3
    exact q Dl _ H' (Same.free e1 hD) (e1.trans p1) p2 p3
theorem n_lcL {α : Type} {l : List α} {g : α → D} {f : α → Option D} {tg it elt : Expr} {ifs : List Expr} {scope : Scope} (own : List (Str × Nat)) (hnd : S.N.Nodup) (ok : BlkOk S.N S.sc scope own) (hit : PV S E it (.lst (l.map g))) (hlen : l.length ≤ 1000) (ht : ∀ x ∈ l, Turn1 S E scope own tg elt ifs (g x) (f x)) (hs : ∀ (env : PySem.Env) x, foldedSetIterable it env x = pure x := by intro _ _; rfl) :
    PVN S E (.ListComp elt [⟨tg, it, ifs, 0⟩] scope pos) (l.filterMap f) := fun σ H hE Q q =>
  ⟨tLc (iList S.K (SE S it)) (SG (S.blk scope) tg) (ST1 (S.blk scope) ifs) (SE (S.blk scope) elt) (own.map (·.2)), fun X M => by
    rw [← M.K]
    exact pe_lc M.calm (by rw [M.N]; exact hnd) (pi_list (se_ok M)) (by rw [M.N, M.sc]; exact ok) (fun s H C cl fp => sg_ok (M.blk s H C cl fp)) (fun s H C cl fp => st1_ok (M.blk s H C cl fp)) (fun s H C cl fp => se_ok (M.blk s H C cl fp)) (fun x => hs _ x), n_lc_core hnd hit hlen ht hE q⟩
theorem n_call {n : Str} {ps : List Str} {R : List D → List D → Prop} {k : Nat} {zs : List D} (h : Ok S.P S.w S.K S.mg S.base k n ps (PN S.K R)) (hg : GlS S n) (ha : PVs S E (e :: es) ds) (hR : R ds zs) (hk : Nat.ble k S.k = true := by rfl)
    (hdb : (n == ("__debug__" : Str)) = false := by decide) (he : St1 e es := by intro _; rfl) (hpl : NoSt es pos := by intro _; rfl) : PVN S E (.Call (.Name n p) (e :: es) [] pos) zs := fun σ H hE Q q => by
  obtain ⟨f, fd, h1, h2, h3, h4⟩ := h
  obtain ⟨P, w, K, mg, base, N, sc, fn, k'⟩ := S
  refine ⟨tCall (PN K R) [] E0 (SA ⟨P, w, K, mg, base, N, sc, fn, k'⟩ (e :: es)), fun X M => ?_, ha σ H hE _ fun vs H1 e1 i1 => ⟨ds, zs, by rw [List.append_nil]; exact i1, hR, fun p xs H2 hp e2 h5 i2 => q p xs H2 (Same.free e1 hp) (e1.trans e2) h5 i2⟩⟩
  have M' := M
  obtain ⟨rfl, rfl, rfl, rfl, rfl, rfl, rfl, rfl, _, hr, _⟩ := M'
  exact pe_call h4 (hr.mono (Nat.le_of_ble_eq_true hk)) hg h1 h2 h3 .nil pass0 (sa_ok M) hdb (he _) (hpl _)
/-- a block that hands back a new list -/
def GoN (S : Sx) (bs : List (List Stmt)) (E : En) (zs : List D) : Prop := ∀ σ H T, Env S.K H σ E → (∀ p xs H', H p = none → Same H H' → H' p = some (.lst xs) → IsA S.K H' zs xs → T.rt (.ref p) H') → RK S bs T σ H
theorem gn_set (i : Nat) {n : Str} {zs : List D} (he : PV S E e d) (h : GoN S (rest :: bs) (E.set i (some d)) zs) (hnd : S.N.Nodup) (hN : S.N[i]? = some n := by rfl) (hx : Loc S.sc n := by first | exact .inl rfl | exact .inr rfl) (hf : S.fn n = true := by rfl) (hs : ∀ env : PySem.Env, swapsWith e (some (.Name n p)) pos.line env = pure false := by intro _; rfl) :
    GoN S ((.Assign [.Name n p] e pos :: rest) :: bs) E zs := fun σ H T hE ha => rk_set i hE he hN hx hf hnd hs fun v H1 e1 i1 => h _ H1 T ((hE.mono e1).set i i1) fun p xs H' hp e2 => ha p xs H' (Same.free e1 hp) (e1.trans e2)
theorem gn_ret {zs : List D} (he : PVN S E e zs) : GoN S ((.Return (some e) pos :: rest) :: bs) E zs := fun σ H T hE ha => by
  refine rk_st (t := tRet (SE S e)) (fun X M => ps_ret (se_ok M)) (he σ H hE _ fun p xs H1 hp e1 h1 i1 => ?_)
  exact ha p xs H1 hp e1 h1 i1
end

/-! ### loops -/
section
variable {S : Sx} {E E' : En} {m m' : Mem} {tg it a b c e : Expr} {es : List Expr} {d x y : D} {ds : List D} {pos p p2 pr : Pos} {N : En → Mem → Prop} {R : D → Mem → Prop} {body rest A B : List Stmt} {bs : List (List Stmt)}
/-- one turn -/
def TurnM (S : Sx) (E : En) (m : Mem) (tg : Expr) (body : List Stmt) (d : D) (N : En → Mem → Prop) (R : D → Mem → Prop) : Prop := ∃ Et js, Tg S tg d E Et js ∧ GoM S [body] Et m N R
theorem m_forT {α : Type} {l : List α} {g : α → D} (I : Nat → En → Mem → Prop) (hit : PV S E it (.tup (l.map g))) (him : ∀ x ∈ l, imm (g x) = true) (hnd : S.N.Nodup) (h0 : I 0 E m) (ht : ∀ i x E m, l[i]? = some x → I i E m → TurnM S E m tg body (g x) (fun E' m' => I (i + 1) E' m') R)
    (hr : ∀ E m, I l.length E m → GoM S (rest :: bs) E m N R) (hs : ∀ (env : PySem.Env) x, foldedSetIterable it env x = pure x := by intro _ _; rfl) : GoM S ((.For tg it body [] pos :: rest) :: bs) E m N R := fun H0 σ H T e0 hE hm ha => by
  refine rk_st (t := tFor (iTup S.K (SE S it)) (SG S tg) (SB S body)) (fun X M => by rw [← M.K]; exact ps_for (by rw [M.xe]; exact PassesOwn.never) M.calm (pi_tup (se_ok M)) (sg_ok M) (sb_ok M) (fun x => hs _ x)) ?_
  refine hit σ H (hE.env e0) _ fun v H1 e1 i1 => ?_
  obtain ⟨a, xs, rfl, h1, h2⟩ := i1
  have hia : immA (l.map g) = true := immA_of fun d hd => by
    obtain ⟨x, hx, rfl⟩ := List.mem_map.mp hd
    exact him x hx
  refine ⟨a, rfl, ⟨xs, h1⟩, ?_⟩
  refine for_tup (xs := xs) (fun i σ' H' => Same H0 H' ∧ Tst H1 H' ∧ ∃ E' m', I i E' m' ∧ EnvM S.K H0 H' σ' E' ∧ MOk H0 H' m') ⟨e0.trans e1, Tst.refl _, E, m, h0, hE.stay (Tst.of e1), hm.same e1⟩ (fun i σ' H' _ q => same_t q.2.1 h1) (fun i y σ' H' hy q => ?_) (fun σ' H' q => ?_)
  · obtain ⟨q1, q2, E', m', q3, q4, q5⟩ := q
    obtain ⟨d', hd', hi⟩ := h2.getV hy
    obtain ⟨x, hx, rfl⟩ := map_at hd'
    have hxi := him x (List.mem_of_getElem? hx)
    obtain ⟨Et, js, t1, t2⟩ := ht i x E' m' hx q3
    refine t1.rdM hnd q4 (hi.stay q2 hxi) hxi fun σ2 hE2 => ?_
    exact t2 H0 σ2 H' { T with nx := fun σ' H' => Same H0 H' ∧ Tst H1 H' ∧ ∃ E' m', I (i + 1) E' m' ∧ EnvM S.K H0 H' σ' E' ∧ MOk H0 H' m', ct := _, bk := _ } q1 hE2 q5 ⟨fun E3 m3 σ3 H3 k1 k2 k5 k3 k4 => ⟨k2, q2.trans k5, E3, m3, k1, k3, k4⟩, (ha.mono ((Tst.of e1).trans q2)).2⟩
  · obtain ⟨q1, q2, E', m', q3, q4, q5⟩ := q
    rw [← h2.len, List.length_map] at q3
    exact hr E' m' q3 H0 σ' H' T q1 q4 q5 (ha.mono ((Tst.of e1).trans q2))
/-- over a new list -/
theorem m_forN {α : Type} {l : List α} {g : α → D} (hN : ∀ E m, ¬ N E m) (I : Nat → En → Mem → Prop) (w : VW S.K m E E') (hit : PVN S E' it (l.map g)) (him : ∀ x ∈ l, imm (g x) = true) (hnd : S.N.Nodup) (h0 : I 0 E m) (ht : ∀ i x E m, l[i]? = some x → I i E m → TurnM S E m tg body (g x) (fun E' m' => I (i + 1) E' m') R)
    (hr : ∀ E m, I l.length E m → GoM S (rest :: bs) E m N R) (hs : ∀ (env : PySem.Env) x, foldedSetIterable it env x = pure x := by intro _ _; rfl) : GoM S ((.For tg it body [] pos :: rest) :: bs) E m N R := fun H0 σ H T e0 hE hm ha => by
  refine rk_st (t := tFor (iList S.K (SE S it)) (SG S tg) (SB S body)) (fun X M => by rw [← M.K]; exact ps_for (by rw [M.xe]; exact PassesOwn.never) M.calm (pi_list (se_ok M)) (sg_ok M) (sb_ok M) (fun x => hs _ x)) ?_
  refine hit σ H ((hE.env e0).view w hm) _ fun a xs H1 hp e1 h1 h2 => ?_
  have hia : immA (l.map g) = true := immA_of fun d hd => by
    obtain ⟨x, hx, rfl⟩ := List.mem_map.mp hd
    exact him x hx
  have ha0 : H0 a = none := Same.free e0 hp
  have hm1 := hm.same e1
  have hna : ∀ x ∈ m, x.1 ≠ a := fun x hx z => by
    have := x.2.nn (hm.1 x hx).2
    rw [z] at this
    exact this hp
  -- the walked list among what stood
  have e0' : Same (upd H0 a (.lst xs)) H1 := fun b o hb => by
    by_cases hba : b = a
    · subst hba
      rw [upd_same] at hb
      rw [← hb]
      exact h1
    · rw [upd_ne hba] at hb
      exact (e0.trans e1) b o hb
  have back : ∀ {H' : Hp}, Same (upd H0 a (.lst xs)) H' → Same H0 H' := fun q => (Same.new ha0).trans q
  have mback : ∀ {H' : Hp} {m'' : Mem}, MOk (upd H0 a (.lst xs)) H' m'' → MOk H0 H' m'' := fun q => ⟨fun x hx => ⟨by
    have h3 := (q.1 x hx).1
    by_cases hxa : x.1 = a
    · rw [hxa]; exact ha0
    · rw [upd_ne hxa] at h3; exact h3, (q.1 x hx).2⟩, q.2⟩
  refine ⟨a, rfl, ⟨xs, .inl (.inl h1)⟩, ?_⟩
  refine for_list (xs := xs) (fun i σ' H' => Same (upd H0 a (.lst xs)) H' ∧ Tst H1 H' ∧ ∃ E' m', I i E' m' ∧ EnvM S.K (upd H0 a (.lst xs)) H' σ' E' ∧ MOk (upd H0 a (.lst xs)) H' m') ⟨e0', Tst.refl _, E, m, h0, ⟨hE.1, fun i d hd => by
      obtain ⟨v, g1, g2⟩ := hE.2 i d hd
      exact ⟨v, g1, g2.imp (fun z => z.mono (Same.new ha0)) fun z => ⟨z.1, z.2.mono e1⟩⟩⟩, ⟨fun x hx => ⟨by rw [upd_ne (hna x hx)]; exact (hm1.1 x hx).1, (hm1.1 x hx).2⟩, hm1.2⟩⟩ (fun i σ' H' _ q => .inl (.inl (q.1 a _ upd_same))) (fun i y σ' H' hy q => ?_) (fun σ' H' q => ?_)
  · obtain ⟨q1, q2, E', m', q3, q4, q5⟩ := q
    obtain ⟨d', hd', hi⟩ := h2.getV hy
    obtain ⟨x, hx, rfl⟩ := map_at hd'
    have hxi := him x (List.mem_of_getElem? hx)
    obtain ⟨Et, js, t1, t2⟩ := ht i x E' m' hx q3
    refine t1.rdM hnd q4 (hi.stay q2 hxi) hxi fun σ2 hE2 => ?_
    exact t2 _ σ2 H' { T with nx := fun σ' H' => Same (upd H0 a (.lst xs)) H' ∧ Tst H1 H' ∧ ∃ E' m', I (i + 1) E' m' ∧ EnvM S.K (upd H0 a (.lst xs)) H' σ' E' ∧ MOk (upd H0 a (.lst xs)) H' m', ct := _, bk := _ } q1 hE2 q5 ⟨fun E3 m3 σ3 H3 k1 k2 k5 k3 k4 => ⟨k2, q2.trans k5, E3, m3, k1, k3, k4⟩, fun d m3 v H3 k1 k2 k5 k3 k4 => ha.2 d m3 v H3 k1 (back k2) (((Tst.of e1).trans q2).trans k5) (mback k3) k4⟩
  · obtain ⟨q1, q2, E', m', q3, q4, q5⟩ := q
    rw [← h2.len, List.length_map] at q3
    exact hr E' m' q3 _ σ' H' T q1 q4 q5 ⟨fun E3 m3 σ3 H3 k1 k2 k5 k3 k4 => absurd k1 (hN E3 m3), fun d m3 v H3 k1 k2 k5 k3 k4 => ha.2 d m3 v H3 k1 (back k2) (((Tst.of e1).trans q2).trans k5) (mback k3) k4⟩
/-- over range(e) -/
theorem m_forR1 {g : Int → Prop} (I : Int → Nat → En → Mem → Prop) (hg : GlS S "range") (hm' : S.mg "range" = none) (ha : ZI S E m a g) (hb : ∀ n, g n → -100000 ≤ n ∧ n ≤ 100000) (hnd : S.N.Nodup) (h0 : ∀ n, g n → I n 0 E m)
    (ht : ∀ n, g n → ∀ (i : Nat) E m, (i : Int) < n → I n i E m → TurnM S E m tg body (.int (i : Int)) (fun E' m' => I n (i + 1) E' m') R) (hr : ∀ n, g n → ∀ E m, I n n.toNat E m → GoM S (rest :: bs) E m N R)
    (hs1 : ∀ env : PySem.Env, starEach [a] env = [(false, eval a env)] := by intro _; rfl) :
    GoM S ((.For tg (.Call (.Name "range" pr) [a] [] p) body [] pos :: rest) :: bs) E m N R := fun H0 σ H T e0 hE hm hacc => by
  refine rk_st (t := tFor (iRng1 (tCons (SE S a) tNil)) (SG S tg) (SB S body)) (fun X M => ps_for (by rw [M.xe]; exact PassesOwn.never) M.calm (pi_range1 (show X.env.scope.names.lookup _ = _ by rw [M.sc]; exact hg) (by rw [M.mg]; exact hm') (pa_cons (se_ok M) pa_nil (by rw [hs1]; rfl)) (hs1 _)) (sg_ok M) (sb_ok M) (fun x => rfl)) ?_
  refine ha H0 σ H e0 hE hm _ fun v H1 d e1 t1 m1 g1 i1 => ?_
  obtain ⟨n, rfl, gn⟩ := g1
  have i1 : v = .int n := i1
  subst i1
  have hbn := hb n gn
  refine ⟨n, rfl, by omega, by omega, ?_⟩
  refine for_range (lo := 0) (n := n.toNat) (fun i σ' H' => Same H0 H' ∧ Tst H1 H' ∧ ∃ E' m', I n i E' m' ∧ EnvM S.K H0 H' σ' E' ∧ MOk H0 H' m') ⟨e1, Tst.refl _, E, m, h0 n gn, hE.stay t1, m1⟩ (fun i σ' H' hi' q => ?_) (fun σ' H' q => ?_)
  · obtain ⟨q1, q2, E', m', q3, q4, q5⟩ := q
    obtain ⟨Et, js, t3, t2⟩ := ht n gn i E' m' (by omega) q3
    have e00 : (0 : Int) + (i : Int) = (i : Int) := Int.zero_add _
    rw [e00]
    refine t3.rdM hnd q4 rfl rfl fun σ2 hE2 => ?_
    exact t2 H0 σ2 H' { T with nx := fun σ' H' => Same H0 H' ∧ Tst H1 H' ∧ ∃ E' m', I n (i + 1) E' m' ∧ EnvM S.K H0 H' σ' E' ∧ MOk H0 H' m', ct := _, bk := _ } q1 hE2 q5 ⟨fun E3 m3 σ3 H3 k1 k2 k5 k3 k4 => ⟨k2, q2.trans k5, E3, m3, k1, k3, k4⟩, (hacc.mono (t1.trans q2)).2⟩
  · obtain ⟨q1, q2, E', m', q3, q4, q5⟩ := q
    exact hr n gn E' m' q3 H0 σ' H' T q1 q4 q5 (hacc.mono (t1.trans q2))
/-- over range(lo, hi), told -/
theorem m_forR2 {lo hi : Int} (I : Nat → En → Mem → Prop) (hg : GlS S "range") (hm' : S.mg "range" = none) (w : VW S.K m E E') (ha : PVs S E' [a, b] [.int lo, .int hi]) (hb : -100000 ≤ lo ∧ lo ≤ 100000 ∧ -100000 ≤ hi ∧ hi ≤ 100000) (hnd : S.N.Nodup) (h0 : I 0 E m)
    (ht : ∀ (i : Nat) E m, lo + (i : Int) < hi → I i E m → TurnM S E m tg body (.int (lo + (i : Int))) (fun E' m' => I (i + 1) E' m') R) (hr : ∀ E m, I (hi - lo).toNat E m → GoM S (rest :: bs) E m N R)
    (hs1 : ∀ env : PySem.Env, starEach [a, b] env = [(false, eval a env), (false, eval b env)] := by intro _; rfl) (hs2 : ∀ env : PySem.Env, starEach [b] env = [(false, eval b env)] := by intro _; rfl) :
    GoM S ((.For tg (.Call (.Name "range" pr) [a, b] [] p) body [] pos :: rest) :: bs) E m N R := fun H0 σ H T e0 hE hm hacc => by
  refine rk_st (t := tFor (iRng2 (SA S [a, b])) (SG S tg) (SB S body)) (fun X M => ps_for (by rw [M.xe]; exact PassesOwn.never) M.calm (pi_range2 (show X.env.scope.names.lookup _ = _ by rw [M.sc]; exact hg) (by rw [M.mg]; exact hm') (sa_ok M) (hs1 _) (hs2 _)) (sg_ok M) (sb_ok M) (fun x => rfl)) ?_
  refine ha σ H ((hE.env e0).view w hm) _ fun vs H1 e1 i1 => ?_
  obtain ⟨v, v', rfl, i2, i3⟩ := isA2 i1
  have i2 : v = .int lo := i2
  have i3 : v' = .int hi := i3
  subst i2 i3
  refine ⟨lo, hi, rfl, ⟨by omega, by omega, by omega, by omega⟩, ?_⟩
  refine for_range (lo := lo) (n := (hi - lo).toNat) (fun i σ' H' => Same H0 H' ∧ Tst H1 H' ∧ ∃ E' m', I i E' m' ∧ EnvM S.K H0 H' σ' E' ∧ MOk H0 H' m') ⟨e0.trans e1, Tst.refl _, E, m, h0, hE.stay (Tst.of e1), hm.same e1⟩ (fun i σ' H' hi' q => ?_) (fun σ' H' q => ?_)
  · obtain ⟨q1, q2, E', m', q3, q4, q5⟩ := q
    obtain ⟨Et, js, t3, t2⟩ := ht i E' m' (by omega) q3
    refine t3.rdM hnd q4 rfl rfl fun σ2 hE2 => ?_
    exact t2 H0 σ2 H' { T with nx := fun σ' H' => Same H0 H' ∧ Tst H1 H' ∧ ∃ E' m', I (i + 1) E' m' ∧ EnvM S.K H0 H' σ' E' ∧ MOk H0 H' m', ct := _, bk := _ } q1 hE2 q5 ⟨fun E3 m3 σ3 H3 k1 k2 k5 k3 k4 => ⟨k2, q2.trans k5, E3, m3, k1, k3, k4⟩, (hacc.mono ((Tst.of e1).trans q2)).2⟩
  · obtain ⟨q1, q2, E', m', q3, q4, q5⟩ := q
    exact hr E' m' q3 H0 σ' H' T q1 q4 q5 (hacc.mono ((Tst.of e1).trans q2))
end

/-! ### dicts with pairs of ints as keys -/
theorem keyP_inj {p q : Int × Int} (h : keyP p = keyP q) : p = q := by
  unfold keyP at h
  simp at h
  exact Prod.ext h.1 h.2
/-- what is there -/
def lk : List (Int × Int) → List D → Int × Int → Option D
  | k :: ks, d :: ds, j => if k = j then some d else lk ks ds j
  | _, _, _ => none
def pk : List (Int × Int) → Int × Int → List (Int × Int)
  | [], j => [j]
  | k :: ks, j => if k = j then k :: ks else k :: pk ks j
def pd : List (Int × Int) → List D → Int × Int → D → List D
  | [], _, _, x => [x]
  | k :: ks, d :: ds, j, x => if k = j then x :: ds else d :: pd ks ds j x
  | _ :: _, [], _, _ => []
theorem pk_len : ∀ {ks : List (Int × Int)} {ds : List D} {j : Int × Int} {x : D}, ks.length = ds.length → (pk ks j).length = (pd ks ds j x).length
  | [], ds, j, x, _ => rfl
  | k :: ks, [], j, x, h => by simp at h
  | k :: ks, d :: ds, j, x, h => by
    unfold pk pd
    split
    · simpa using h
    · simpa using pk_len (by simpa using h)
theorem lk_put : ∀ {ks : List (Int × Int)} {ds : List D} {j : Int × Int} {x : D} (i : Int × Int), ks.length = ds.length → lk (pk ks j) (pd ks ds j x) i = if i = j then some x else lk ks ds i
  | [], ds, j, x, i, h => by
    have : ds = [] := by simpa using h.symm
    subst this
    show (if j = i then some x else lk [] [] i) = _
    by_cases hij : i = j
    · rw [if_pos hij.symm, if_pos hij]
    · rw [if_neg (fun z => hij z.symm), if_neg hij]
  | k :: ks, [], j, x, i, h => by simp at h
  | k :: ks, d :: ds, j, x, i, h => by
    have ih := lk_put (ks := ks) (ds := ds) (j := j) (x := x) i (by simpa using h)
    unfold pk pd
    by_cases hkj : k = j
    · rw [if_pos hkj, if_pos hkj]
      show (if k = i then some x else lk ks ds i) = if i = j then some x else (if k = i then some d else lk ks ds i)
      by_cases hij : i = j
      · rw [if_pos hij, if_pos (hkj.trans hij.symm)]
      · rw [if_neg hij, if_neg (fun z => hij (z.symm.trans hkj)), if_neg (fun z => hij (z.symm.trans hkj))]
    · rw [if_neg hkj, if_neg hkj]
      show (if k = i then some d else lk (pk ks j) (pd ks ds j x) i) = if i = j then some x else (if k = i then some d else lk ks ds i)
      rw [ih]
      by_cases hki : k = i
      · rw [if_pos hki, if_pos hki, if_neg (fun z => hkj (hki.trans z))]
      · rw [if_neg hki, if_neg hki]
theorem valV_zip : ∀ {ks : List (Int × Int)} {xs : List V} {ds : List D} {K : PySem.W.Frag} {H : Hp} {j : Int × Int} {d : D}, IsA K H ds xs → lk ks ds j = some d → ∃ v, valV ((ks.map keyP).zip xs) (keyP j) = some v ∧ Is K H d v
  | [], xs, ds, K, H, j, d, h, e => by cases ds <;> cases e
  | k :: ks, xs, [], K, H, j, d, h, e => by cases e
  | k :: ks, xs, d0 :: ds, K, H, j, d, h, e => by
    obtain ⟨x, r, rfl, h1, h2⟩ := h
    have e : (if k = j then some d0 else lk ks ds j) = some d := e
    by_cases hkj : k = j
    · rw [if_pos hkj] at e
      cases e
      exact ⟨x, valV_pos (p := (keyP k, x)) (by rw [hkj]), h1⟩
    · rw [if_neg hkj] at e
      obtain ⟨v, g1, g2⟩ := valV_zip (ks := ks) h2 e
      refine ⟨v, ?_, g2⟩
      show valV ((keyP k, x) :: (ks.map keyP).zip r) (keyP j) = some v
      rw [valV_neg (p := (keyP k, x)) (fun z => hkj (keyP_inj z))]
      exact g1
theorem putK_zip : ∀ {ks : List (Int × Int)} {xs : List V} {ds : List D} {K : PySem.W.Frag} {H : Hp} {j : Int × Int} {d : D} {v : V}, IsA K H ds xs → ks.length = ds.length → (ks : List (Int × Int)).Nodup → Is K H d v → ∃ ys, putK ((ks.map keyP).zip xs) (keyP j) v = ((pk ks j).map keyP).zip ys ∧ IsA K H (pd ks ds j d) ys := by
  have any_mem : ∀ (ks : List (Int × Int)) (xs : List V) (j : Int × Int), ks.length = xs.length → ((((ks.map keyP).zip xs).any fun kv => decide (kv.1 = keyP j)) = true ↔ j ∈ ks) := by
    intro ks
    induction ks with
    | nil => intro xs j _; simp
    | cons k ks ih =>
      intro xs j hl
      cases xs with
      | nil => simp at hl
      | cons x xs =>
        have := ih xs j (by simpa using hl)
        rw [List.map_cons, List.zip_cons_cons, List.any_cons, Bool.or_eq_true, this, List.mem_cons]
        constructor
        · rintro (h | h)
          · exact .inl (keyP_inj (of_decide_eq_true h)).symm
          · exact .inr h
        · rintro (h | h)
          · exact .inl (decide_eq_true (by rw [h]))
          · exact .inr h
  have app : ∀ (ks : List (Int × Int)) (xs : List V) (ds : List D) (K : PySem.W.Frag) (H : Hp) (j : Int × Int) (d : D) (v : V), IsA K H ds xs → ks.length = ds.length → j ∉ ks → Is K H d v → (ks.map keyP).zip xs ++ [(keyP j, v)] = ((pk ks j).map keyP).zip (xs ++ [v]) ∧ IsA K H (pd ks ds j d) (xs ++ [v]) := by
    intro ks
    induction ks with
    | nil =>
      intro xs ds K H j d v h hl _ hv
      have : ds = [] := by simpa using hl.symm
      subst this
      have h : xs = [] := h
      subst h
      exact ⟨rfl, v, [], rfl, hv, rfl⟩
    | cons k ks ih =>
      intro xs ds K H j d v h hl hj hv
      cases ds with
      | nil => simp at hl
      | cons d0 ds =>
        obtain ⟨x, r, rfl, h1, h2⟩ := h
        have hne : k ≠ j := fun z => hj (by rw [z]; exact List.mem_cons_self)
        obtain ⟨g1, g2⟩ := ih r ds K H j d v h2 (by simpa using hl) (fun z => hj (List.mem_cons_of_mem _ z)) hv
        unfold pk pd
        rw [if_neg hne, if_neg hne]
        refine ⟨?_, x, r ++ [v], rfl, h1, g2⟩
        rw [List.map_cons, List.map_cons, List.zip_cons_cons, List.cons_append, g1]
        rfl
  have mp : ∀ (ks : List (Int × Int)) (xs : List V) (ds : List D) (K : PySem.W.Frag) (H : Hp) (j : Int × Int) (d : D) (v : V), IsA K H ds xs → ks.length = ds.length → ks.Nodup → j ∈ ks → Is K H d v → ∃ ys, ((ks.map keyP).zip xs).map (fun kv => if kv.1 = keyP j then (kv.1, v) else kv) = ((pk ks j).map keyP).zip ys ∧ IsA K H (pd ks ds j d) ys := by
    intro ks
    induction ks with
    | nil => intro xs ds K H j d v _ _ _ hj; cases hj
    | cons k ks ih =>
      intro xs ds K H j d v h hl hn hj hv
      cases ds with
      | nil => simp at hl
      | cons d0 ds =>
        obtain ⟨x, r, rfl, h1, h2⟩ := h
        have hn' := List.nodup_cons.mp hn
        by_cases hkj : k = j
        · subst hkj
          unfold pk pd
          rw [if_pos rfl, if_pos rfl]
          refine ⟨v :: r, ?_, v, r, rfl, hv, h2⟩
          rw [List.map_cons, List.zip_cons_cons, List.map_cons, if_pos rfl, List.zip_cons_cons]
          congr 1
          have : ∀ (l : List (Int × Int)) (r : List V), k ∉ l → ((l.map keyP).zip r).map (fun kv => if kv.1 = keyP k then (kv.1, v) else kv) = (l.map keyP).zip r := by
            intro l
            induction l with
            | nil => intro r _; rfl
            | cons a l ih2 =>
              intro r hk
              cases r with
              | nil => rfl
              | cons y r =>
                rw [List.map_cons, List.zip_cons_cons, List.map_cons, if_neg (fun z => hk (by rw [← keyP_inj z]; exact List.mem_cons_self)), ih2 r (fun z => hk (List.mem_cons_of_mem _ z))]
          exact this ks r hn'.1
        · have hj' : j ∈ ks := by
            rcases List.mem_cons.mp hj with z | z
            · exact absurd z.symm hkj
            · exact z
          obtain ⟨ys, g1, g2⟩ := ih r ds K H j d v h2 (by simpa using hl) hn'.2 hj' hv
          unfold pk pd
          rw [if_neg hkj, if_neg hkj]
          refine ⟨x :: ys, ?_, x, ys, rfl, h1, g2⟩
          rw [List.map_cons, List.zip_cons_cons, List.map_cons, if_neg (fun z => hkj (keyP_inj z)), g1, List.map_cons, List.zip_cons_cons]
  intro ks xs ds K H j d v h hl hn hv
  unfold putK
  by_cases hj : j ∈ ks
  · rw [if_pos ((any_mem ks xs j (by rw [hl, h.len])).mpr hj)]
    exact mp ks xs ds K H j d v h hl hn hj hv
  · rw [if_neg (fun z => hj ((any_mem ks xs j (by rw [hl, h.len])).mp z))]
    exact ⟨_, app ks xs ds K H j d v h hl hj hv⟩
theorem pk_mem : ∀ {ks : List (Int × Int)} {j i : Int × Int}, i ∈ pk ks j ↔ i = j ∨ i ∈ ks
  | [], j, i => by simp [pk]
  | k :: ks, j, i => by
    unfold pk
    by_cases hkj : k = j
    · rw [if_pos hkj]
      constructor
      · exact .inr
      · rintro (h | h)
        · rw [h, ← hkj]; exact List.mem_cons_self
        · exact h
    · rw [if_neg hkj, List.mem_cons, pk_mem (ks := ks), List.mem_cons]
      constructor
      · rintro (h | h | h)
        · exact .inr (.inl h)
        · exact .inl h
        · exact .inr (.inr h)
      · rintro (h | h | h)
        · exact .inr (.inl h)
        · exact .inl h
        · exact .inr (.inr h)
theorem pk_nodup : ∀ {ks : List (Int × Int)} {j : Int × Int}, ks.Nodup → (pk ks j).Nodup
  | [], j, _ => by simp [pk]
  | k :: ks, j, h => by
    obtain ⟨h1, h2⟩ := List.nodup_cons.mp h
    unfold pk
    by_cases hkj : k = j
    · rw [if_pos hkj]; exact h
    · rw [if_neg hkj]
      refine List.nodup_cons.mpr ⟨fun z => ?_, pk_nodup h2⟩
      rcases pk_mem.mp z with z | z
      · exact hkj z
      · exact h1 z
end Ee

/-! dicts made and filled; promises of defs that change things; the purse -/
namespace Ee
open PySem PySem.Spec PyProof.Rows L2
theorem Mt.u1 {S : Sx} {X : Cx} (M : Mt S X) : X.A.units + 1 < cLine := hu_of M.room
section
variable {S : Sx} {E E' : En} {m m' : Mem} {a b c e : Expr} {es : List Expr} {d x y : D} {ds : List D} {pos p p2 : Pos} {N : En → Mem → Prop} {R : D → Mem → Prop} {rest A B : List Stmt} {bs : List (List Stmt)}
/-- x = {} -/
theorem m_newD (i : Nat) {n : Str} (h : ∀ a, GoM S (rest :: bs) (E.set i (some (.adr a))) (m ++ [(a, celD S.K [] [])]) N R) (hnd : S.N.Nodup) (hN : S.N[i]? = some n := by rfl) (hx : Loc S.sc n := by first | exact .inl rfl | exact .inr rfl) (hf : S.fn n = true := by rfl) :
    GoM S ((.Assign [.Name n p] (.Dict [] [] p2) pos :: rest) :: bs) E m N R := fun H0 σ H T e0 hE hm ha =>
  rk_st (t := tAsg tDNewT (gName i)) (fun X M => ps_set (by rw [M.N]; exact hnd) (by rw [M.N]; exact hN) (by rw [M.sc]; exact hx) pe_dnewT rfl (.inl (by rw [M.fn]; exact hf))) (fun l hl' => by
    have n1 : Same H (upd H l (.dT [])) := Same.new hl'
    exact h l H0 _ _ T (e0.trans n1) ((hE.stay (Tst.of n1)).set i (d := .adr l) (v := .ref l) rfl rfl) (hm.new hl' n1 e0 ⟨[], upd_same, rfl, rfl, rfl, List.nodup_nil⟩) (ha.mono (Tst.of n1)))
/-- x[k] = e -/
theorem m_dput (k : Nat) {l : Addr} {j : Int × Int} {ks : List (Int × Int)} {ps : Pos} (w : VW S.K m E E') (hm' : m[k]? = some (l, celD S.K ks ds)) (he : PV S E' e d) (ho : PV S E a (.adr l)) (hj : PV S E' b (.ktup [.int j.1, .int j.2])) (hi : imm d = true) (hl : ds.length < 10000) (h : GoM S (rest :: bs) E (m.set k (l, celD S.K (pk ks j) (pd ks ds j d))) N R)
    (hs : ∀ env : PySem.Env, swapsWith e (some (.Subscript a b ps)) pos.line env = pure false := by intro _; rfl) :
    GoM S ((.Assign [.Subscript a b ps] e pos :: rest) :: bs) E m N R := fun H0 σ H T e0 hE hm ha => by
  refine rk_st (t := sDPut (SE S a) (SE S b) (SE S e)) (fun X M => ps_dput M.u1 (se_ok M) (se_ok M) (se_ok M) (hs _)) ?_
  refine he σ H ((hE.env e0).view w hm) _ fun v H1 e1 i1 => ho σ H1 ((hE.env e0).mono e1) _ fun u H2 e2 i2 => hj σ H2 (((hE.env e0).view w hm).mono (e1.trans e2)) _ fun t H3 e3 i3 => ?_
  have i2 : u = .ref l := i2
  subst i2
  obtain ⟨t, ts, rfl, t1, t2⟩ := i3
  obtain ⟨t3, t4, rfl, t5, t6⟩ := isA2 t2
  have t5 : t3 = .int j.1 := t5
  have t6 : t4 = .int j.2 := t6
  subst t5 t6
  have e123 := e1.trans (e2.trans e3)
  have m3 := hm.same e123
  obtain ⟨xs, g2, g3, g4, g5, g6⟩ := (m3.1 _ (mem_ix hm')).2
  have i1' : Is S.K H3 d v := i1.mono (e2.trans e3)
  obtain ⟨ys, y1, y2⟩ := putK_zip (j := j) g3 g5 g6 i1'
  have hlen : ((ks.map keyP).zip xs).length < sizeLine := by
    rw [List.length_zip, List.length_map, ← g3.len, g5, Nat.min_self]
    exact Nat.lt_of_lt_of_le hl (by decide)
  have t7 : Tst H3 (upd H3 l (.dT (putK ((ks.map keyP).zip xs) (keyP j) v))) := Tst.upd_dT g2
  have hl0 : H0 l = none := (m3.1 _ (mem_ix hm')).1
  refine ⟨l, _, rfl, DPut.t (k := keyP j) g2 t1 hlen, ?_⟩
  refine h H0 σ _ T (Same.mut (e0.trans e123) hl0) ((hE.stay (Tst.of e123)).stay t7) (m3.put hm' t7 (fun b hb _ => upd_ne hb) ⟨ys, by rw [upd_same, y1], y2.stay t7 ?_, ?_, pk_len g5, pk_nodup g6⟩) (ha.mono ((Tst.of e123).trans t7))
  all_goals
    refine immA_of fun z hz => ?_
    have : ∀ (ks : List (Int × Int)) (ds : List D), immA ds = true → z ∈ pd ks ds j d → imm z = true := by
      intro ks
      induction ks with
      | nil =>
        intro ds _ hz
        have : z = d := by simpa [pd] using hz
        rw [this]; exact hi
      | cons k ks ih =>
        intro ds h4 hz
        cases ds with
        | nil => simp [pd] at hz
        | cons d0 ds =>
          have h4 : imm d0 = true ∧ immA ds = true := by simpa [immA] using h4
          unfold pd at hz
          split at hz
          · rcases List.mem_cons.mp hz with z1 | z1
            · rw [z1]; exact hi
            · exact immA_mem h4.2 z1
          · rcases List.mem_cons.mp hz with z1 | z1
            · rw [z1]; exact h4.1
            · exact ih ds h4.2 z1
    exact this ks ds g4 hz
/-- o[k] -/
theorem v_dget {ks : List (Int × Int)} {j : Int × Int} (ho : PV S E a (.dic ks ds)) (hj : PV S E b (.ktup [.int j.1, .int j.2])) (h : lk ks ds j = some d) (hs : NoSl b := by exact fun _ _ => rfl) : PV S E (.Subscript a b pos) d := fun σ H hE Q q =>
  ⟨tDGet (SE S a) (SE S b), fun X M => pe_dget M.u1 (se_ok M) (se_ok M) hs, ho σ H hE _ fun u H1 e1 i1 => hj σ H1 (hE.mono e1) _ fun t H2 e2 i2 => by
    obtain ⟨a', xs, rfl, h1, h2⟩ := i1.mono e2
    obtain ⟨t, ts, rfl, t1, t2⟩ := i2
    obtain ⟨t3, t4, rfl, t5, t6⟩ := isA2 t2
    have t5 : t3 = .int j.1 := t5
    have t6 : t4 = .int j.2 := t6
    subst t5 t6
    obtain ⟨v, g1, g2⟩ := valV_zip h2 h
    exact ⟨a', v, rfl, by rw [← g1]; exact DGet.t (k := keyP j) h1 t1, q v H2 (e1.trans e2) g2⟩⟩
end

/-! ### promises -/
section
variable {P : Program} {w : World} {K : PySem.W.Frag} {mg : Str → Option Value} {base : Heap}
/-- a pure promise of a def that changes what it made -/
theorem ok_pfm {x : Str} {st : Stmt} {N ps : List Str} {k : Nat} {R : List D → D → Prop} (hD : Df K mg x st ps) (S : FnScope N ps (defScope st)) (hl : ∀ ds d, R ds d → ds.length = ps.length)
    (hb : ∀ ds d, R ds d → GoM (sx P w K mg base N st k) [defBody st] (ini N ds) [] (fun _ _ => False) (fun d' _ => d' = d)) : Ok P w K mg base (k + 1) x ps (PF K R) :=
  ok_sp hD S (fun vs H Q E h => by
    obtain ⟨ds, d, h1, h2, _⟩ := h
    rw [← h1.len]
    exact hl ds d h2) fun vs H Q E h => by
    obtain ⟨ds, d, h1, h2, h3⟩ := h
    exact hb ds d h2 H _ H _ (Same.refl H) (EnvM.of (env_start h1)) MOk.nil ⟨fun _ _ _ _ z => z.elim, fun d' m' v H' e s _ _ i => by
      subst e
      exact h3 v H' s i⟩
/-- one that hands back a new list -/
theorem ok_pn {x : Str} {st : Stmt} {N ps : List Str} {k : Nat} {R : List D → List D → Prop} (hD : Df K mg x st ps) (S : FnScope N ps (defScope st)) (hl : ∀ ds d, R ds d → ds.length = ps.length)
    (hb : ∀ ds zs, R ds zs → GoN (sx P w K mg base N st k) [defBody st] (ini N ds) zs) : Ok P w K mg base (k + 1) x ps (PN K R) :=
  ok_sp hD S (fun vs H Q E h => by
    obtain ⟨ds, d, h1, h2, _⟩ := h
    rw [← h1.len]
    exact hl ds d h2) fun vs H Q E h => by
    obtain ⟨ds, zs, h1, h2, h3⟩ := h
    exact hb ds zs h2 _ H _ (env_start h1) h3
/-- the first argument is a purse, which is changed; the value is one of G -/
def PP (K : PySem.W.Frag) (R : List D → (D → Prop) → Prop) : Sp := fun vs H Q _ => ∃ a ds us G, vs = .ref a :: us ∧ IsA K H ds us ∧ immA ds = true ∧ celP.ok H a ∧ R ds G ∧ ∀ v H' d, (∀ b o, b ≠ a → H b = some o → H' b = some o) → celP.ok H' a → G d → Is K H' d v → Q v H'
def hid (H : Hp) (a : Addr) : Hp := fun b => if b = a then none else H b
theorem hid_same (H : Hp) (a : Addr) : Same (hid H a) H := fun b o h => by
  unfold hid at h
  split at h
  · cases h
  · exact h
theorem hid_tst {H : Hp} {a : Addr} {xs : List V} (h : H a = some (.lst xs)) : Tst H (hid H a) := by
  have k : ∀ b o, H b = some o → o ≠ .lst xs → hid H a b = some o := fun b o q ho => by
    unfold hid
    rw [if_neg]
    · exact q
    · rintro rfl
      rw [h] at q
      exact ho (Option.some.inj q).symm
  exact ⟨fun b ys q => k b _ q (fun z => nomatch z), fun b o u q => k b _ q (fun z => nomatch z)⟩
/-- .. by its body -/
theorem ok_pp {x : Str} {st : Stmt} {N ps : List Str} {k : Nat} {R : List D → (D → Prop) → Prop} (hD : Df K mg x st ps) (S : FnScope N ps (defScope st)) (hl : ∀ ds G, R ds G → ds.length + 1 = ps.length)
    (hb : ∀ ds G, R ds G → ∀ a, GoM (sx P w K mg base N st k) [defBody st] (ini N (.adr a :: ds)) [(a, celP)] (fun _ _ => False) (fun d' m' => G d' ∧ m' = [(a, celP)])) : Ok P w K mg base (k + 1) x ps (PP K R) :=
  ok_sp hD S (fun vs H Q E h => by
    obtain ⟨a, ds, us, G, rfl, h1, _, _, h2, _⟩ := h
    rw [List.length_cons, ← h1.len]
    exact hl ds G h2) fun vs H Q E h => by
    obtain ⟨a, ds, us, G, rfl, h1, hi, hc, h2, h3⟩ := h
    have hc' := hc
    obtain ⟨i1, i2, i3, _, hp⟩ := hc'
    have tst := hid_tst (H := H) (a := a) hp
    have h1' : IsA K (hid H a) (.adr a :: ds) (.ref a :: us) := ⟨_, us, rfl, rfl, h1.stay tst hi⟩
    refine hb ds G h2 a (hid H a) _ H _ (hid_same H a) (EnvM.of (env_start h1')) ⟨fun z hz => ?_, by simp⟩ ⟨fun _ _ _ _ z => z.elim, fun d' m' v H' ⟨gd, em⟩ s _ mo i => ?_⟩
    · have : z = (a, celP) := by simpa using hz
      subst this
      exact ⟨if_pos rfl, hc⟩
    · subst em
      refine h3 v H' d' (fun b o hb' hbo => s b o ?_) (mo.1 (a, celP) (by simp)).2 gd i
      unfold hid
      rw [if_neg hb']
      exact hbo
end
section
variable {S : Sx} {E E' : En} {m m' : Mem} {a b c e : Expr} {es : List Expr} {d x y : D} {ds : List D} {pos p p2 : Pos} {G : D → Prop} {GA : List D → Prop}
/-- a call of such a def with the purse at the k-th place -/
theorem z_callP {n : Str} {ps : List Str} {R : List D → (D → Prop) → Prop} {lv : Nat} {l : Addr} (k : Nat) (h : Ok S.P S.w S.K S.mg S.base lv n ps (PP S.K R)) (hg : GlS S n) (hm' : m[k]? = some (l, celP)) (ha : PV S E a (.adr l)) (hz : ZVs S E m es GA) (hi : ∀ ds, GA ds → immA ds = true) (hR : ∀ ds, GA ds → R ds G) (hk : Nat.ble lv S.k = true := by rfl)
    (hdb : (n == ("__debug__" : Str)) = false := by decide) (he : St1 a es := by intro _; rfl) (hpl : NoSt es pos := by intro _; rfl) : ZM S E m (.Call (.Name n p) (a :: es) [] pos) G := fun H0 σ H e0 hE hm Q q => by
  obtain ⟨f, fd, h1, h2, h3, h4⟩ := h
  obtain ⟨P, w, K, mg, base, N, sc, fn, k'⟩ := S
  refine ⟨tCall (PP K R) [] E0 (tCons (SE ⟨P, w, K, mg, base, N, sc, fn, k'⟩ a) (SA ⟨P, w, K, mg, base, N, sc, fn, k'⟩ es)), fun X M => ?_, ha σ H (hE.env e0) _ fun v H1 e1 i1 => ?_⟩
  · have M' := M
    obtain ⟨rfl, rfl, rfl, rfl, rfl, rfl, rfl, rfl, _, hr, _⟩ := M'
    exact pe_call h4 (hr.mono (Nat.le_of_ble_eq_true hk)) hg h1 h2 h3 .nil pass0 (pa_cons (se_ok M) (sa_ok M) (he _)) hdb (he _) (hpl _)
  have i1 : v = .ref l := i1
  subst i1
  refine hz H0 σ H1 (e0.trans e1) (hE.stay (Tst.of e1)) (hm.same e1) _ fun vs H2 ds e2 t2 m2 g2 i2 => ?_
  have hc := (m2.1 _ (mem_ix hm')).2
  have hl0 : H0 l = none := (m2.1 _ (mem_ix hm')).1
  refine ⟨l, ds, vs, G, by rw [List.append_nil], i2, hi ds g2, hc, hR ds g2, fun v H3 d k1 k2 k3 k4 => ?_⟩
  obtain ⟨c1, c2, c3, _, hp⟩ := hc
  have t3 : Tst H2 H3 := ⟨fun b ys q => k1 b _ (by rintro rfl; rw [hp] at q; cases q) q, fun b o u q => k1 b _ (by rintro rfl; rw [hp] at q; cases q) q⟩
  have s3 : Same H0 H3 := fun b o q => k1 b o (by rintro rfl; rw [hl0] at q; cases q) (e2 b o q)
  have m3 : MOk H0 H3 m := by
    have := m2.put (c' := celP) (H' := H3) hm' t3 (fun b hb hn => by
      cases q : H2 b with
      | none => exact absurd q hn
      | some o => exact k1 b o hb q) k2
    have e : m.set k (l, celP) = m := by
      apply List.ext_getElem?
      intro j
      by_cases hjk : k = j
      · subst hjk
        rw [List.getElem?_set_self (List.getElem?_eq_some_iff.mp hm').1, hm']
      · rw [List.getElem?_set_ne hjk]
    rw [e] at this
    exact this
  exact q v H3 d s3 (((Tst.of e1).trans t2).trans t3) m3 k3 k4
end
end Ee

/-! more of lists and purses of a def's own -/
namespace Ee
open PySem PySem.Spec PyProof.Rows L2
/-- exact: a list that stands as told; new: that was not there -/
def ZX (S : Sx) (E : En) (m : Mem) (e : Expr) (ds : List D) : Prop := ∀ H0 σ H, Same H0 H → EnvM S.K H0 H σ E → MOk H0 H m → ∀ Q : VK, (∀ p xs H', Same H H' → H' p = some (.lst xs) → IsA S.K H' ds xs → Q (.ref p) H') → SE S e σ H Q
def ZN (S : Sx) (E : En) (m : Mem) (e : Expr) (ds : List D) : Prop := ∀ H0 σ H, Same H0 H → EnvM S.K H0 H σ E → MOk H0 H m → ∀ Q : VK, (∀ p xs H', H p = none → Same H H' → H' p = some (.lst xs) → IsA S.K H' ds xs → Q (.ref p) H') → SE S e σ H Q
section
variable {S : Sx} {E E' : En} {m m' : Mem} {tg it a b c e : Expr} {es : List Expr} {d x y : D} {ds : List D} {pos p p2 pr : Pos} {G : D → Prop} {GA : List D → Prop} {N : En → Mem → Prop} {R : D → Mem → Prop} {body rest A B : List Stmt} {bs : List (List Stmt)}
theorem zn_v (w : VW S.K m E E') (he : PVN S E' e ds) : ZN S E m e ds := fun H0 σ H e0 hE hm Q q => he σ H ((hE.env e0).view w hm) Q q
theorem zn_p (he : PVN S E e ds) : ZN S E m e ds := zn_v (VW.refl _) he
theorem zx_n (he : ZN S E m e ds) : ZX S E m e ds := fun H0 σ H e0 hE hm Q q => he H0 σ H e0 hE hm Q fun p xs H' _ a b c => q p xs H' a b c
theorem zx_var {l : Addr} (k : Nat) (hm' : m[k]? = some (l, celL S.K ds)) (he : PV S E e (.adr l)) : ZX S E m e ds := fun H0 σ H e0 hE hm Q q => he σ H (hE.env e0) _ fun v H1 e1 i1 => by
  have i1 : v = .ref l := i1
  subst i1
  obtain ⟨xs, g1, g2, _⟩ := ((hm.same e1).1 _ (mem_ix hm')).2
  exact q l xs H1 e1 g1 g2
theorem zn_cat {es : List D} (ha : ZX S E m a ds) (hb : ZX S E m b es) (hl : ds.length + es.length ≤ 10000) : ZN S E m (.BinOp a .Add b pos) (ds ++ es) := fun H0 σ H e0 hE hm Q q =>
  ⟨_, fun X M => pe_op op_cat (se_ok M) (se_ok M), ha H0 σ H e0 hE hm _ fun l xs H1 e1 h1 i1 => hb H0 σ H1 (e0.trans e1) (hE.stay (Tst.of e1)) (hm.same e1) _ fun k ys H2 e2 h2 i2 =>
    ⟨l, k, xs, ys, rfl, rfl, e2 _ _ h1, h2, by rw [← i1.len, ← i2.len]; exact Nat.le_trans hl (by decide), fun p hp => q p _ _ (Same.free (e1.trans e2) hp) ((e1.trans e2).trans (Same.new hp)) upd_same (((i1.mono e2).app i2).mono (Same.new hp))⟩⟩
theorem ZN.to {es : List D} (h : ZN S E m e ds) (q : ds = es) : ZN S E m e es := q ▸ h
/-- x = a new list -/
theorem m_newZ (i : Nat) {n : Str} (he : ZN S E m e ds) (hi : immA ds = true) (h : ∀ a, GoM S (rest :: bs) (E.set i (some (.adr a))) (m ++ [(a, celL S.K ds)]) N R) (hnd : S.N.Nodup) (hN : S.N[i]? = some n := by rfl) (hx : Loc S.sc n := by first | exact .inl rfl | exact .inr rfl) (hf : S.fn n = true := by rfl) (hs : ∀ env : PySem.Env, swapsWith e (some (.Name n p)) pos.line env = pure false := by intro _; rfl) :
    GoM S ((.Assign [.Name n p] e pos :: rest) :: bs) E m N R := fun H0 σ H T e0 hE hm ha =>
  rk_st (fun X M => ps_set (by rw [M.N]; exact hnd) (by rw [M.N]; exact hN) (by rw [M.sc]; exact hx) (se_ok M) (hs _) (.inl (by rw [M.fn]; exact hf))) (he H0 σ H e0 hE hm _ fun l xs H1 hp e1 h1 i1 =>
    h l H0 _ H1 T (e0.trans e1) ((hE.stay (Tst.of e1)).set i rfl rfl) (hm.new hp e1 e0 ⟨xs, h1, i1, hi⟩) (ha.mono (Tst.of e1)))
/-- what is told of an object is told otherwise -/
theorem m_re (k : Nat) {l : Addr} {c c' : Cel} (hm' : m[k]? = some (l, c)) (hc : ∀ H, c.ok H l → c'.ok H l) (h : GoM S bs E (m.set k (l, c')) N R) : GoM S bs E m N R := fun H0 σ H T e0 hE hm ha => by
  refine h H0 σ H T e0 hE ?_ ha
  refine hm.put hm' (Tst.refl _) (fun _ _ _ => rfl) (hc H (hm.1 _ (mem_ix hm')).2)
theorem m_open (k : Nat) {l : Addr} (hm' : m[k]? = some (l, celP)) (h : ∀ a b c : Int, 0 ≤ b → GoM S bs E (m.set k (l, celL S.K [.int a, .int b, .int c])) N R) : GoM S bs E m N R := fun H0 σ H T e0 hE hm ha => by
  obtain ⟨i, j, n, h0, h1⟩ := (hm.1 _ (mem_ix hm')).2
  exact h i j n h0 H0 σ H T e0 hE (hm.put hm' (Tst.refl _) (fun _ _ _ => rfl) ⟨_, h1, ⟨_, _, rfl, rfl, _, _, rfl, rfl, _, _, rfl, rfl, rfl⟩, rfl⟩) ha
theorem celP_of {K : PySem.W.Frag} {l : Addr} {i j n : Int} (h0 : 0 ≤ j) (H : Hp) (h : (celL K [.int i, .int j, .int n]).ok H l) : celP.ok H l := by
  obtain ⟨xs, h1, h2, _⟩ := h
  obtain ⟨x, r, rfl, e1, h2⟩ := h2
  obtain ⟨y, r, rfl, e2, h2⟩ := h2
  obtain ⟨z, r, rfl, e3, h2⟩ := h2
  have e1 : x = .int i := e1
  have e2 : y = .int j := e2
  have e3 : z = .int n := e3
  have h2 : r = [] := h2
  subst e1 e2 e3 h2
  exact ⟨i, j, n, h0, h1⟩
theorem m_ret' (he : ZM S E m e G) (h : ∀ d, G d → ∃ m', (∀ H0 H, MOk H0 H m → MOk H0 H m') ∧ R d m') : GoM S ((.Return (some e) pos :: rest) :: bs) E m N R := fun H0 σ H T e0 hE hm ha => by
  refine rk_st (t := tRet (SE S e)) (fun X M => ps_ret (se_ok M)) (he H0 σ H e0 hE hm _ fun v H1 d e1 t1 m1 g1 i1 => ?_)
  obtain ⟨m', s, r⟩ := h d g1
  exact ha.2 d m' v H1 r e1 t1 (s _ _ m1) i1
/-- x, y = a, b -/
theorem m_parv (i j : Nat) {n n2 : Str} {px py pt pt2 : Pos} {kt k2} (w : VW S.K m E E') (he : PVs S E' [a, b] [x, y]) (hx0 : imm x = true) (hy0 : imm y = true) (h : GoM S (rest :: bs) ((E.set i (some x)).set j (some y)) m N R) (hnd : S.N.Nodup) (hi : S.N[i]? = some n := by rfl) (hj : S.N[j]? = some n2 := by rfl) (hij : i ≠ j := by decide) (hx : S.sc.names.lookup n = some .local := by rfl) (hy : S.sc.names.lookup n2 = some .local := by rfl)
    (hw : swappedStores [.Tuple [.Name n px, .Name n2 py] kt pt] (.Tuple [a, b] k2 pt2) (envS S.sc) = pure (some [n, n2]) := by rfl) :
    GoM S ((.Assign [.Tuple [.Name n px, .Name n2 py] kt pt] (.Tuple [a, b] k2 pt2) pos :: rest) :: bs) E m N R := fun H0 σ H T e0 hE hm ha =>
  rk_st (t := tPar i j (SA S [a, b])) (fun X M => ps_par M.calm (by rw [M.N]; exact hnd) (by rw [M.N]; exact hi) (by rw [M.N]; exact hj) hij (by rw [M.sc]; exact hx) (by rw [M.sc]; exact hy) (sa_ok M) (by rw [sw_env, M.sc]; exact hw) rfl)
    (he σ H ((hE.env e0).view w hm) _ fun vs H1 e1 i1 => by
      obtain ⟨v, u, rfl, h1, h2⟩ := isA2 i1
      exact ⟨v, u, rfl, h H0 _ H1 T (e0.trans e1) (((hE.stay (Tst.of e1)).set i hx0 h1).set j hy0 h2) (hm.same e1) (ha.mono (Tst.of e1))⟩)
/-- x, y = a new list, e -/
theorem m_parN (i j : Nat) {n n2 : Str} {px py pt pt2 : Pos} {kt k2} (ha : PVN S E a ds) (hds : immA ds = true) (he : PV S E b y) (hy0 : imm y = true) (h : ∀ l, GoM S (rest :: bs) ((E.set i (some (.adr l))).set j (some y)) (m ++ [(l, celL S.K ds)]) N R) (hnd : S.N.Nodup) (hi : S.N[i]? = some n := by rfl) (hj : S.N[j]? = some n2 := by rfl) (hij : i ≠ j := by decide) (hx : S.sc.names.lookup n = some .local := by rfl) (hy : S.sc.names.lookup n2 = some .local := by rfl)
    (hw : swappedStores [.Tuple [.Name n px, .Name n2 py] kt pt] (.Tuple [a, b] k2 pt2) (envS S.sc) = pure (some [n, n2]) := by rfl) (hs1 : ∀ env : PySem.Env, starEach [a, b] env = (false, eval a env) :: starEach [b] env := by intro _; rfl) (hst : ∀ env : PySem.Env, starEach [b] env = (false, eval b env) :: starEach [] env := by intro _; rfl) :
    GoM S ((.Assign [.Tuple [.Name n px, .Name n2 py] kt pt] (.Tuple [a, b] k2 pt2) pos :: rest) :: bs) E m N R := fun H0 σ H T e0 hE hm hacc =>
  rk_st (t := tPar i j (tCons (SE S a) (tCons (SE S b) tNil))) (fun X M => ps_par M.calm (by rw [M.N]; exact hnd) (by rw [M.N]; exact hi) (by rw [M.N]; exact hj) hij (by rw [M.sc]; exact hx) (by rw [M.sc]; exact hy) (pa_cons (se_ok M) (pa_cons (se_ok M) pa_nil (hst _)) (hs1 _)) (by rw [sw_env, M.sc]; exact hw) rfl)
    (ha σ H (hE.env e0) _ fun l xs H1 hl e1 h1 i1 => he σ H1 ((hE.env e0).mono e1) _ fun v H2 e2 i2 => ⟨.ref l, v, rfl,
      h l H0 _ H2 T (e0.trans (e1.trans e2)) (((hE.stay (Tst.of (e1.trans e2))).set i (d := .adr l) (v := .ref l) rfl rfl).set j hy0 i2) (hm.new hl (e1.trans e2) e0 ⟨xs, e2 _ _ h1, i1.mono e2, hds⟩) (hacc.mono (Tst.of (e1.trans e2)))⟩)
/-- int(a bool) -/
theorem z_int1 (hg : GlS S "int") (hm0 : S.mg "int" = none) (he : ZM S E m e (fun d => ∃ c, d = .bl c)) (hst : St1 e [] := by intro _; rfl) : ZI S E m (.Call (.Name "int" p) [e] [] pos) (fun i => 0 ≤ i ∧ i < 2) := fun H0 σ H e0 hE hm Q q =>
  ⟨_, fun X M => pe_callTy call_int1 (show X.env.scope.names.lookup _ = _ by rw [M.sc]; exact hg) (by rw [M.mg]; exact hm0) PyProof.Rows.boot_int (pa_cons (se_ok M) pa_nil (hst _)) (by decide) (by decide) (hst _) rfl, he H0 σ H e0 hE hm _ fun v H1 d e1 t1 m1 g1 i1 => by
    obtain ⟨c, rfl⟩ := g1
    have i1 : v = .bl c := i1
    subst i1
    refine .inr ⟨c, rfl, q _ H1 (.int (if c then 1 else 0)) e1 t1 m1 ⟨_, rfl, ?_⟩ rfl⟩
    cases c <;> decide⟩
/-- a comprehension over a tuple: a new list -/
theorem nT_core {α : Type} {l : List α} {g : α → D} {f : α → Option D} {elt : Expr} {ifs : List Expr} {scope : Scope} {own : List (Str × Nat)} (hnd : S.N.Nodup) (hit : PV S E it (.tup (l.map g))) (hlen : l.length ≤ 1000) (ht : ∀ x ∈ l, Turn1 S E scope own tg elt ifs (g x) (f x)) {σ : L2.St} {H : Hp} (hE : Env S.K H σ E) {Q : VK}
    (q : ∀ p xs H', H p = none → Same H H' → H' p = some (.lst xs) → IsA S.K H' (l.filterMap f) xs → Q (.ref p) H') : tLc (iTup S.K (SE S it)) (SG (S.blk scope) tg) (ST1 (S.blk scope) ifs) (SE (S.blk scope) elt) (own.map (·.2)) σ H Q := by
  refine hit σ H hE _ fun v H1 e1 i1 => ?_
  obtain ⟨a, xs, rfl, h1, h2⟩ := i1
  refine ⟨a, rfl, ⟨xs, h1⟩, fun Dl hD => ?_⟩
  refine lc_tup (K := S.K) (a := a) (xs := xs) (fun i H' => Same H1 H' ∧ ∃ acc, H' Dl = some (.lst acc) ∧ IsA S.K H' ((l.take i).filterMap f) acc ∧ immA ((l.take i).filterMap f) = true) ⟨Same.new hD, [], upd_same, by rw [List.take_zero]; exact rfl, by rw [List.take_zero]; rfl⟩ (fun i H' _ p => same_t (Tst.of p.1) h1)
    (fun i x H' hx p => ?_) (fun H' p => ?_)
  · obtain ⟨d', hd', hi⟩ := h2.getV hx
    obtain ⟨d, hd, rfl⟩ := map_at hd'
    have hil : i < l.length := (List.getElem?_eq_some_iff.mp hd).1
    exact turn_rd (g := g) hnd hd (by omega) (ht d (List.mem_of_getElem? hd)) (hE.mono e1) hD p.1 (hi.mono p.1) p.2
  · obtain ⟨p1, acc, p2, p3, _⟩ := p
    rw [← h2.len, List.length_map, List.take_length] at p3
    exact q Dl _ H' (Same.free e1 hD) (e1.trans p1) p2 p3
theorem n_lcT {α : Type} {l : List α} {g : α → D} {f : α → Option D} {elt : Expr} {ifs : List Expr} {scope : Scope} (own : List (Str × Nat)) (hnd : S.N.Nodup) (ok : BlkOk S.N S.sc scope own) (hit : PV S E it (.tup (l.map g))) (hlen : l.length ≤ 1000) (ht : ∀ x ∈ l, Turn1 S E scope own tg elt ifs (g x) (f x)) (hs : ∀ (env : PySem.Env) x, foldedSetIterable it env x = pure x := by intro _ _; rfl) :
    PVN S E (.ListComp elt [⟨tg, it, ifs, 0⟩] scope pos) (l.filterMap f) := fun σ H hE Q q =>
  ⟨tLc (iTup S.K (SE S it)) (SG (S.blk scope) tg) (ST1 (S.blk scope) ifs) (SE (S.blk scope) elt) (own.map (·.2)), fun X M => by
    rw [← M.K]
    exact pe_lc M.calm (by rw [M.N]; exact hnd) (pi_tup (se_ok M)) (by rw [M.N, M.sc]; exact ok) (fun s H C cl fp => sg_ok (M.blk s H C cl fp)) (fun s H C cl fp => st1_ok (M.blk s H C cl fp)) (fun s H C cl fp => se_ok (M.blk s H C cl fp)) (fun x => hs _ x), nT_core hnd hit hlen ht hE q⟩
/-- y = [..] on one line -/
theorem m_setLcT {α : Type} {l : List α} {g : α → D} {f : α → Option D} {elt : Expr} {ifs : List Expr} {scope : Scope} {n : Str} {py spos : Pos} (i : Nat) (own : List (Str × Nat)) (hnd : S.N.Nodup) (ok : BlkOk S.N S.sc scope own) (hN : S.N[i]? = some n) (hk : S.sc.kind = .function) (hx : S.sc.names.lookup n = some .local) (hl : (py.line == pos.line) = true) (hany : (scope.names.any fun (m, k) => m == n && (k == .local || k == .cell)) = false)
    (w : VW S.K m E E') (hit : PV S E' it (.tup (l.map g))) (hlen : l.length ≤ 1000) (hi : immA (l.filterMap f) = true) (ht : ∀ x ∈ l, Turn1 S E' scope own tg elt ifs (g x) (f x)) (h : ∀ a, GoM S (rest :: bs) (E.set i (some (.adr a))) (m ++ [(a, celL S.K (l.filterMap f))]) N R) (hs : ∀ (env : PySem.Env) x, foldedSetIterable it env x = pure x := by intro _ _; rfl) :
    GoM S ((.Assign [.Name n py] (.ListComp elt [⟨tg, it, ifs, 0⟩] scope pos) spos :: rest) :: bs) E m N R := fun H0 σ H T e0 hE hm ha =>
  rk_st (t := tAsg (tLc (iTup S.K (SE S it)) (SG (S.blk scope) tg) (ST1 (S.blk scope) ifs) (SE (S.blk scope) elt) (own.map (·.2))) (gName i)) (fun X M => by
    rw [← M.K]
    exact ps_setLc M.calm (by rw [M.N]; exact hnd) (by rw [M.N]; exact hN) (by rw [M.sc]; exact hx) (sw_true (by rw [M.sc]; exact hk) (by rw [M.sc]; exact hx) hl hany) (pi_tup (se_ok M)) (by rw [M.N, M.sc]; exact ok) (fun s H C cl fp => sg_ok (M.blk s H C cl fp)) (fun s H C cl fp => st1_ok (M.blk s H C cl fp)) (fun s H C cl fp => se_ok (M.blk s H C cl fp)) (fun x => hs _ x))
    (by
      show tLc (iTup S.K (SE S it)) (SG (S.blk scope) tg) (ST1 (S.blk scope) ifs) (SE (S.blk scope) elt) (own.map (·.2)) σ H (fun v H1 => RK S (rest :: bs) T (σ.set i (some v)) H1)
      exact nT_core hnd hit hlen ht ((hE.env e0).view w hm) fun p xs H1 hp e1 h1 i1 => h p H0 _ H1 T (e0.trans e1) ((hE.stay (Tst.of e1)).set i rfl rfl) (hm.new hp e1 e0 ⟨xs, h1, i1, hi⟩) (ha.mono (Tst.of e1)))
/-- from names alone to objects -/
theorem g_m (h : GoM S bs E [] (fun _ _ => False) (fun d' _ => d' = d)) : Go S bs E (.ret d) := fun σ H T hE ha => h H σ H T (Same.refl H) (EnvM.of hE) MOk.nil ⟨fun _ _ _ _ z => z.elim, fun d' m' v H' e s _ _ i => by
  subst e
  exact ha.1 v H' s i⟩
end
section
variable {P : Program} {w : World} {K : PySem.W.Frag} {mg : Str → Option Value} {base : Heap}
/-- a def that hands back a new list, by objects -/
theorem ok_pnm {x : Str} {st : Stmt} {N ps : List Str} {k : Nat} {R : List D → List D → Prop} (hD : Df K mg x st ps) (S : FnScope N ps (defScope st)) (hl : ∀ ds d, R ds d → ds.length = ps.length)
    (hb : ∀ ds zs, R ds zs → GoM (sx P w K mg base N st k) [defBody st] (ini N ds) [] (fun _ _ => False) (fun d' m' => ∃ a, d' = .adr a ∧ m' = [(a, celL K zs)])) : Ok P w K mg base (k + 1) x ps (PN K R) :=
  ok_sp hD S (fun vs H Q E h => by
    obtain ⟨ds, d, h1, h2, _⟩ := h
    rw [← h1.len]
    exact hl ds d h2) fun vs H Q E h => by
    obtain ⟨ds, zs, h1, h2, h3⟩ := h
    exact hb ds zs h2 H _ H _ (Same.refl H) (EnvM.of (env_start h1)) MOk.nil ⟨fun _ _ _ _ z => z.elim, fun d' m' v H' ⟨a, e1, e2⟩ s _ mo i => by
      subst e1 e2
      have i : v = .ref a := i
      subst i
      obtain ⟨c1, xs, c2, c3, _⟩ := mo.1 (a, celL K zs) (by simp)
      exact h3 a xs H' c1 s c2 c3⟩
end
end Ee

/-! splices; the law's day of two leaks -/
namespace Ee
open PySem PySem.Spec PyProof.Rows L2
def spl (ls : Lens) : List Int := (List.range (ls.length - 1)).map fun k => stp (ls.take (k + 1))
theorem range_succ_map {β : Type} (f : Nat → β) (i : Nat) : (List.range (i + 1)).map f = (List.range i).map f ++ [f i] := by
  rw [List.range_succ, List.map_append]
  rfl
theorem dropLast_at {α : Type} {l : List α} {i : Nat} {x : α} (h : l.dropLast[i]? = some x) : l[i]? = some x ∧ i < l.length - 1 := by
  rw [List.getElem?_dropLast] at h
  split at h
  · exact ⟨h, by assumption⟩
  · cases h
section
variable {P : Program} {w : World} {K : PySem.W.Frag} {mg : Str → Option Value} {base : Heap}
def R_splices : List D → D → Prop := fun ds d => ∃ ls back, ds = [cabD ls back] ∧ CabOk ls back ∧ d = .tup ((spl ls).map D.int)
theorem ok_splice_steps (B : Bt mg) (hD : Df K mg "splice_steps" s_splice_steps p_splice_steps) : Ok P w K mg base 1 "splice_steps" p_splice_steps (PF K R_splices) :=
  ok_pfm hD sc_splice_steps (fun ds d h => by obtain ⟨_, _, rfl, _⟩ := h; rfl) fun ds d h => by
    obtain ⟨ls, back, rfl, hc, rfl⟩ := h
    have hls : ls.map lnD ≠ [] := by
      intro z
      have h1 := hc.some
      have : ls = [] := by simpa using z
      rw [this] at h1
      simp at h1
    refine m_newL 1 v_nil rfl (by decide) (fun a => ?_) sc_splice_steps.nd
    refine m_setp 2 v_int rfl ?_ sc_splice_steps.nd
    refine m_forT (l := ls.dropLast) (g := lnD) (fun i E m => E = [some (cabD ls back), some (.adr a), some (.int (stp (ls.take i))), none, none] ∧ m = [(a, celL K ((List.range i).map fun k => D.int (stp (ls.take (k + 1)))))])
      ((v_dropLast (v_ix (v_var 0 rfl rfl) v_int) hls).to (by rw [List.map_dropLast])) (fun _ _ => rfl) sc_splice_steps.nd ⟨rfl, rfl⟩ (fun i p E m hp hI => ?_) (fun E m hI => ?_)
    · obtain ⟨rfl, rfl⟩ := hI
      obtain ⟨hp, hi⟩ := dropLast_at hp
      have := hc.most
      refine ⟨_, _, .pair 3 4, ?_⟩
      refine m_setp 2 (v_add (v_var 2 rfl rfl) (v_var 3 rfl rfl)) rfl ?_ sc_splice_steps.nd
      refine m_appp 0 rfl (v_var 1 rfl rfl) (v_var 2 rfl rfl) rfl (by rw [List.length_map, List.length_range]; omega) ?_
      refine m_pop (m_end (E' := [some (cabD ls back), some (.adr a), some (.int (stp (ls.take (i + 1)))), none, none]) ?_ (List.Sublist.refl _) ⟨rfl, ?_⟩)
      · rw [stp_succ hp]
        exact .cons (.inr rfl) (.cons (.inr rfl) (.cons (.inr rfl) (.cons (.inl rfl) (.cons (.inl rfl) .nil))))
      · rw [range_succ_map, stp_succ hp]
        rfl
    · obtain ⟨rfl, rfl⟩ := hI
      refine m_ret (z_v (.same (.lst 0 rfl (.same (.same (.same .nil))))) (v_tupleOf rfl B.tuple (v_cons (v_var 1 rfl rfl) v_nil))) (fun d hd => ⟨[], List.nil_sublist _, ?_⟩)
      rw [hd, List.length_dropLast]
      unfold spl
      rw [List.map_map]
      rfl
abbrev OkLd (P : Program) (w : World) (K : PySem.W.Frag) (mg : Str → Option Value) (base : Heap) : Prop := Ok P w K mg base 4 "_law_drag_to" p_L_drag_to (PF K R_dragto)
def R_Lsplices : List D → List D → Prop := fun ds zs => ∃ ls back, ds = [cabD ls back] ∧ CabOk ls back ∧ zs = (spl ls).map fun s => qD (dTo ls (s : Int))
theorem CabOk.bd_stp' {ls : Lens} {back : Rat} (C : CabOk ls back) (i : Nat) : Bd ((stp (ls.take i) : Int) : Rat) 20 := (C.bd_stp i).le (by decide)
theorem ok_L_splices (hT : OkLd P w K mg base) (hD : Df K mg "_law_splices" s_L_splices p_L_splices) : Ok P w K mg base 5 "_law_splices" p_L_splices (PN K R_Lsplices) :=
  ok_pnm hD sc_L_splices (fun ds d h => by obtain ⟨_, _, rfl, _⟩ := h; rfl) fun ds d h => by
    obtain ⟨ls, back, rfl, hc, rfl⟩ := h
    have hls : ls.map lnD ≠ [] := by
      intro z
      have h1 := hc.some
      have : ls = [] := by simpa using z
      rw [this] at h1
      simp at h1
    refine m_parNew 1 2 v_int rfl (fun a => ?_) sc_L_splices.nd
    refine m_forT (l := ls.dropLast) (g := lnD) (fun i E m => E = [some (cabD ls back), some (.adr a), some (.int (stp (ls.take i))), none, none] ∧ m = [(a, celL K ((List.range i).map fun k => qD (dTo ls ((stp (ls.take (k + 1)) : Int) : Rat))))])
      ((v_dropLast (v_ix (v_var 0 rfl rfl) v_int) hls).to (by rw [List.map_dropLast])) (fun _ _ => rfl) sc_L_splices.nd ⟨rfl, rfl⟩ (fun i p E m hp hI => ?_) (fun E m hI => ?_)
    · obtain ⟨rfl, rfl⟩ := hI
      obtain ⟨hp, hi⟩ := dropLast_at hp
      have := hc.most
      refine ⟨_, _, .pair 3 4, ?_⟩
      refine m_setp 2 (v_add (v_var 2 rfl rfl) (v_var 3 rfl rfl)) rfl ?_ sc_L_splices.nd
      refine m_appp 0 rfl (v_var 1 rfl rfl) (v_call hT rfl (v_cons (v_var 0 rfl rfl) (v_cons (v_tup (v_cons (v_var 2 rfl rfl) (v_cons v_int v_nil))) v_nil)) ⟨ls, back, ((stp (ls.take i) + p.1 : Int) : Rat), rfl, hc, by rw [← stp_succ hp]; exact hc.bd_stp' _, rfl⟩) rfl (by rw [List.length_map, List.length_range]; omega) ?_
      refine m_pop (m_end (E' := [some (cabD ls back), some (.adr a), some (.int (stp (ls.take (i + 1)))), none, none]) ?_ (List.Sublist.refl _) ⟨rfl, ?_⟩)
      · rw [stp_succ hp]
        exact .cons (.inr rfl) (.cons (.inr rfl) (.cons (.inr rfl) (.cons (.inl rfl) (.cons (.inl rfl) .nil))))
      · rw [range_succ_map, stp_succ hp]
        rfl
    · obtain ⟨rfl, rfl⟩ := hI
      refine m_ret (z_p (v_var 1 rfl rfl)) (fun d hd => ⟨_, List.Sublist.refl _, a, hd, ?_⟩)
      rw [List.length_dropLast]
      unfold spl
      rw [List.map_map]
      rfl
end
end Ee

/-! the law's day of two leaks -/
namespace Ee
open PySem PySem.Spec PyProof.Rows L2
abbrev pqD (a : Rat × Rat) : D := .tup [qD a.1, qD a.2]
section
variable {P : Program} {w : World} {K : PySem.W.Frag} {mg : Str → Option Value} {base : Heap}
/-- the drags to two places, with their own; from the west end, or from the east end -/
def pts (ls : Lens) (lk : List (Rat × Rat)) (b : Bool) : List (Rat × Rat) :=
  if b then lk.map fun x => (dTo ls x.1, x.2) else (lk.map fun x => (dTo ls x.1, x.2)).reverse.map fun x => (drg ls - x.1, x.2)
def R_points : List D → D → Prop := fun ds d => ∃ ls back lk b, ds = [cabD ls back, .tup (lk.map pqD), .bl b] ∧ CabOk ls back ∧ (∀ x ∈ lk, Bd x.1 20) ∧ lk.length ≤ 100 ∧ d = .lst ((pts ls lk b).map pqD)
theorem ok_L_points (hT : OkLd P w K mg base) (hS : OkLm P w K mg base) (hAll : OkLall P w K mg base) (hD : Df K mg "_law_points" s_L_points p_L_points) : Ok P w K mg base 5 "_law_points" p_L_points (PF K R_points) :=
  ok_pf hD sc_L_points (fun ds d h => by obtain ⟨_, _, _, _, rfl, _⟩ := h; rfl) fun ds d h => by
    obtain ⟨ls, back, lk, b, rfl, hc, hb, hl, rfl⟩ := h
    refine g_setLcT (l := lk) (g := pqD) (f := fun x => some (pqD (dTo ls x.1, x.2))) 3 [("_law_place", 4), ("_law_drag", 5)] sc_L_points.nd (blkOk_by (N := n_L_points) (sc := defScope s_L_points) (by decide +kernel)) rfl rfl rfl rfl rfl (v_var 1 rfl rfl) (by omega) (fun x hx => ?_) ?_
    · exact ⟨_, _, .pair 4 5, by decide, rfl, fun y hy => by
        cases hy
        exact ⟨v_tup (v_cons (v_call hT rfl (v_cons (v_var 0 rfl rfl) (v_cons (v_var 4 rfl rfl) v_nil)) ⟨ls, back, x.1, rfl, hc, hb x hx, rfl⟩) (v_cons (v_var 5 rfl rfl) v_nil)), rfl⟩⟩
    · rw [fm_some]
      cases b with
      | true =>
        refine g_ifT (b_val (v_var 2 rfl rfl)) (g_ret ((v_var 3 rfl rfl).to ?_))
        unfold pts
        rw [if_pos rfl, List.map_map]
        rfl
      | false =>
        refine g_ifF (b_val (v_var 2 rfl rfl)) (g_pop (g_ret ?_))
        refine PV.to (v_lcL (l := (lk.map fun x => (dTo ls x.1, x.2)).reverse) (g := pqD) (f := fun x => some (pqD (drg ls - x.1, x.2))) [("_law_at", 6), ("_law_drag", 5)] sc_L_points.nd (blkOk_by (N := n_L_points) (sc := defScope s_L_points) (by decide +kernel)) ((v_rev (v_var 3 rfl rfl)).to ?_) ?_ (fun x hx => ?_)) ?_
        · rw [List.map_reverse, List.map_map]
          rfl
        · rw [List.length_reverse, List.length_map]
          omega
        · obtain ⟨z, hz, rfl⟩ := List.mem_map.mp (List.mem_reverse.mp hx)
          have hbz : Bd (dTo ls z.1) 4000 := by
            have h1 := hc.bd_dTo (hb z hz) ls.length (Nat.le_refl _)
            rw [List.take_length] at h1
            have := hc.most
            exact h1.le (by omega)
          exact ⟨_, _, .pair 6 5, by decide, rfl, fun y hy => by
            cases hy
            exact ⟨v_tup (v_cons (v_call hS rfl (v_cons (v_call hAll rfl (v_cons (v_var 0 rfl rfl) v_nil) ⟨ls, back, rfl, hc, rfl⟩) (v_cons (v_var 6 rfl rfl) v_nil)) ⟨drg ls, dTo ls z.1, rfl, hc.bd_all.le (by decide), hbz, trivial, rfl⟩) (v_cons (v_var 5 rfl rfl) v_nil)), rfl⟩⟩
        · rw [fm_some]
          unfold pts
          rw [if_neg (by decide), List.map_map]
          rfl
/-- what is seen at the first of two leaks -/
def seen1 (a1 p1 a2 p2 : Rat) : Rat := p1 * (p2 + (a2 - a1)) / (p1 + (p2 + (a2 - a1)))
def R_steps : List D → D → Prop := fun ds d => ∃ a1 p1 a2 p2 far : Rat, ds = [.lst [pqD (a1, p1), pqD (a2, p2)], qD far, .non] ∧ Bd a1 300 ∧ Bd p1 300 ∧ Bd a2 300 ∧ Bd p2 300 ∧ Bd far 300 ∧ p1 + (p2 + (a2 - a1)) ≠ 0 ∧ d = .lst [qD (seen1 a1 p1 a2 p2), qD p2]
theorem ok_L_steps_seen (hA : OkLp P w K mg base) (hS : OkLm P w K mg base) (hM : OkLt P w K mg base) (hV : OkLo P w K mg base) (hD : Df K mg "_law_steps_seen" s_L_steps_seen p_L_steps_seen) : Ok P w K mg base 4 "_law_steps_seen" p_L_steps_seen (PF K R_steps) :=
  ok_pfm hD sc_L_steps_seen (fun ds d h => by obtain ⟨_, _, _, _, _, rfl, _⟩ := h; rfl) fun ds d h => by
    obtain ⟨a1, p1, a2, p2, far, rfl, b1, b2, b3, b4, b5, hne, rfl⟩ := h
    have bd1 : Bd (a2 - a1) 601 := b3.sub b1
    have bd2 : Bd (p2 + (a2 - a1)) 902 := b4.add bd1
    have bd3 : Bd (p1 + (p2 + (a2 - a1))) 1203 := b2.add bd2
    have bd4 : Bd (p1 * (p2 + (a2 - a1))) 1202 := b2.mul bd2
    refine m_parNew 3 4 (v_var 1 rfl rfl) rfl (fun l => ?_) sc_L_steps_seen.nd
    refine m_forN (l := [(a2, p2), (a1, p1)]) (g := pqD) (fun _ _ => id) (fun i E m => match i with
      | 0 => E = [some (.lst [pqD (a1, p1), pqD (a2, p2)]), some (qD far), some .non, some (.adr l), some (qD far), none, none, none] ∧ m = [(l, celL K [])]
      | 1 => E = [some (.lst [pqD (a1, p1), pqD (a2, p2)]), some (qD far), some (qD p2), some (.adr l), some (qD a2), none, none, none] ∧ m = [(l, celL K [qD p2])]
      | 2 => E = [none, none, none, some (.adr l), none, none, none, none] ∧ m = [(l, celL K [qD p2, qD (seen1 a1 p1 a2 p2)])]
      | _ => False) (VW.refl _) (PVN.to (n_rev (v_var 0 rfl rfl)) rfl) (fun _ _ => rfl) sc_L_steps_seen.nd ⟨rfl, rfl⟩ (fun i x E m hx hI => ?_) (fun E m hI => ?_)
    · match i, hx, hI with
      | 0, hx, hI =>
        obtain ⟨rfl, rfl⟩ := hI
        have hx : (a2, p2) = x := by simpa using hx
        subst hx
        refine ⟨_, _, .pair 5 6, ?_⟩
        refine m_ifF (PB.to (b_notN (v_var 2 rfl rfl)) rfl) ?_
        refine m_setp 2 (v_var 6 rfl rfl) rfl (m_pop ?_) sc_L_steps_seen.nd
        refine m_appp 0 rfl (v_var 3 rfl rfl) (v_var 2 rfl rfl) rfl (by decide) ?_
        refine m_setp 4 (v_var 5 rfl rfl) rfl ?_ sc_L_steps_seen.nd
        exact m_pop (m_end (.cons (.inr rfl) (.cons (.inr rfl) (.cons (.inr rfl) (.cons (.inr rfl) (.cons (.inr rfl) (.cons (.inl rfl) (.cons (.inl rfl) (.cons (.inl rfl) .nil)))))))) (List.Sublist.refl _) ⟨rfl, rfl⟩)
      | 1, hx, hI =>
        obtain ⟨rfl, rfl⟩ := hI
        have hx : (a1, p1) = x := by simpa using hx
        subst hx
        refine ⟨_, _, .pair 5 6, ?_⟩
        refine m_ifT (PB.to (b_notN (v_var 2 rfl rfl)) rfl) ?_
        refine m_setp 7 (v_call hA rfl (v_cons (v_var 2 rfl rfl) (v_cons (v_call hS rfl (v_cons (v_var 4 rfl rfl) (v_cons (v_var 5 rfl rfl) v_nil)) ⟨a2, a1, rfl, b3.le (by decide), b1.le (by decide), trivial, rfl⟩) v_nil)) ⟨p2, a2 - a1, rfl, b4.le (by decide), bd1.le (by decide), trivial, rfl⟩) rfl ?_ sc_L_steps_seen.nd
        refine m_setp 2 (v_call hV rfl (v_cons (v_call hM rfl (v_cons (v_var 6 rfl rfl) (v_cons (v_var 7 rfl rfl) v_nil)) ⟨p1, p2 + (a2 - a1), rfl, b2.le (by decide), bd2.le (by decide), trivial, rfl⟩) (v_cons (v_call hA rfl (v_cons (v_var 6 rfl rfl) (v_cons (v_var 7 rfl rfl) v_nil)) ⟨p1, p2 + (a2 - a1), rfl, b2.le (by decide), bd2.le (by decide), trivial, rfl⟩) v_nil)) ⟨_, _, rfl, bd4.le (by decide), bd3.le (by decide), hne, rfl⟩) rfl (m_pop ?_) sc_L_steps_seen.nd
        refine m_appp 0 rfl (v_var 3 rfl rfl) (v_var 2 rfl rfl) rfl (show 1 < 10000 by decide) ?_
        refine m_setp 4 (v_var 5 rfl rfl) rfl ?_ sc_L_steps_seen.nd
        exact m_pop (m_end (.cons (.inl rfl) (.cons (.inl rfl) (.cons (.inl rfl) (.cons (.inr rfl) (.cons (.inl rfl) (.cons (.inl rfl) (.cons (.inl rfl) (.cons (.inl rfl) .nil)))))))) (List.Sublist.refl _) ⟨rfl, rfl⟩)
      | i + 2, hx, _ => simp at hx
    · obtain ⟨rfl, rfl⟩ := (show _ ∧ _ from hI)
      exact m_ret (z_v (.same (.same (.same (.lst 0 rfl (.same (.same (.same (.same .nil)))))))) (v_rev (v_var 3 rfl rfl))) (fun d hd => ⟨[], List.nil_sublist _, hd⟩)
abbrev OkLpts (P : Program) (w : World) (K : PySem.W.Frag) (mg : Str → Option Value) (base : Heap) : Prop := Ok P w K mg base 5 "_law_points" p_L_points (PF K R_points)
abbrev OkLss (P : Program) (w : World) (K : PySem.W.Frag) (mg : Str → Option Value) (base : Heap) : Prop := Ok P w K mg base 4 "_law_steps_seen" p_L_steps_seen (PF K R_steps)
/-- the law's leaks -/
structure Leaks (ls : Lens) (back l1 l2 p q : Rat) : Prop where
  two : Two ls back (dTo ls l1) (dTo ls l2) p q
  b1 : Bd l1 20
  b2 : Bd l2 20
def seenW (x y p q : Rat) : Rat := x + seen1 x p y q
def seenE (R x y p q : Rat) : Rat := R - y + seen1 (R - y) q (R - x) p
def R_seen : List D → D → Prop := fun ds d => ∃ ls back l1 l2 p q b, ds = [cabD ls back, .tup [pqD (l1, p), pqD (l2, q)], .bl b, .non] ∧ Leaks ls back l1 l2 p q ∧ d = qD (if b then seenW (dTo ls l1) (dTo ls l2) p q else seenE (drg ls) (dTo ls l1) (dTo ls l2) p q)
theorem ne_seen {a1 p1 a2 p2 : Rat} (h1 : 0 < p1) (h2 : 0 < p2) (h3 : a1 < a2) : p1 + (p2 + (a2 - a1)) ≠ 0 := by grind
theorem bd_seen1 {a1 p1 a2 p2 : Rat} {n : Nat} (h1 : Bd a1 n) (h2 : Bd p1 n) (h3 : Bd a2 n) (h4 : Bd p2 n) : Bd (seen1 a1 p1 a2 p2) (8 * n + 10) := by
  unfold seen1
  have := h4.add (h3.sub h1)
  exact ((h2.mul this).div (h2.add this)).le (by omega)
theorem ok_L_seen (hA : OkLp P w K mg base) (hPt : OkLpts P w K mg base) (hAll : OkLall P w K mg base) (hSS : OkLss P w K mg base) (hD : Df K mg "_law_seen" s_L_seen p_L_seen) : Ok P w K mg base 6 "_law_seen" p_L_seen (PF K R_seen) :=
  ok_pf hD sc_L_seen (fun ds d h => by obtain ⟨_, _, _, _, _, _, _, rfl, _⟩ := h; rfl) fun ds d h => by
    obtain ⟨ls, back, l1, l2, p, q, b, rfl, t, rfl⟩ := h
    have hc := t.two.cab
    have bx : Bd (dTo ls l1) 300 := t.two.bx.le (by decide)
    have by' : Bd (dTo ls l2) 300 := t.two.by_.le (by decide)
    have bR := hc.bd_all
    have bRx : Bd (drg ls - dTo ls l1) 300 := (bR.sub t.two.bx).le (by decide)
    have bRy : Bd (drg ls - dTo ls l2) 300 := (bR.sub t.two.by_).le (by decide)
    have bp : Bd p 300 := t.two.bp.le (by decide)
    have bq : Bd q 300 := t.two.bq.le (by decide)
    have key : ∀ a1 p1 a2 p2 : Rat, pts ls [(l1, p), (l2, q)] b = [(a1, p1), (a2, p2)] → Bd a1 300 → Bd p1 300 → Bd a2 300 → Bd p2 300 → p1 + (p2 + (a2 - a1)) ≠ 0 →
        Go (sx P w K mg base n_L_seen s_L_seen 5) [defBody s_L_seen] [some (cabD ls back), some (.tup [pqD (l1, p), pqD (l2, q)]), some (.bl b), some .non, none, none] (.ret (qD (a1 + seen1 a1 p1 a2 p2))) := fun a1 p1 a2 p2 e c1 c2 c3 c4 hne => by
      refine g_par 4 5 (x := .lst [pqD (a1, p1), pqD (a2, p2)]) (v_cons (v_call hPt rfl (v_cons (v_var 0 rfl rfl) (v_cons (v_var 1 rfl rfl) (v_cons (v_var 2 rfl rfl) v_nil))) ⟨ls, back, [(l1, p), (l2, q)], b, rfl, hc, fun x hx => ?_, (show 2 ≤ 100 by decide), by rw [e]; rfl⟩) (v_cons (v_call hAll rfl (v_cons (v_var 0 rfl rfl) v_nil) ⟨ls, back, rfl, hc, rfl⟩) v_nil)) ?_ sc_L_seen.nd
      · rcases List.mem_cons.mp hx with rfl | hx
        · exact t.b1
        · have : x = (l2, q) := by simpa using hx
          subst this
          exact t.b2
      · have eqF : PyData.eqv (toPy (.lst [pqD (a1, p1), pqD (a2, p2)])) (toPy (.lst [])) = false := by simp [toPy, toPyA, PyData.eqv, PyData.eqvAll]
        refine g_ifF (b_w (w_and (c := false) (c' := true) (PB.to (b_eqD (n := 4) (m := 1) (v_var 4 rfl rfl) (v_lst v_nil) rfl rfl) eqF) (fun z => nomatch z))) (g_pop ?_)
        refine g_ifF (PB.to (b_eqD (n := 4) (m := 1) (v_var 4 rfl rfl) (v_lst v_nil) rfl rfl) eqF) (g_pop ?_)
        exact g_ret (v_call hA rfl (v_cons (v_ix (v_ixL (d := pqD (a1, p1)) (v_var 4 rfl rfl) v_int) v_int) (v_cons (v_ixL (d := qD (seen1 a1 p1 a2 p2)) (v_call hSS rfl (v_cons (v_var 4 rfl rfl) (v_cons (v_var 5 rfl rfl) (v_cons (v_var 3 rfl rfl) v_nil))) ⟨a1, p1, a2, p2, drg ls, rfl, c1, c2, c3, c4, bR.le (by decide), hne, rfl⟩) v_int) v_nil)) ⟨a1, _, rfl, c1.le (by decide), (bd_seen1 c1 c2 c3 c4).le (by decide), trivial, rfl⟩)
    have xy := t.two.xy
    cases b with
    | true => exact key (dTo ls l1) p (dTo ls l2) q rfl bx bp by' bq (ne_seen t.two.p0 t.two.q0 xy)
    | false => exact key (drg ls - dTo ls l2) q (drg ls - dTo ls l1) p rfl bRy bq bRx bp (ne_seen t.two.q0 t.two.p0 (by grind))
abbrev OkLseen (P : Program) (w : World) (K : PySem.W.Frag) (mg : Str → Option Value) (base : Heap) : Prop := Ok P w K mg base 6 "_law_seen" p_L_seen (PF K R_seen)
def R_Lday : List D → D → Prop := fun ds d => ∃ ls back l1 l2 p q, ds = [cabD ls back, .tup [pqD (l1, p), pqD (l2, q)]] ∧ Leaks ls back l1 l2 p q ∧
  d = dayS back (starW (dTo ls l1) (dTo ls l2) p q) (starA (drg ls) (dTo ls l1) (dTo ls l2) p q) (starF (dTo ls l1) (dTo ls l2) p q)
theorem ok_L_day (hA : OkLp P w K mg base) (hS : OkLm P w K mg base) (hM : OkLt P w K mg base) (hV : OkLo P w K mg base) (B : Bt mg) (hPt : OkLpts P w K mg base) (hAll : OkLall P w K mg base) (hSS : OkLss P w K mg base) (hSe : OkLseen P w K mg base) (hD : Df K mg "_law_day" s_L_day p_L_day) : Ok P w K mg base 7 "_law_day" p_L_day (PF K R_Lday) :=
  ok_pf hD sc_L_day (fun ds d h => by obtain ⟨_, _, _, _, _, _, rfl, _⟩ := h; rfl) fun ds d h => by
    obtain ⟨ls, back, l1, l2, p, q, rfl, t, rfl⟩ := h
    have tt := t.two
    have hc := tt.cab
    generalize hx : dTo ls l1 = x at *
    generalize hy : dTo ls l2 = y at *
    have bR := hc.bd_all
    have bx : Bd x 22 := tt.bx
    have by' : Bd y 22 := tt.by_
    have bp : Bd p 10 := tt.bp
    have bq : Bd q 10 := tt.bq
    have xy := tt.xy
    have p0 := tt.p0
    have q0 := tt.q0
    have D0 := tt.D0
    have bd : Bd (y - x) 45 := by'.sub bx
    have bs : Bd (seen1 x p y q) 186 := (bd_seen1 bx (bp.le (by decide)) by' (bq.le (by decide))).le (by decide)
    have bs2 : Bd (seen1 (drg ls - y) q (drg ls - x) p) 1900 := (bd_seen1 (n := 224) ((bR.sub by').le (by decide)) (bq.le (by decide)) ((bR.sub bx).le (by decide)) (bp.le (by decide))).le (by decide)
    have bW : Bd (seenW x y p q) 210 := (bx.add bs).le (by decide)
    have bE : Bd (seenE (drg ls) x y p q) 2130 := ((bR.sub by').add bs2).le (by decide)
    have bF : Bd (starF x y p q) 400 := tt.star.bF
    refine g_ifF (PB.to (b_eqD (n := 4) (m := 1) (v_var 1 rfl rfl) (v_tup v_nil) rfl rfl) (by simp [toPy, toPyA, PyData.eqv, PyData.eqvAll])) (g_pop ?_)
    refine g_par 2 3 (x := .lst [pqD (x, p), pqD (y, q)]) (v_cons (v_call hPt rfl (v_cons (v_var 0 rfl rfl) (v_cons (v_var 1 rfl rfl) (v_cons v_bl v_nil))) ⟨ls, back, [(l1, p), (l2, q)], true, rfl, hc, fun z hz => ?_, (show 2 ≤ 100 by decide), by rw [← hx, ← hy]; rfl⟩) (v_cons (v_call hAll rfl (v_cons (v_var 0 rfl rfl) v_nil) ⟨ls, back, rfl, hc, rfl⟩) v_nil)) ?_ sc_L_day.nd
    · rcases List.mem_cons.mp hz with rfl | hz
      · exact t.b1
      · have : z = (l2, q) := by simpa using hz
        subst this
        exact t.b2
    refine g_set 4 (v_call hSS rfl (v_cons (v_var 2 rfl rfl) (v_cons (v_var 3 rfl rfl) (v_cons v_non v_nil))) ⟨x, p, y, q, drg ls, rfl, bx.le (by decide), bp.le (by decide), by'.le (by decide), bq.le (by decide), bR.le (by decide), ne_seen p0 q0 xy, rfl⟩) ?_ sc_L_day.nd
    refine g_set 5 (v_ixL (d := qD (seen1 x p y q)) (v_var 4 rfl rfl) v_int) ?_ sc_L_day.nd
    refine g_forR2 (lo := 1) (hi := 2) (fun i => match i with
      | 0 => [some (cabD ls back), some (.tup [pqD (l1, p), pqD (l2, q)]), some (.lst [pqD (x, p), pqD (y, q)]), some (qD (drg ls)), some (.lst [qD (seen1 x p y q), qD q]), some (qD (seen1 x p y q)), none, none, none, none, none]
      | _ => [some (cabD ls back), some (.tup [pqD (l1, p), pqD (l2, q)]), some (.lst [pqD (x, p), pqD (y, q)]), some (qD (drg ls)), some (.lst [qD (seen1 x p y q), qD q]), some (qD (starF x y p q)), none, none, none, none, none]) rfl B.range (v_cons v_int (v_cons (PV.to (d' := .int 2) (v_len rfl B.len (v_cons (v_var 4 rfl rfl) v_nil)) rfl) v_nil)) (by decide) sc_L_day.nd (LeE.refl _) (fun i hi => ?_) ?_
    · have e0 : i = 0 := by omega
      subst e0
      refine ⟨_, _, .name 6, ?_⟩
      refine g_set 7 (v_call hS rfl (v_cons (v_ix (v_ixL (d := pqD (y, q)) (v_var 2 rfl rfl) (v_var 6 rfl rfl)) v_int) (v_cons (v_ix (v_ixL (d := pqD (x, p)) (v_var 2 rfl rfl) (v_sub (v_var 6 rfl rfl) v_int)) v_int) v_nil)) ⟨y, x, rfl, by'.le (by decide), bx.le (by decide), trivial, rfl⟩) ?_ sc_L_day.nd
      refine g_set 5 (v_call hV rfl (v_cons (v_call hM rfl (v_cons (v_var 5 rfl rfl) (v_cons (v_ixL (d := qD q) (v_var 4 rfl rfl) (v_var 6 rfl rfl)) v_nil)) ⟨seen1 x p y q, q, rfl, bs.le (by decide), bq.le (by decide), trivial, rfl⟩) (v_cons (v_call hA rfl (v_cons (v_ixL (d := qD q) (v_var 4 rfl rfl) (v_var 6 rfl rfl)) (v_cons (v_var 7 rfl rfl) v_nil)) ⟨q, y - x, rfl, bq.le (by decide), bd.le (by decide), trivial, rfl⟩) v_nil)) ⟨_, _, rfl, (bs.mul bq).le (by decide), (bq.add bd).le (by decide), by grind, rfl⟩) ?_ sc_L_day.nd
      refine g_pop (g_end ?_)
      have e : seen1 x p y q * q / (q + (y - x)) = starF x y p q := by
        unfold seen1 starF
        have e1 : starD x y p q = p + (q + (y - x)) := by unfold starD; grind
        have e2 : p + (q + (y - x)) ≠ 0 := by grind
        have e3 : q + (y - x) ≠ 0 := by grind
        rw [e1]
        grind
      show LeE [_, _, _, _, _, some (qD (starF x y p q)), none, none, none, none, none] [_, _, _, _, _, some (qD (seen1 x p y q * q / (q + (y - x)))), _, _, _, _, _]
      rw [e]
      exact .cons (.inr rfl) (.cons (.inr rfl) (.cons (.inr rfl) (.cons (.inr rfl) (.cons (.inr rfl) (.cons (.inr rfl) (.cons (.inl rfl) (.cons (.inl rfl) (.cons (.inl rfl) (.cons (.inl rfl) (.cons (.inl rfl) .nil))))))))))
    have e1 : seenW x y p q = starW x y p q + starF x y p q := by
      unfold seenW seen1 starW starF
      have e1 : starD x y p q = p + (q + (y - x)) := by unfold starD; grind
      have e2 : p + (q + (y - x)) ≠ 0 := by grind
      rw [e1]
      grind
    have e2 : seenE (drg ls) x y p q = starA (drg ls) x y p q + starF x y p q := by
      unfold seenE seen1 starA starF
      have e1 : starD x y p q = q + (p + (drg ls - x - (drg ls - y))) := by unfold starD; grind
      have e2 : q + (p + (drg ls - x - (drg ls - y))) ≠ 0 := by grind
      rw [e1]
      grind
    refine g_par 8 9 (x := qD (starW x y p q + starF x y p q)) (y := qD (starA (drg ls) x y p q + starF x y p q)) (v_cons (v_call hSe rfl (v_cons (v_var 0 rfl rfl) (v_cons (v_var 1 rfl rfl) (v_cons v_bl (v_cons v_non v_nil)))) ⟨ls, back, l1, l2, p, q, true, rfl, by rw [← hx, ← hy] at tt; exact ⟨tt, t.b1, t.b2⟩, by rw [hx, hy, if_pos rfl, e1]⟩) (v_cons (v_call hSe rfl (v_cons (v_var 0 rfl rfl) (v_cons (v_var 1 rfl rfl) (v_cons v_bl (v_cons v_non v_nil)))) ⟨ls, back, l1, l2, p, q, false, rfl, by rw [← hx, ← hy] at tt; exact ⟨tt, t.b1, t.b2⟩, by rw [hx, hy, if_neg (by decide), e2]⟩) v_nil)) ?_ sc_L_day.nd
    have s := tt.star
    have c1 : Bd (starW x y p q + starF x y p q) 801 := s.bW.add s.bF
    have c2 : Bd (starA (drg ls) x y p q + starF x y p q) 801 := s.bA.add s.bF
    refine g_set 10 (d := qD (starW x y p q + starA (drg ls) x y p q)) ((v_call hS rfl (v_cons (v_call hA rfl (v_cons (v_var 8 rfl rfl) (v_cons (v_var 9 rfl rfl) v_nil)) ⟨_, _, rfl, c1.le (by decide), c2.le (by decide), trivial, rfl⟩) (v_cons (v_call hM rfl (v_cons (v_tup (v_cons v_int (v_cons v_int v_nil))) (v_cons (v_var 5 rfl rfl) v_nil)) ⟨((2 : Int) : Rat), starF x y p q, rfl, (bd_int (n := 2) (by decide) (by decide)).le (by decide), s.bF.le (by decide), trivial, rfl⟩) v_nil)) ⟨_, _, rfl, (c1.add c2).le (by decide), ((bd_int (i := 2) (n := 2) (by decide) (by decide)).mul s.bF).le (by decide), trivial, rfl⟩).to (congrArg qD (by have : ((2 : Int) : Rat) = 2 := rfl; grind))) ?_ sc_L_day.nd
    exact g_ret (v_tup (v_cons (v_var 8 rfl rfl) (v_cons (v_var 9 rfl rfl) (v_cons (v_call hA rfl (v_cons (v_ix (v_var 0 rfl rfl) v_int) (v_cons (v_var 10 rfl rfl) v_nil)) ⟨back, _, rfl, hc.bd_back.le (by decide), (s.bW.add s.bA).le (by decide), trivial, rfl⟩) v_nil))))
end
end Ee

/-! scripts' cells, purses, picks -/
namespace Ee
open PySem PySem.Spec PyProof.Rows L2
def cellSt (s i : Int) : Int := (s * 20011 + i) % 1000000021
def cell0 (k : Nat) : Int := 70001 * ((k : Int) * (k : Int) + 11 * (k : Int) + 5) % 1000000021
def cellOf (ns : List Int) (k : Nat) : Int := match ns[k]? with
  | some i => i
  | none => (ns.take 4).foldl cellSt (cell0 k)
section
variable {P : Program} {w : World} {K : PySem.W.Frag} {mg : Str → Option Value} {base : Heap}
def R_cell : List D → D → Prop := fun ds d => ∃ (ns : List Int) (k : Nat), ds = [.lst (ns.map D.int), .int (k : Int)] ∧ k ≤ 10 ∧ d = .int (cellOf ns k)
theorem foldl_take {α β : Type} (f : β → α → β) (b : β) {l : List α} {i : Nat} {x : α} (h : l[i]? = some x) : (l.take (i + 1)).foldl f b = f ((l.take i).foldl f b) x := by
  rw [take_succ h, List.foldl_append]
  rfl
theorem ok_L_cell (B : Bt mg) (hD : Df K mg "_law_cell" s_L_cell p_L_cell) : Ok P w K mg base 1 "_law_cell" p_L_cell (PF K R_cell) :=
  ok_pf hD sc_L_cell (fun ds d h => by obtain ⟨_, _, rfl, _⟩ := h; rfl) fun ds d h => by
    obtain ⟨ns, k, rfl, hk, rfl⟩ := h
    by_cases hkn : k < ns.length
    · refine g_ifT (PB.to (b_lt (v_var 1 rfl rfl) (v_len (ds := ns.map D.int) rfl B.len (v_cons (v_var 0 rfl rfl) v_nil) rfl)) (decide_eq_true (by rw [List.length_map]; omega))) (g_ret (v_ixL (v_var 0 rfl rfl) (v_var 1 rfl rfl) (atD_nat ?_)))
      unfold cellOf
      rw [List.getElem?_map, List.getElem?_eq_getElem hkn]
      rfl
    · refine g_ifF (PB.to (b_lt (v_var 1 rfl rfl) (v_len (ds := ns.map D.int) rfl B.len (v_cons (v_var 0 rfl rfl) v_nil) rfl)) (decide_eq_false (by rw [List.length_map]; omega))) (g_pop ?_)
      refine g_set 2 (d := .int (cell0 k)) (v_mod (v_mul0 v_int (v_add (v_add (v_mul0 (v_var 1 rfl rfl) (v_var 1 rfl rfl) (.inl (by omega))) (v_mul0 v_int (v_var 1 rfl rfl) (.inl (by decide)))) v_int) (.inl (by decide))) v_int (by decide)) ?_ sc_L_cell.nd
      refine g_forL (ds := (ns.map D.int).take 4) (fun i => [some (.lst (ns.map D.int)), some (.int (k : Int)), some (.int (((ns.take 4).take i).foldl cellSt (cell0 k))), none]) (v_take (n := 4) (v_var 0 rfl rfl) v_int) sc_L_cell.nd (LeE.refl _) (fun i d hd => ?_) ?_
      · rw [← List.map_take] at hd
        obtain ⟨x, hx, rfl⟩ := map_at hd
        refine ⟨_, _, .name 3, ?_⟩
        refine g_set 2 (v_mod (v_add (v_mul0 (v_var 2 rfl rfl) v_int (.inr (by decide))) (v_var 3 rfl rfl)) v_int (by decide)) ?_ sc_L_cell.nd
        refine g_pop (g_end ?_)
        rw [foldl_take _ _ hx]
        exact .cons (.inr rfl) (.cons (.inr rfl) (.cons (.inr rfl) (.cons (.inl rfl) .nil)))
      · refine g_ret ((v_var 2 rfl rfl).to ?_)
        rw [List.length_take, List.length_map, List.take_of_length_le (by rw [List.length_take]; omega)]
        unfold cellOf
        rw [List.getElem?_eq_none (by omega)]
def R_purse : List D → List D → Prop := fun ds zs => ∃ c : Int, ds = [.int c] ∧ ∃ a b : Int, 0 ≤ b ∧ zs = [.int a, .int b, .int 0] ∧ a = c % 999999893 * 6007 + 2503 ∧ b = (if (10 : Int) ^ (18 : Int).toNat ≤ c then c else 0)
theorem ok_L_purse (B : Bt mg) (hD : Df K mg "_law_purse" s_L_purse p_L_purse) : Ok P w K mg base 1 "_law_purse" p_L_purse (PN K R_purse) :=
  ok_pn hD sc_L_purse (fun ds d h => by obtain ⟨_, rfl, _⟩ := h; rfl) fun ds zs h => by
    obtain ⟨c, rfl, a, b, h0, rfl, rfl, rfl⟩ := h
    refine gn_ret (n_lst (v_cons (v_add (v_mul0 (v_mod (v_var 0 rfl rfl) v_int (by decide)) v_int (.inr (by decide))) v_int) (v_cons (v_ixL (v_lst (v_cons v_int (v_cons (v_var 0 rfl rfl) v_nil))) (v_int1 rfl B.int (v_cons (v_ge (v_var 0 rfl rfl) (v_pow v_int v_int ⟨by decide, by decide, by decide⟩)) v_nil)) ?_) (v_cons v_int v_nil))) (show 3 ≤ 1000 by decide))
    by_cases h : (10 : Int) ^ (18 : Int).toNat ≤ c
    · rw [decide_eq_true h, if_pos h]
      rfl
    · rw [decide_eq_false h, if_neg h]
      rfl
def R_pick : List D → (D → Prop) → Prop := fun ds G => ∃ many : Int, ds = [.int many] ∧ 0 < many ∧ many ≤ 1000000 ∧ ∀ i : Int, 0 ≤ i → i < many → G (.int i)
theorem ok_L_pick (hD : Df K mg "_law_pick" s_L_pick p_L_pick) : Ok P w K mg base 1 "_law_pick" p_L_pick (PP K R_pick) :=
  ok_pp hD sc_L_pick (fun ds G h => by obtain ⟨_, rfl, _⟩ := h; rfl) fun ds G h a => by
    obtain ⟨many, rfl, h0, h1, hG⟩ := h
    refine m_open 0 rfl fun x y z hy => ?_
    refine m_setItem 0 (j := 2) (.lst 0 rfl (.same (.same (.same .nil)))) rfl (d := .int (z + 1)) (v_add (v_ixL (v_var 0 rfl rfl) v_int) v_int) (v_var 0 rfl rfl) v_int rfl (show 2 < 3 by decide) ?_
    refine m_setv 2 (.lst 0 rfl (.same (.same (.same .nil)))) (v_mod (i := x) (v_ixL (v_var 0 rfl rfl) v_int) v_int (by decide)) rfl ?_ sc_L_pick.nd
    refine m_setItem 0 (j := 0) (.lst 0 rfl (.same (.same (.same .nil)))) rfl (v_add (v_mul0 (v_var 2 rfl rfl) (v_add (v_mod (v_var 2 rfl rfl) v_int (by decide)) v_int) (.inl (by omega))) (v_mul0 v_int (v_ixL (d := .int (z + 1)) (v_var 0 rfl rfl) v_int) (.inl (by decide)))) (v_var 0 rfl rfl) v_int rfl (show 0 < 3 by decide) ?_
    generalize x % 999999893 * (x % 999999893 % 40009 + 10007) + 80021 * (z + 1) = u
    by_cases hp : 0 < y
    · refine m_ifTv (.lst 0 rfl (.same (.same (.same .nil)))) (PB.to (b_gt (v_ixL (d := .int y) (v_var 0 rfl rfl) v_int) v_int) (decide_eq_true hp)) ?_
      refine m_setv 3 (.lst 0 rfl (.same (.same (.same .nil)))) (v_mod (v_ixL (d := .int y) (v_var 0 rfl rfl) v_int) (v_var 1 rfl rfl) h0) rfl ?_ sc_L_pick.nd
      refine m_setItem 0 (j := 1) (.lst 0 rfl (.same (.same (.same .nil)))) rfl (v_fdiv0 (v_ixL (d := .int y) (v_var 0 rfl rfl) v_int) (v_var 1 rfl rfl) ⟨h0, by omega⟩) (v_var 0 rfl rfl) v_int rfl (show 1 < 3 by decide) ?_
      refine m_re 0 (c' := celP) rfl (celP_of (i := u) (j := y / many) (n := z + 1) (Int.ediv_nonneg hy (by omega))) ?_
      exact m_ret (z_p (v_var 3 rfl rfl)) fun d hd => ⟨_, List.Sublist.refl _, by rw [hd]; exact hG _ (Int.emod_nonneg _ (by omega)) (Int.emod_lt_of_pos _ h0), rfl⟩
    · refine m_ifFv (.lst 0 rfl (.same (.same (.same .nil)))) (PB.to (b_gt (v_ixL (d := .int y) (v_var 0 rfl rfl) v_int) v_int) (decide_eq_false hp)) (m_pop ?_)
      refine m_ret' (z_v (.lst 0 rfl (.same (.same (.same .nil)))) (v_mod (v_fdiv0 (v_mod (v_ixL (d := .int u) (v_var 0 rfl rfl) v_int) v_int (by decide)) v_int ⟨by decide, by decide⟩) (v_var 1 rfl rfl) h0)) fun d hd => ⟨_, fun H0 H mo => mo.put (k := 0) rfl (Tst.refl H) (fun _ _ _ => rfl) (celP_of (i := u) (j := y) (n := z + 1) hy H (mo.1 (a, celL K [.int u, .int y, .int (z + 1)]) (by exact List.mem_cons_self)).2), by rw [hd]; exact hG _ (Int.emod_nonneg _ (by omega)) (Int.emod_lt_of_pos _ h0), rfl⟩
end
end Ee

/-! a cable and two leaks out of a purse -/
namespace Ee
open PySem PySem.Spec PyProof.Rows L2
section
variable {S : Sx} {E E' : En} {m : Mem} {a b e : Expr} {pos p : Pos} {i : Int} {g g' ga gb : Int → Prop} {G : D → Prop}
theorem zi_v (w : VW S.K m E E') (he : PV S E' e (.int i)) : ZI S E m e (· = i) := (z_v w he).imp fun d h => ⟨i, h, rfl⟩
theorem zi_p (he : PV S E e (.int i)) : ZI S E m e (· = i) := zi_v (VW.refl _) he
theorem ZI.imp (h : ZI S E m e g) (k : ∀ i, g i → g' i) : ZI S E m e g' := ZM.imp h fun d ⟨i, e, h⟩ => ⟨i, e, k i h⟩
theorem zs_one (h : ZM S E m e G) (hi : ∀ d, G d → imm d = true) (hs : ∀ env : PySem.Env, starEach [e] env = (false, eval e env) :: starEach [] env := by intro _; rfl) : ZVs S E m [e] (fun ds => ∃ d, ds = [d] ∧ G d) :=
  (zs_cons h hi zs_nil hs).imp fun ds h => by
    obtain ⟨d, r, rfl, h1, rfl⟩ := h
    exact ⟨d, rfl, h1⟩
theorem z_pick {l : Addr} (k : Nat) (hP : Ok S.P S.w S.K S.mg S.base 1 "_law_pick" p_L_pick (PP S.K R_pick)) (hg : GlS S "_law_pick") (hm' : m[k]? = some (l, celP)) (ha : PV S E a (.adr l)) (hz : ZI S E m b g) (h : ∀ i, g i → 0 < i ∧ i ≤ 1000000 ∧ ∀ j, 0 ≤ j → j < i → g' j) (hk : Nat.ble 1 S.k = true := by rfl)
    (he : St1 a [b] := by intro _; rfl) (hpl : NoSt [b] pos := by intro _; rfl) (hs : ∀ env : PySem.Env, starEach [b] env = (false, eval b env) :: starEach [] env := by intro _; rfl) : ZI S E m (.Call (.Name "_law_pick" p) [a, b] [] pos) g' :=
  z_callP k hP hg hm' ha (zs_one hz (fun d ⟨i, e, _⟩ => by subst e; rfl) hs) (fun ds ⟨d, e, i, e2, _⟩ => by subst e e2; rfl) (fun ds ⟨d, e, i, e2, hi⟩ => by
    subst e e2
    obtain ⟨h1, h2, h3⟩ := h i hi
    exact ⟨i, rfl, h1, h2, fun j a b => ⟨j, rfl, h3 j a b⟩⟩) hk (by decide) he hpl
theorem z_Llow (hL : OkLlow S.P S.w S.K S.mg S.base) (hg : GlS S "_law_low") (ha : ZI S E m a ga) (hb : ZI S E m b gb) (h : ∀ i, gb i → 0 < i ∧ i ≤ 1000000) (hk : Nat.ble 2 S.k = true := by rfl)
    (he : St1 a [b] := by intro _; rfl) (hpl : NoSt [b] pos := by intro _; rfl) (hs : ∀ env : PySem.Env, starEach [b] env = (false, eval b env) :: starEach [] env := by intro _; rfl) : ZM S E m (.Call (.Name "_law_low" p) [a, b] [] pos) (fun d => ∃ t b : Int, ga t ∧ gb b ∧ d = qD (Rat.divInt t b)) :=
  z_call hL hg (zs_cons ha (fun d ⟨i, e, _⟩ => by subst e; rfl) (zs_one hb (fun d ⟨i, e, _⟩ => by subst e; rfl) hs) he) (fun ds ⟨d, r, e, ⟨t, e1, h1⟩, d2, e3, u, e4, h4⟩ => by
    subst e e1 e3 e4
    obtain ⟨h5, h6⟩ := h u h4
    exact ⟨_, ⟨t, u, rfl, by omega, Nat.lt_of_lt_of_le (show u.natAbs < 2 ^ 20 by omega) (Nat.pow_le_pow_right (by decide) (by decide)), rfl⟩, t, u, h1, h4, rfl⟩) hk (by decide) he hpl
end
theorem div_bd {t b : Int} {n m : Int} (ht : 0 < t) (hb : 0 < b) (hn : t ≤ n) (hm : b ≤ m) : 0 < Rat.divInt t b ∧ (Rat.divInt t b).num ≤ n ∧ ((Rat.divInt t b).den : Int) ≤ m := by
  obtain ⟨h1, h2⟩ := low_pos (t := t) hb
  have hg : 0 < Nat.gcd t.natAbs b.natAbs := Nat.gcd_pos_of_pos_right _ (by omega)
  have hd : ((Nat.gcd t.natAbs b.natAbs : Nat) : Int) ∣ t := by
    have := Nat.gcd_dvd_left t.natAbs b.natAbs
    exact Int.ofNat_dvd_left.mpr this
  refine ⟨?_, ?_, ?_⟩
  · rw [← num_pos, h1]
    exact Int.ediv_pos_of_pos_of_dvd ht (by omega) hd
  · rw [h1]
    exact Int.le_trans (Int.ediv_le_self _ (by omega)) hn
  · rw [h2]
    exact Int.le_trans (Int.ediv_le_self _ (by omega)) hm
section
variable {P : Program} {w : World} {K : PySem.W.Frag} {mg : Str → Option Value} {base : Heap}
abbrev OkPick (P : Program) (w : World) (K : PySem.W.Frag) (mg : Str → Option Value) (base : Heap) : Prop := Ok P w K mg base 1 "_law_pick" p_L_pick (PP K R_pick)
def R_mkcable : List D → (D → Prop) → Prop := fun ds G => ∃ most : Int, ds = [.int most] ∧ 0 < most ∧ most ≤ 12 ∧ ∀ ls back, CabOk ls back → G (cabD ls back)
theorem in_menu3 {d x y z : D} (h : d ∈ [x, y, z]) : d = x ∨ d = y ∨ d = z := by simpa using h
theorem in_menu4 {d x y z u : D} (h : d ∈ [x, y, z, u]) : d = x ∨ d = y ∨ d = z ∨ d = u := by simpa using h
theorem ok_L_cable (B : Bt mg) (hP : OkPick P w K mg base) (hL : OkLlow P w K mg base) (hD : Df K mg "_law_cable" s_L_cable p_L_cable) : Ok P w K mg base 3 "_law_cable" p_L_cable (PP K R_mkcable) :=
  ok_pp hD sc_L_cable (fun ds G h => by obtain ⟨_, rfl, _⟩ := h; rfl) fun ds G h a => by
    obtain ⟨most, rfl, h0, h1, hG⟩ := h
    refine m_newL 2 v_nil rfl (by decide) (fun l => ?_) sc_L_cable.nd
    refine m_forR1 (g := fun n => 1 ≤ n ∧ n ≤ 12) (fun n i E m => ∃ ls : Lens, ls.length = i ∧ (∀ p ∈ ls, LenOk p) ∧ E = [some (.adr a), some (.int most), some (.adr l), none, none] ∧ m = [(a, celP), (l, celL K (ls.map lnD))]) rfl B.range
      ((z_add (zi_p v_int) (z_pick (g' := fun j => 0 ≤ j ∧ j < 12) 0 hP rfl rfl (v_var 0 rfl rfl) (zi_p (v_var 1 rfl rfl)) (fun i e => by subst e; exact ⟨h0, by omega, fun j a b => ⟨a, by omega⟩⟩))).imp fun k ⟨i, j, e, h, e2⟩ => by subst e e2; omega)
      (fun n h => by omega) sc_L_cable.nd (fun n hn => ⟨[], rfl, by simp, rfl, rfl⟩) (fun n hn i E m hi hI => ?_) (fun n hn E m hI => ?_)
    · obtain ⟨ls, e1, h2, rfl, rfl⟩ := hI
      refine ⟨_, _, .name 3, ?_⟩
      refine m_set 4 (G := fun d => ∃ i, d = .int i ∧ 1 ≤ i ∧ i ≤ 999) ((z_add (zi_p v_int) (z_pick (g' := fun j => 0 ≤ j ∧ j < 999) 0 hP rfl rfl (v_var 0 rfl rfl) ((z_menu (ds := [.int 9, .int 40, .int 999]) (v_cons v_int (v_cons v_int (v_cons v_int v_nil))) (z_pick (g' := fun j => 0 ≤ j ∧ j < 3) 0 hP rfl rfl (v_var 0 rfl rfl) (zi_p v_int) (fun i e => by subst e; exact ⟨by decide, by decide, fun j a b => ⟨a, b⟩⟩)) (fun i h => ⟨h.1, h.2⟩) rfl (by decide)).imp (Ga := fun d => ∃ i, d = .int i ∧ 0 < i ∧ i ≤ 999) fun d hd => by
          rcases in_menu3 hd with h | h | h <;> exact ⟨_, h, by decide, by decide⟩) (fun i h => ⟨h.1, by omega, fun j a b => ⟨a, by omega⟩⟩))).imp fun k ⟨i, j, e, h, e2⟩ => by subst e e2; omega) (fun d hd => ?_) sc_L_cable.nd
      obtain ⟨s, rfl, s1, s2⟩ := hd
      refine ⟨rfl, ?_⟩
      refine m_app 1 (G := fun d => ∃ p : Int × Rat, d = lnD p ∧ LenOk p) rfl (v_var 2 rfl rfl) ((z_tup (zs_cons (z_p (v_var 4 rfl rfl)) (fun d e => by subst e; rfl) (zs_one (z_Llow hL rfl (z_add (zi_p v_int) (z_pick (g' := fun j => 0 ≤ j ∧ j < 9) 0 hP rfl rfl (v_var 0 rfl rfl) (zi_p v_int) (fun i e => by subst e; exact ⟨by decide, by decide, fun j a b => ⟨a, b⟩⟩)))
        ((z_menu (ds := [.int 1, .int 1, .int 2, .int 3]) (v_cons v_int (v_cons v_int (v_cons v_int (v_cons v_int v_nil)))) (z_pick (g' := fun j => 0 ≤ j ∧ j < 4) 0 hP rfl rfl (v_var 0 rfl rfl) (zi_p v_int) (fun i e => by subst e; exact ⟨by decide, by decide, fun j a b => ⟨a, b⟩⟩)) (fun i h => ⟨h.1, h.2⟩) rfl (by decide)).imp (Ga := fun d => ∃ i, d = .int i ∧ 0 < i ∧ i ≤ 3) fun d hd => by
          rcases in_menu4 hd with h | h | h | h <;> exact ⟨_, h, by decide, by decide⟩) (fun i h => ⟨h.1, by omega⟩)) (fun d ⟨t, b, _, _, e⟩ => by subst e; rfl))) (fun ds ⟨d, r, e, _, d2, e2, _⟩ => by subst e e2; exact (show 2 ≤ 1000 by decide))).imp fun d h => ?_) (fun d ⟨p, e, _⟩ => by subst e; rfl) (by rw [List.length_map]; omega) (fun d hd => ?_)
      · obtain ⟨ds, rfl, d1, r, rfl, rfl, d2, rfl, t, b, ⟨i, j, e1, h3, e2⟩, h4, rfl⟩ := h
        subst e1 e2
        obtain ⟨k1, k2, k3⟩ := div_bd (t := 1 + j) (b := b) (n := 9) (m := 3) (by omega) h4.1 (by omega) h4.2
        exact ⟨(s, Rat.divInt (1 + j) b), rfl, s1, s2, k1, k2, by show (Rat.divInt (1 + j) b).den ≤ 3; omega⟩
      · obtain ⟨p, rfl, hp⟩ := hd
        refine m_pop (m_end (E' := [some (.adr a), some (.int most), some (.adr l), none, none]) (.cons (.inr rfl) (.cons (.inr rfl) (.cons (.inr rfl) (.cons (.inl rfl) (.cons (.inl rfl) .nil))))) (List.Sublist.refl _) ⟨ls ++ [p], by rw [List.length_append, e1]; rfl, fun q hq => ?_, rfl, ?_⟩)
        · rcases List.mem_append.mp hq with hq | hq
          · exact h2 q hq
          · have : q = p := by simpa using hq
            rw [this]; exact hp
        · rw [List.map_append]
          rfl
    · obtain ⟨ls, e1, h2, rfl, rfl⟩ := hI
      refine m_ret (z_tup (zs_cons (z_v (.same (.same (.lst 1 rfl (.same (.same .nil))))) (v_tupleOf rfl B.tuple (v_cons (v_var 2 rfl rfl) v_nil))) (fun d e => by subst e; exact immA_of fun x hx => by obtain ⟨y, _, rfl⟩ := List.mem_map.mp hx; rfl) (zs_one (z_Llow hL rfl (z_pick (g' := fun j => 0 ≤ j ∧ j < 30) 0 hP rfl rfl (v_var 0 rfl rfl) (zi_p v_int) (fun i e => by subst e; exact ⟨by decide, by decide, fun j a b => ⟨a, b⟩⟩))
        (z_add (zi_p v_int) (z_pick (g' := fun j => 0 ≤ j ∧ j < 3) 0 hP rfl rfl (v_var 0 rfl rfl) (zi_p v_int) (fun i e => by subst e; exact ⟨by decide, by decide, fun j a b => ⟨a, b⟩⟩))) (fun i ⟨x, y, e, h, e2⟩ => by subst e e2; omega)) (fun d ⟨t, b, _, _, e⟩ => by subst e; rfl))) (fun ds ⟨d, r, e, _, d2, e2, _⟩ => by subst e e2; exact (show 2 ≤ 1000 by decide))) fun d h => ⟨[(a, celP)], ?_, ?_, rfl⟩
      · exact .cons_cons _ (.cons _ .slnil)
      · obtain ⟨ds, rfl, d1, r, rfl, rfl, d2, rfl, t, b, h3, ⟨i, j, e2, h4, e3⟩, rfl⟩ := h
        subst e2 e3
        refine hG ls (Rat.divInt t (1 + j)) ⟨by omega, by omega, h2, ?_, ?_, ?_⟩
        all_goals
          by_cases ht : t = 0
          · subst ht
            rw [Rat.zero_divInt]
            decide
          · obtain ⟨k1, k2, k3⟩ := div_bd (t := t) (b := 1 + j) (n := 29) (m := 3) (by omega) (by omega) (by omega) (by omega)
            first | exact Rat.le_of_lt k1 | omega
end
end Ee

/-! two leaks out of a purse -/
namespace Ee
open PySem PySem.Spec PyProof.Rows L2
theorem sum_fst : ∀ ls : Lens, (ls.map (·.1)).sum = stp ls
  | [] => rfl
  | p :: t => by
    rw [List.map_cons, List.sum_cons, sum_fst t]
    rfl
theorem stp_take_lt {ls : Lens} (h : ∀ p ∈ ls, LenOk p) {i j : Nat} (hij : i < j) (hj : j ≤ ls.length) : stp (ls.take i) < stp (ls.take j) := by
  have e : ls.take j = ls.take i ++ (ls.take j).drop i := by
    have := List.take_append_drop i (ls.take j)
    rw [List.take_take, Nat.min_eq_left (by omega)] at this
    exact this.symm
  rw [e, stp_app]
  have hne : (ls.take j).drop i ≠ [] := by
    intro z
    have := congrArg List.length z
    rw [List.length_drop, List.length_take] at this
    simp at this
    omega
  have pos : ∀ {t : Lens}, (∀ p ∈ t, LenOk p) → t ≠ [] → 0 < stp t := fun {t} ht h0 => by
    cases t with
    | nil => exact absurd rfl h0
    | cons p t =>
      have h1 := (ht p List.mem_cons_self).1
      have h2 := (stp_nn fun q hq => ht q (List.mem_cons_of_mem _ hq)).1
      show 0 < p.1 + stp t
      omega
  have := pos (t := (ls.take j).drop i) (fun p hp => h p (List.mem_of_mem_take (List.mem_of_mem_drop hp))) hne
  omega
theorem stp_take_le {ls : Lens} (h : ∀ p ∈ ls, LenOk p) (j : Nat) : 0 ≤ stp (ls.take j) ∧ stp (ls.take j) ≤ stp ls := by
  have e := List.take_append_drop j ls
  have h1 := (stp_nn fun q hq => h q (List.mem_of_mem_take (i := j) hq)).1
  have h2 := (stp_nn fun q hq => h q (List.mem_of_mem_drop (i := j) hq)).1
  have h3 := stp_app (ls.take j) (ls.drop j)
  rw [e] at h3
  omega
/-- places in sixths make leaks -/
theorem leaks_mk {ls : Lens} {back : Rat} (C : CabOk ls back) {at' to' : Int} {p q : Rat} (h0 : 0 ≤ at') (h1 : at' < to') (h2 : to' ≤ 6 * stp ls) (p0 : 0 < p) (q0 : 0 < q) (bp : Bd p 10) (bq : Bd q 10) : Leaks ls back (Rat.divInt at' 6) (Rat.divInt to' 6) p q := by
  have six : ((6 : Int) : Rat) = 6 := rfl
  have e : ∀ t : Int, (6 : Rat) * Rat.divInt t 6 = (t : Rat) := fun t => by
    rw [Rat.divInt_eq_div, six]
    grind
  have ith : ∀ t : Int, Ith 6 (Rat.divInt t 6) := fun t => ⟨t, by rw [six]; exact e t⟩
  have hs := stp_nn C.each
  have hm := C.most
  have z : ∀ a b : Int, a < b → (a : Rat) < (b : Rat) := fun a b h => Rat.intCast_lt_intCast.mpr h
  have z' : ∀ a b : Int, a ≤ b → (a : Rat) ≤ (b : Rat) := fun a b h => Rat.intCast_le_intCast.mpr h
  have bd : ∀ t : Int, 0 ≤ t → t ≤ 6 * stp ls → Bd (Rat.divInt t 6) 20 := fun t a b => bd_divInt (by decide) (by omega) (by decide)
  have lt : Rat.divInt at' 6 < Rat.divInt to' 6 := by
    have := z _ _ h1
    have := e at'
    have := e to'
    grind
  have l0 : 0 ≤ Rat.divInt at' 6 := by
    have := z' _ _ h0
    have := e at'
    have : ((0 : Int) : Rat) = 0 := rfl
    grind
  have l1 : Rat.divInt to' 6 ≤ ((stp ls : Int) : Rat) := by
    have h3 := z' _ _ h2
    rw [Rat.intCast_mul, six] at h3
    have := e to'
    grind
  exact ⟨⟨C, C.bd_at (ith _), C.bd_at (ith _), bp, bq, dTo_nn C.each _, dTo_lt C.each lt l0 l1, C.le_all _, p0, q0⟩, bd _ h0 (by omega), bd _ (by omega) h2⟩
section
variable {P : Program} {w : World} {K : PySem.W.Frag} {mg : Str → Option Value} {base : Heap}
def R_mktwo : List D → (D → Prop) → Prop := fun ds G => ∃ ls back, ds = [cabD ls back] ∧ CabOk ls back ∧ ∀ l1 l2 p q, Leaks ls back l1 l2 p q → G (.tup [pqD (l1, p), pqD (l2, q)])
theorem ok_L_two (B : Bt mg) (hP : OkPick P w K mg base) (hL : OkLlow P w K mg base) (hD : Df K mg "_law_two" s_L_two p_L_two) : Ok P w K mg base 3 "_law_two" p_L_two (PP K R_mktwo) :=
  ok_pp hD sc_L_two (fun ds G h => by obtain ⟨_, _, rfl, _⟩ := h; rfl) fun ds G h a => by
    obtain ⟨ls, back, rfl, C, hG⟩ := h
    have hs := stp_nn C.each
    have hlen := C.some
    have hmost := C.most
    have s1 : 1 ≤ stp ls := by
      have := stp_take_lt C.each (i := 0) (j := ls.length) (by omega) (Nat.le_refl _)
      rw [List.take_length] at this
      have e0 : stp (ls.take 0) = 0 := rfl
      omega
    have stepsE : (ls.filterMap fun p => some (D.int p.1)) = (ls.map (·.1)).map D.int := by
      rw [fm_some, List.map_map]
      rfl
    refine m_setLcT (l := ls) (g := lnD) (f := fun p => some (.int p.1)) 2 [("_law_part", 11)] sc_L_two.nd (blkOk_by (N := n_L_two) (sc := defScope s_L_two) (by decide +kernel)) rfl rfl rfl rfl rfl (VW.refl _) (v_ix (v_var 1 rfl rfl) v_int) (by omega) (by rw [stepsE]; exact immA_of fun x hx => by obtain ⟨y, _, rfl⟩ := List.mem_map.mp hx; rfl) (fun x hx => ⟨_, _, .name 11, by decide, rfl, fun y hy => by
      cases hy
      exact ⟨v_ix (v_var 11 rfl rfl) v_int, rfl⟩⟩) (fun s => ?_)
    rw [stepsE]
    have tail : ∀ at' to' : Int, 0 ≤ at' → at' < to' → to' ≤ 6 * stp ls → ∀ E : En, LeE [some (.adr a), some (cabD ls back), some (.adr s), none, some (.int at'), none, some (.int to'), none, none, none, none, none] E →
        GoM (sx P w K mg base n_L_two s_L_two 2) [(defBody s_L_two).drop 6] E [(a, celP), (s, celL K ((ls.map (·.1)).map D.int))] (fun _ _ => False) (fun d' m' => G d' ∧ m' = [(a, celP)]) := fun at' to' h0 h1 h2 E hE => by
      refine m_weak hE ?_
      refine m_newL 9 v_nil rfl (by decide) (fun l => ?_) sc_L_two.nd
      refine m_forR1 (g := (· = 2)) (fun n i E m => ∃ rs : List Rat, rs.length = i ∧ (∀ r ∈ rs, 0 < r ∧ Bd r 10) ∧ E = [some (.adr a), some (cabD ls back), some (.adr s), none, some (.int at'), none, some (.int to'), none, none, some (.adr l), none, none] ∧ m = [(a, celP), (s, celL K ((ls.map (·.1)).map D.int)), (l, celL K (rs.map qD))]) rfl B.range
        (zi_p v_int) (fun n h => by omega) sc_L_two.nd (fun n hn => ⟨[], rfl, by simp, rfl, rfl⟩) (fun n hn i E m hi hI => ?_) (fun n hn E m hI => ?_)
      · obtain ⟨rs, e1, r1, rfl, rfl⟩ := hI
        refine ⟨_, _, .name 10, ?_⟩
        refine m_app 2 (G := fun d => ∃ r : Rat, d = qD r ∧ 0 < r ∧ Bd r 10) rfl (v_var 9 rfl rfl) ((z_Llow hL rfl (z_add (zi_p v_int) (z_pick (g' := fun j => 0 ≤ j ∧ j < 900) 0 hP rfl rfl (v_var 0 rfl rfl) ((z_menu (ds := [.int 60, .int 3, .int 900]) (v_cons v_int (v_cons v_int (v_cons v_int v_nil))) (z_pick (g' := fun j => 0 ≤ j ∧ j < 3) 0 hP rfl rfl (v_var 0 rfl rfl) (zi_p v_int) (fun i e => by subst e; exact ⟨by decide, by decide, fun j a b => ⟨a, b⟩⟩)) (fun i h => ⟨h.1, h.2⟩) rfl (by decide)).imp (Ga := fun d => ∃ i, d = .int i ∧ 0 < i ∧ i ≤ 900) fun d hd => by
            rcases in_menu3 hd with h | h | h <;> exact ⟨_, h, by decide, by decide⟩) (fun i h => ⟨h.1, by omega, fun j a b => ⟨a, by omega⟩⟩)))
          (z_add (zi_p v_int) (z_pick (g' := fun j => 0 ≤ j ∧ j < 2) 0 hP rfl rfl (v_var 0 rfl rfl) (zi_p v_int) (fun i e => by subst e; exact ⟨by decide, by decide, fun j a b => ⟨a, b⟩⟩))) (fun i ⟨x, y, e, h, e2⟩ => by subst e e2; omega)).imp fun d ⟨t, b, ⟨x, y, e, h, e2⟩, ⟨x2, y2, e3, h3, e4⟩, e5⟩ => by
            subst e e2 e3 e4 e5
            obtain ⟨k1, k2, k3⟩ := div_bd (t := 1 + y) (b := 1 + y2) (n := 900) (m := 2) (by omega) (by omega) (by omega) (by omega)
            exact ⟨_, rfl, k1, by have := num_pos.mpr k1; omega, by omega⟩) (fun d ⟨r, e, _⟩ => by subst e; rfl) (by rw [List.length_map]; omega) (fun d hd => ?_)
        obtain ⟨r, rfl, hr⟩ := hd
        refine m_pop (m_end (E' := [some (.adr a), some (cabD ls back), some (.adr s), none, some (.int at'), none, some (.int to'), none, none, some (.adr l), none, none]) (.cons (.inr rfl) (.cons (.inr rfl) (.cons (.inr rfl) (.cons (.inr rfl) (.cons (.inr rfl) (.cons (.inr rfl) (.cons (.inr rfl) (.cons (.inr rfl) (.cons (.inr rfl) (.cons (.inr rfl) (.cons (.inl rfl) (.cons (.inl rfl) .nil)))))))))))) (List.Sublist.refl _) ⟨rs ++ [r], by rw [List.length_append, e1]; rfl, fun q hq => ?_, rfl, ?_⟩)
        · rcases List.mem_append.mp hq with hq | hq
          · exact r1 q hq
          · have : q = r := by simpa using hq
            rw [this]; exact hr
        · rw [List.map_append]
          rfl
      · obtain ⟨rs, e1, r1, rfl, rfl⟩ := hI
        subst hn
        obtain ⟨p, q, rfl⟩ : ∃ p q, rs = [p, q] := by
          match rs, e1 with
          | [p, q], _ => exact ⟨p, q, rfl⟩
        obtain ⟨p0, bp⟩ := r1 p (by simp)
        obtain ⟨q0, bq⟩ := r1 q (by simp)
        have lk := leaks_mk C h0 h1 h2 p0 q0 bp bq
        refine m_ret (z_v (.same (.same (.same (.same (.same (.same (.same (.same (.same (.lst 2 rfl (.same (.same .nil)))))))))))) (v_tup (v_cons (v_tup (v_cons (v_call hL rfl (v_cons (v_var 4 rfl rfl) (v_cons v_int v_nil)) ⟨at', 6, rfl, by decide, Nat.lt_of_lt_of_le (show (6 : Int).natAbs < 2 ^ 20 by decide) (Nat.pow_le_pow_right (by decide) (by decide)), rfl⟩) (v_cons (v_ixL (d := qD p) (v_var 9 rfl rfl) v_int) v_nil)))
          (v_cons (v_tup (v_cons (v_call hL rfl (v_cons (v_var 6 rfl rfl) (v_cons v_int v_nil)) ⟨to', 6, rfl, by decide, Nat.lt_of_lt_of_le (show (6 : Int).natAbs < 2 ^ 20 by decide) (Nat.pow_le_pow_right (by decide) (by decide)), rfl⟩) (v_cons (v_ixL (d := qD q) (v_var 9 rfl rfl) v_int) v_nil))) v_nil)))) fun d e => ⟨[(a, celP)], .cons_cons _ (.cons _ (.cons _ .slnil)), ?_, rfl⟩
        rw [e]
        exact hG _ _ p q lk
    refine m_setv 3 (d := .int (6 * stp ls)) (.same (.same (.lst 1 rfl (.same (.same (.same (.same (.same (.same (.same (.same (.same .nil)))))))))))) ((v_mul0 v_int (v_sum rfl B.sum (v_cons (v_var 2 rfl rfl) v_nil)) (.inl (by decide))).to (by rw [sum_fst])) rfl ?_ sc_L_two.nd
    refine m_set 4 (z_pick (g' := fun j => 0 ≤ j ∧ j < 6 * stp ls) 0 hP rfl rfl (v_var 0 rfl rfl) (zi_p (v_var 3 rfl rfl)) (fun i e => by subst e; exact ⟨by omega, by omega, fun j a b => ⟨a, b⟩⟩)) (fun d hd => ?_) sc_L_two.nd
    obtain ⟨at', rfl, a0, a1⟩ := hd
    refine ⟨rfl, ?_⟩
    refine m_set 5 (G := fun d => ∃ f, d = .int f ∧ 1 ≤ f ∧ f ≤ 6 * stp ls - at') ((z_menu (v_cons (v_sub (v_var 3 rfl rfl) (v_var 4 rfl rfl)) (v_cons (v_min2 rfl B.min (v_cons (v_sub (v_var 3 rfl rfl) (v_var 4 rfl rfl)) (v_cons v_int v_nil))) (v_cons (v_min2 rfl B.min (v_cons (v_sub (v_var 3 rfl rfl) (v_var 4 rfl rfl)) (v_cons v_int v_nil))) v_nil))) (z_pick (g' := fun j => 0 ≤ j ∧ j < 3) 0 hP rfl rfl (v_var 0 rfl rfl) (zi_p v_int) (fun i e => by subst e; exact ⟨by decide, by decide, fun j a b => ⟨a, b⟩⟩)) (fun i h => ⟨h.1, h.2⟩) rfl (show 3 ≤ 1000 by decide)).imp fun d hd => by
      rcases in_menu3 hd with h | h | h
      · exact ⟨_, h, by omega, by omega⟩
      · exact ⟨_, h, by split <;> omega, by split <;> omega⟩
      · exact ⟨_, h, by split <;> omega, by split <;> omega⟩) (fun d hd => ?_) sc_L_two.nd
    obtain ⟨f, rfl, f0, f1⟩ := hd
    refine ⟨rfl, ?_⟩
    refine m_set 6 ((z_add (zi_p (v_add (v_var 4 rfl rfl) v_int)) (z_pick (g' := fun j => 0 ≤ j ∧ j < f) 0 hP rfl rfl (v_var 0 rfl rfl) (zi_p (v_var 5 rfl rfl)) (fun i e => by subst e; exact ⟨by omega, by omega, fun j a b => ⟨a, b⟩⟩))).imp (g' := fun t => at' < t ∧ t ≤ 6 * stp ls) fun k ⟨i, j, e, h, e2⟩ => by subst e e2; omega) (fun d hd => ?_) sc_L_two.nd
    obtain ⟨to', rfl, t0, t1⟩ := hd
    refine ⟨rfl, ?_⟩
    refine m_if (z_eqI (z_pick (g' := fun j => 0 ≤ j ∧ j < 4) 0 hP rfl rfl (v_var 0 rfl rfl) (zi_p v_int) (fun i e => by subst e; exact ⟨by decide, by decide, fun j a b => ⟨a, b⟩⟩)) (zi_p v_int)) fun b _ => ?_
    cases b with
    | false =>
      refine m_pop (tail at' to' a0 t0 t1 _ ?_)
      exact .cons (.inr rfl) (.cons (.inr rfl) (.cons (.inr rfl) (.cons (.inl rfl) (.cons (.inr rfl) (.cons (.inl rfl) (.cons (.inr rfl) (.cons (.inr rfl) (.cons (.inr rfl) (.cons (.inr rfl) (.cons (.inr rfl) (.cons (.inr rfl) .nil)))))))))))
    | true =>
      have lenE : ((ls.map (·.1)).map D.int).length = ls.length := by rw [List.length_map, List.length_map]
      refine m_set 7 (z_pick (g' := fun j => 0 ≤ j ∧ j < (ls.length : Int)) 0 hP rfl rfl (v_var 0 rfl rfl) (zi_v (i := (ls.length : Int)) (.same (.same (.lst 1 rfl (.same (.same (.same (.same (.same (.same (.same (.same (.same .nil)))))))))))) ((v_len rfl B.len (v_cons (v_var 2 rfl rfl) v_nil) rfl).to (by rw [lenE]))) (fun i e => by subst e; exact ⟨by omega, by omega, fun j a b => ⟨a, b⟩⟩)) (fun d hd => ?_) sc_L_two.nd
      obtain ⟨cut, rfl, c0, c1⟩ := hd
      refine ⟨rfl, ?_⟩
      refine m_set 8 ((z_add (zi_p (v_add (v_var 7 rfl rfl) v_int)) (z_pick (g' := fun j => 0 ≤ j ∧ j < (ls.length : Int) - cut) 0 hP rfl rfl (v_var 0 rfl rfl) (zi_v (i := (ls.length : Int) - cut) (.same (.same (.lst 1 rfl (.same (.same (.same (.same (.same (.same (.same (.same (.same .nil)))))))))))) ((v_sub (v_len rfl B.len (v_cons (v_var 2 rfl rfl) v_nil) rfl) (v_var 7 rfl rfl)).to (by rw [lenE]))) (fun i e => by subst e; exact ⟨by omega, by omega, fun j a b => ⟨a, b⟩⟩))).imp (g' := fun t => cut < t ∧ t ≤ (ls.length : Int)) fun k ⟨i, j, e, h, e2⟩ => by subst e e2; omega) (fun d hd => ?_) sc_L_two.nd
      obtain ⟨end', rfl, e0, e1⟩ := hd
      refine ⟨rfl, ?_⟩
      obtain ⟨cn, rfl⟩ : ∃ n : Nat, cut = (n : Int) := ⟨cut.toNat, by omega⟩
      obtain ⟨en, rfl⟩ : ∃ n : Nat, end' = (n : Int) := ⟨end'.toNat, by omega⟩
      have sumE : ∀ n : Nat, ((ls.map (·.1)).map D.int).take n = ((ls.take n).map (·.1)).map D.int := fun n => by
        rw [← List.map_take, ← List.map_take]
      refine m_parv 4 6 (x := .int (6 * stp (ls.take cn))) (y := .int (6 * stp (ls.take en))) (.same (.same (.lst 1 rfl (.same (.same (.same (.same (.same (.same (.same (.same (.same .nil))))))))))))
        (v_cons ((v_mul0 v_int (v_sum rfl B.sum (v_cons ((v_take (v_var 2 rfl rfl) (v_var 7 rfl rfl)).to (congrArg D.lst (sumE cn))) v_nil)) (.inl (by decide))).to (by rw [sum_fst])) (v_cons ((v_mul0 v_int (v_sum rfl B.sum (v_cons ((v_take (v_var 2 rfl rfl) (v_var 8 rfl rfl)).to (congrArg D.lst (sumE en))) v_nil)) (.inl (by decide))).to (by rw [sum_fst])) v_nil)) rfl rfl ?_ sc_L_two.nd
      have h1 := stp_take_lt C.each (i := cn) (j := en) (by omega) (by omega)
      have h2 := stp_take_le C.each cn
      have h3 := stp_take_le C.each en
      refine m_pop (tail (6 * stp (ls.take cn)) (6 * stp (ls.take en)) (by omega) (by omega) (by omega) _ ?_)
      exact .cons (.inr rfl) (.cons (.inr rfl) (.cons (.inr rfl) (.cons (.inl rfl) (.cons (.inr rfl) (.cons (.inl rfl) (.cons (.inr rfl) (.cons (.inl rfl) (.cons (.inl rfl) (.cons (.inr rfl) (.cons (.inr rfl) (.cons (.inr rfl) .nil)))))))))))
end
end Ee

/-! sorted(d), d a dict with pairs of ints as keys -/
namespace Ee
open PySem PySem.Spec PyProof.Rows L2
def unr : Value → Addr
  | .ref a => a
  | _ => 0
section
variable {X : Cx}
def rSortedDT : List V → Hp → VK → Prop := fun xs H Q => ∃ (a : Addr) (kvs : List (List L2.Key × V)), xs = [V.ref a] ∧ Rd H a (.dT kvs) ∧ kvs.length < 64 ∧ (∀ p ∈ kvs, ∃ ns : List Int, p.1 = ns.map Sum.inl ∧ ns.length = 2 ∧ TS.Bd 64 ns) ∧
  ∀ (bs bs' : List Addr) (p : Addr), IsKeys H kvs bs → bs'.Perm bs → bs'.Pairwise (fun x y => ∀ n m : List Int, H x = some (.tup (n.map V.int)) → H y = some (.tup (m.map V.int)) → TS.code 64 n ≤ TS.code 64 m) → H p = none → Q (.ref p) (upd H p (.lst (bs'.map V.ref)))
theorem kV_ints (ns : List Int) : (ns.map Sum.inl : List L2.Key).map kV = ns.map V.int := by
  rw [List.map_map]
  rfl
theorem cr_sortedDT (hc : X.calm = true) : CallR X (.builtin "sorted") rSortedDT := by
  intro pins s σ H xs us Q I r h
  obtain ⟨a, kvs, rfl, hd, h64, hk, q⟩ := h
  obtain ⟨u, rfl, rx⟩ := r.one
  cases rx
  obtain ⟨z, hs, ks, pr, o, es, ep, ho, hx, hdt, he, hn⟩ := (show ObjOk X.prog X.w H s.heap a (.dT kvs) from hd.ok I.hok)
  have l1 : es.size = ks.length := size_of_entries he
  have l2 : kvs.length = ks.length := Paired.length pr
  have keys := isKeys_of pr
  refine Calls.call_function_entry PyProof.Rows.kind_sorted PyProof.Rows.plain_sorted PyProof.Rows.entry_sorted (PyProof.Rows.args_sorted1 _) ?_
  unfold Builtin.«sorted»
  refine wpAny_bind (m := checkCount "sorted" 1 1 _) (wpAny_pure ?_)
  refine wpAny_bind (PySem.W.kdu_collect (A := X.A.in1) (kdl_raw hs hx hdt) (I.ok.hd hc) ho (by rw [sizeLine_eq]; omega) fun h' tk acc kp it => ?_)
  have ea : acc.toList = (ks.map fun x => x.2.1).map Value.ref := by
    rw [List.map_map]
    have hl : acc.toList.length = ks.length := by rw [Array.length_toList, it.1]; exact l1
    apply List.ext_getElem?
    intro j
    rw [List.getElem?_map]
    cases hj : acc.toList[j]? with
    | none =>
      have h1 := List.getElem?_eq_none_iff.mp hj
      rw [List.getElem?_eq_none (by omega)]
      all_goals rfl
    | some v =>
      obtain ⟨en, hen, hv⟩ := it.2 j v (by rw [← Array.getElem?_toList]; exact hj)
      have qe := entry_at he j
      rw [hen] at qe
      cases hb : ks[j]? with
      | none =>
        rw [hb] at qe
        exact nomatch (show some en = none from qe)
      | some b =>
        rw [hb] at qe
        have e2 : en = entryOfKey (tupleKind (mixKind X.prog X.w)) b := Option.some.inj qe
        rw [hv, e2]
        all_goals rfl
  -- every key is a pair of ints
  have tp : ∀ (kvs : List (List L2.Key × V)) (bs : List Addr), IsKeys H kvs bs → (∀ p ∈ kvs, ∃ ns : List Int, p.1 = ns.map Sum.inl ∧ ns.length = 2 ∧ TS.Bd 64 ns) → ∀ b ∈ bs, ∃ ns : List Int, H b = some (.tup (ns.map V.int)) ∧ ns.length = 2 ∧ TS.Bd 64 ns := by
    intro kvs bs h
    induction h with
    | nil => intro _ b hb; cases hb
    | @cons p b0 kvs bs h1 _ ih =>
      intro hp b hb
      rcases List.mem_cons.mp hb with rfl | hb
      · obtain ⟨ns, e1, e2, e3⟩ := hp p List.mem_cons_self
        refine ⟨ns, ?_, e2, e3⟩
        rw [← kV_ints, ← e1]
        exact h1
      · exact ih (fun x hx => hp x (List.mem_cons_of_mem _ hx)) b hb
  have tq := tp _ _ keys hk
  have hal : acc.toList.length < 64 := by rw [ea, List.length_map, List.length_map]; omega
  have I1 : Inv X pins σ H { s with heap := h', toks := tk } := I.kept kp
  refine wpAny_bind (wpAny_newList ?_ (by rw [sizeLine_eq]; omega))
  have hoL : (h'.push (seqObj "list" acc.toList.toArray 0)).get? h'.objs.size = some (seqObj "list" acc.toList.toArray 0) := Heap.get?_push_size _ rfl
  have raw : ∀ b ∈ ks.map (fun x => x.2.1), ∀ ns : List Int, H b = some (.tup (ns.map V.int)) → TS.TupInts (h'.push (seqObj "list" acc.toList.toArray 0)) (.ref b) ns := fun b hb ns hns =>
    (tupI_raw I1 (t := b) (ns := ns) (.inl (.inl hns))).keeps fun b o e _ => Heap.get?_push_of_some _ e
  have x : TS.TupsOk (h'.push (seqObj "list" acc.toList.toArray 0)) 2 64 acc.toList := fun v hv => by
    rw [ea] at hv
    obtain ⟨b, hb, rfl⟩ := List.mem_map.mp hv
    obtain ⟨ns, e1, e2, e3⟩ := tq b hb
    exact ⟨ns, raw b hb ns e1, e2, e3⟩
  show wpAny _ _ _ _ _ { s with heap := h'.push (seqObj "list" acc.toList.toArray 0), toks := tk }
  refine wpAny_bind (wpAny_holding (TS.call_sort_tups (s := { s with heap := h'.push (seqObj "list" acc.toList.toArray 0), toks := tk }) hoL hal (by decide) x fun out a1 a2 => ?_))
  obtain ⟨c, hc'⟩ := PyProof.Rows.sortedHeap_at (vs := acc.toList) (out := out) hoL
  have isr : ∀ v ∈ out.toList, v = Value.ref (unr v) ∧ unr v ∈ ks.map (fun x => x.2.1) := fun v hv => by
    have := a1.mem_iff.mp hv
    rw [ea] at this
    obtain ⟨b, hb, rfl⟩ := List.mem_map.mp this
    exact ⟨rfl, hb⟩
  have eo : out.toList = (out.toList.map unr).map Value.ref := by
    rw [List.map_map]
    conv => lhs; rw [← List.map_id out.toList]
    exact List.map_congr_left fun v hv => (isr v hv).1
  have pm : (out.toList.map unr).Perm (ks.map fun x => x.2.1) := by
    have := a1.map unr
    rw [ea, List.map_map] at this
    have e2 : (ks.map fun x => x.2.1).map (unr ∘ Value.ref) = ks.map fun x => x.2.1 := by
      conv => rhs; rw [← List.map_id (ks.map fun x => x.2.1)]
      rfl
    rw [e2] at this
    exact this
  have hlen : ((out.toList.map unr).map V.ref).length ≤ sizeLine := by
    rw [List.length_map, pm.length_eq, List.length_map, sizeLine_eq]
    omega
  have vv : Vals ((out.toList.map unr).map V.ref) out.toList := by
    have := vals_refs (out.toList.map unr)
    rw [← eo] at this
    exact this
  refine wpAny_pure ⟨_, rfl, .ref h'.objs.size, upd H h'.objs.size (.lst ((out.toList.map unr).map V.ref)), I1.laid (t' := tk) (fun b u e => ?_) (Nat.le_refl _)
    (show ObjOk X.prog X.w _ _ _ (.lst ((out.toList.map unr).map V.ref)) from ⟨hlen, out.toList, c, vv, by rw [Array.toArray_toList]; exact hc'⟩), rfl, q _ _ _ keys pm ?_ (I1.hok.fresh (Nat.le_refl _))⟩
  · have hb : b < h'.objs.size := Heap.lt_size e
    show (sortedHeap _ _ _ _).get? b = some u
    rw [PyProof.Rows.sortedHeap_old (Nat.ne_of_lt hb) (by rw [size_push']; exact Nat.lt_succ_of_lt hb)]
    exact Heap.get?_push_of_some _ e
  · rw [List.pairwise_map]
    refine List.Pairwise.imp_of_mem (fun {u v} hu hv huv n m hn hm => ?_) a2
    obtain ⟨e1, m1⟩ := isr u hu
    obtain ⟨e2, m2⟩ := isr v hv
    have i1 := (raw _ m1 n hn).ints
    have i2 := (raw _ m2 m hm).ints
    rw [← e1] at i1
    rw [← e2] at i2
    rw [← i1, ← i2]
    exact huv
end

/-- a pair of ints, tracked -/
abbrev kD (p : Int × Int) : D := .ktup [.int p.1, .int p.2]
def ltP (p q : Int × Int) : Prop := p.1 < q.1 ∨ (p.1 = q.1 ∧ p.2 < q.2)
def B64 (p : Int × Int) : Prop := 0 ≤ p.1 ∧ p.1 < 64 ∧ 0 ≤ p.2 ∧ p.2 < 64
theorem code_le {p q : Int × Int} (hp : B64 p) (hq : B64 q) (h : TS.code 64 [p.1, p.2] ≤ TS.code 64 [q.1, q.2]) : p = q ∨ ltP p q := by
  rw [code_pair, code_pair] at h
  obtain ⟨h1, h2, h3, h4⟩ := hp
  obtain ⟨g1, g2, g3, g4⟩ := hq
  rcases Int.lt_trichotomy p.1 q.1 with c | c | c
  · exact .inr (.inl c)
  · rcases Int.lt_trichotomy p.2 q.2 with k | k | k
    · exact .inr (.inr ⟨c, k⟩)
    · exact .inl (Prod.ext c k)
    · omega
  · omega
theorem ltP_asymm {p q : Int × Int} (h : ltP p q) (g : ltP q p) : False := by
  rcases h with h | h <;> rcases g with g | g <;> omega
theorem perm_eq : ∀ {l1 l2 : List (Int × Int)}, l1.Perm l2 → l1.Pairwise (fun p q => p = q ∨ ltP p q) → l2.Pairwise ltP → l1 = l2
  | [], l2, h, _, _ => h.nil_eq
  | a :: l1, l2, h, h1, h2 => by
    cases l2 with
    | nil => exact absurd h.symm.nil_eq (by simp)
    | cons b l2 =>
      obtain ⟨p1, p2⟩ := List.pairwise_cons.mp h1
      obtain ⟨q1, q2⟩ := List.pairwise_cons.mp h2
      have e : a = b := by
        have ha : a ∈ b :: l2 := h.mem_iff.mp List.mem_cons_self
        have hb : b ∈ a :: l1 := h.mem_iff.mpr List.mem_cons_self
        rcases List.mem_cons.mp ha with ha | ha
        · exact ha
        · rcases List.mem_cons.mp hb with hb | hb
          · exact hb.symm
          · rcases p1 b hb with e | e
            · exact e
            · exact (ltP_asymm e (q1 a ha)).elim
      subst e
      rw [perm_eq h.cons_inv p2 q2]
def keyAt (H : Hp) (b : Addr) : Int × Int := match H b with
  | some (.tup [.int i, .int j]) => (i, j)
  | _ => (0, 0)
theorem keyAt_of {H : Hp} {b : Addr} {p : Int × Int} (h : H b = some (.tup ((keyP p).map kV))) : keyAt H b = p := by
  unfold keyAt
  rw [h]
  rfl
theorem keys_map {H : Hp} : ∀ {ks : List (Int × Int)} {xs : List V} {bs : List Addr}, ks.length = xs.length → IsKeys H ((ks.map keyP).zip xs) bs → bs.map (keyAt H) = ks ∧ ∀ b ∈ bs, H b = some (.tup [.int (keyAt H b).1, .int (keyAt H b).2])
  | [], xs, bs, hl, h => by
    have : bs = [] := by
      unfold IsKeys at h
      cases h
      rfl
    subst this
    exact ⟨rfl, by simp⟩
  | k :: ks, [], bs, hl, h => by simp at hl
  | k :: ks, x :: xs, bs, hl, h => by
    unfold IsKeys at h
    rw [List.map_cons, List.zip_cons_cons] at h
    cases h with
    | @cons _ b _ bs h1 h2 =>
      have e := keyAt_of (p := k) h1
      obtain ⟨g1, g2⟩ := keys_map (ks := ks) (xs := xs) (bs := bs) (by simpa using hl) h2
      refine ⟨by rw [List.map_cons, e, g1], fun c hc => ?_⟩
      rcases List.mem_cons.mp hc with rfl | hc
      · rw [e]; exact h1
      · exact g2 c hc
section
variable {S : Sx} {E : En} {e : Expr} {ds : List D} {pos p : Pos}
theorem n_sortedD {ks ks' : List (Int × Int)} (hg : GlS S "sorted") (hm : S.mg "sorted" = none) (ha : PVs S E [e] [.dic ks ds]) (hl : ks.length = ds.length) (h64 : ks.length < 64) (hb : ∀ k ∈ ks, B64 k) (hp : ks'.Perm ks) (hs : ks'.Pairwise ltP) (he : St1 e [] := by intro _; rfl) : PVN S E (.Call (.Name "sorted" p) [e] [] pos) (ks'.map kD) := fun σ H hE Q q =>
  ⟨_, fun X M => pe_callB (cr_sortedDT M.calm) (show X.env.scope.names.lookup _ = _ by rw [M.sc]; exact hg) (by rw [M.mg]; exact hm) PyProof.Rows.boot_sorted (sa_ok M) (by decide) (by decide) (he _) rfl, ha σ H hE _ fun vs H1 e1 i1 => by
    obtain ⟨v, rfl, a, xs, rfl, h1, h2⟩ := isA1 i1
    have hxl : ks.length = xs.length := by rw [hl, h2.len]
    refine ⟨a, _, rfl, .inl h1, by rw [List.length_zip, List.length_map]; omega, fun z hz => ?_, fun bs bs' l k1 k2 k3 hl' => ?_⟩
    · obtain ⟨k, hk, e2⟩ := List.mem_map.mp (List.of_mem_zip (show (z.1, z.2) ∈ _ from hz)).1
      obtain ⟨b1, b2, b3, b4⟩ := hb k hk
      refine ⟨[k.1, k.2], e2.symm, rfl, ?_⟩
      intro n hn
      rcases List.mem_cons.mp hn with rfl | hn
      · exact ⟨b1, b2⟩
      · have : n = k.2 := by simpa using hn
        rw [this]; exact ⟨b3, b4⟩
    · obtain ⟨g1, g2⟩ := keys_map hxl k1
      have pm : (bs'.map (keyAt H1)).Perm ks := by
        have := k2.map (keyAt H1)
        rw [g1] at this
        exact this
      have g3 : ∀ b ∈ bs', H1 b = some (.tup [.int (keyAt H1 b).1, .int (keyAt H1 b).2]) := fun b hb' => g2 b (k2.mem_iff.mp hb')
      have hbk : ∀ b ∈ bs', B64 (keyAt H1 b) := fun b hb' => hb _ (pm.mem_iff.mp (List.mem_map_of_mem hb'))
      have eq : bs'.map (keyAt H1) = ks' := by
        refine perm_eq (pm.trans hp.symm) ?_ hs
        rw [List.pairwise_map]
        exact List.Pairwise.imp_of_mem (fun {u v} hu hv h => code_le (hbk u hu) (hbk v hv) (h [(keyAt H1 u).1, (keyAt H1 u).2] [(keyAt H1 v).1, (keyAt H1 v).2] (g3 u hu) (g3 v hv))) k3
      have n1 : Same H1 (upd H1 l (.lst (bs'.map V.ref))) := Same.new hl'
      refine q l _ _ (Same.free e1 hl') (e1.trans n1) upd_same ?_
      rw [← eq]
      have all : ∀ cs : List Addr, (∀ b ∈ cs, H1 b = some (.tup [.int (keyAt H1 b).1, .int (keyAt H1 b).2])) → IsA S.K (upd H1 l (.lst (bs'.map V.ref))) ((cs.map (keyAt H1)).map kD) (cs.map V.ref) := by
        intro cs
        induction cs with
        | nil => intro _; exact rfl
        | cons c cs ih =>
          intro hc
          exact ⟨.ref c, _, rfl, ⟨c, _, rfl, n1 _ _ (hc c List.mem_cons_self), _, _, rfl, rfl, _, _, rfl, rfl, rfl⟩, ih fun b hb' => hc b (List.mem_cons_of_mem _ hb')⟩
      exact all bs' g3⟩
end
end Ee

/-! dicts whose keys are tuples of pairs of ints, whose values are ints -/
namespace Ee
open PySem PySem.Spec PyProof.Rows L2
abbrev Ways := List (Int × Int)
def nk (L : Ways) : NestedKey := .tup (L.map fun p => .tup [.num p.1, .num p.2])
theorem nk_inj {L M : Ways} (h : nk L = nk M) : L = M := by
  unfold nk at h
  injection h with h
  have : ∀ (L M : Ways), (L.map fun p => NestedKey.tup [.num p.1, .num p.2]) = (M.map fun p => NestedKey.tup [.num p.1, .num p.2]) → L = M := by
    intro L
    induction L with
    | nil => intro M h; cases M with
      | nil => rfl
      | cons _ _ => cases h
    | cons p L ih =>
      intro M h
      cases M with
      | nil => cases h
      | cons q M =>
        rw [List.map_cons, List.map_cons] at h
        injection h with h1 h2
        injection h1 with h1
        injection h1 with a1 a2
        injection a1 with a1
        injection a2 with a2 _
        injection a2 with a2
        rw [ih M h2, show p = q from Prod.ext a1 a2]
  exact this L M h
/-- a key, the address of its tuple, its value -/
abbrev KnE := Ways × Addr × Int
def knX (k : KnE) (x : NestedKey × Addr × Value) : Prop := x.1 = nk k.1 ∧ x.2.1 = k.2.1 ∧ RelV (.int k.2.2) x.2.2
def KnP (P : Program) (w : World) (a : Addr) (ks : List KnE) (h : Heap) : Prop := (a == sysModules) = false ∧ ∃ xs : List (NestedKey × Addr × Value), Paired knX ks xs ∧ (xs.map (·.1)).Nodup ∧ ∃ o es ep, h.get? a = some o ∧ o.ExactDict ∧ o.data = .dict es ep ∧ es.toList = xs.map (entryOfKey (nestedKind P w))
def KnO (P : Program) (w : World) (a : Addr) (ks : List KnE) : HO := .ext (KnP P w a ks)
theorem kn_obj {P : Program} {w : World} {H : Hp} {h : Heap} {a : Addr} {ks : List KnE} (p : KnP P w a ks h) : ObjOk P w H h a (KnO P w a ks) := by
  refine ⟨p, ?_, fun h1 h2 q k => ?_⟩
  · obtain ⟨_, _, _, _, o, _, _, ho, _⟩ := p
    exact ⟨o, ho⟩
  · obtain ⟨z, xs, r, hn, o, es, ep, ho, hr⟩ := q
    exact ⟨z, xs, r, hn, o, es, ep, k o ho, hr⟩
/-- the tuple at b is the key L -/
def KnT (H : Hp) (L : Ways) (b : Addr) : Prop := ∃ bs : List Addr, H b = some (.tup (bs.map V.ref)) ∧ Paired (fun p c => H c = some (.tup [.int p.1, .int p.2])) L bs
theorem knT_of {K : PySem.W.Frag} {H : Hp} {L : Ways} {v : V} (h : Is K H (.ktup (L.map kD)) v) : ∃ b, v = .ref b ∧ KnT H L b := by
  obtain ⟨b, xs, rfl, h1, h2⟩ := h
  refine ⟨b, rfl, ?_⟩
  have : ∀ (L : Ways) (xs : List V), IsA K H (L.map kD) xs → ∃ bs : List Addr, xs = bs.map V.ref ∧ Paired (fun p c => H c = some (.tup [.int p.1, .int p.2])) L bs := by
    intro L
    induction L with
    | nil => intro xs h; exact ⟨[], h, .nil⟩
    | cons p L ih =>
      intro xs h
      obtain ⟨x, r, rfl, i1, i2⟩ := h
      obtain ⟨c, ys, rfl, i3, i4⟩ := i1
      obtain ⟨t3, t4, rfl, t5, t6⟩ := isA2 i4
      have t5 : t3 = .int p.1 := t5
      have t6 : t4 = .int p.2 := t6
      subst t5 t6
      obtain ⟨bs, rfl, i5⟩ := ih r i2
      exact ⟨c :: bs, rfl, .cons i3 i5⟩
  obtain ⟨bs, rfl, h3⟩ := this L xs h2
  exact ⟨bs, h1, h3⟩
theorem nk_is {P : Program} {w : World} {H : Hp} {h : Heap} (ok : HOk P w H h) {L : Ways} {b : Addr} (t : KnT H L b) : (nestedKind P w).is h (nk L) b := by
  obtain ⟨bs, h1, h2⟩ := t
  obtain ⟨_, its, r, o, g1, g2, n, g3⟩ := (show ObjOk P w H h b (.tup (bs.map V.ref)) from ok b _ h1)
  have all : ∀ (L : Ways) (bs : List Addr) (its : List Value), Paired (fun p c => H c = some (.tup [.int p.1, .int p.2])) L bs → Vals (bs.map V.ref) its → NestedAll h (L.map fun p => .tup [.num p.1, .num p.2]) its := by
    intro L bs its q
    induction q generalizing its with
    | nil =>
      intro r
      cases r
      exact .nil
    | @cons p c L bs hq _ ih =>
      intro r
      cases r with
      | @cons _ u _ us r1 r2 =>
        have r1 : u = .ref c := r1
        subst r1
        obtain ⟨_, jts, s, o', k1, k2, n', k3⟩ := (show ObjOk P w H h c (.tup [.int p.1, .int p.2]) from ok c _ hq)
        obtain ⟨u1, u2, rfl, ⟨t1, e1⟩, ⟨t2, e2⟩⟩ := s.two
        subst e1 e2
        exact .cons (.tup k1 k2 k3 (by simpa using .cons (.int _ _) (.cons (.int _ _) .nil))) (ih us r2)
  refine ⟨.tup g1 g2 g3 (by simpa using all L bs its h2 r), ?_⟩
  have dp : ∀ L : Ways, NestedKey.depthAll (L.map fun p => .tup [.num p.1, .num p.2]) ≤ 1 := by
    intro L
    induction L with
    | nil => simp [NestedKey.depthAll]
    | cons p L ih => simp [NestedKey.depthAll, NestedKey.depth]; omega
  have := dp L
  show NestedKey.depth (.tup _) ≤ 8
  rw [NestedKey.depth]
  omega
theorem kn_dict {P : Program} {w : World} {H : Hp} {h : Heap} {a : Addr} {ks : List KnE} (ok : HOk P w H h) (ha : H a = some (KnO P w a ks)) (ht : ∀ k ∈ ks, KnT H k.1 k.2.1) : (a == sysModules) = false ∧ ∃ xs, Paired knX ks xs ∧ h.DictOfH (nestedKind P w) a xs := by
  obtain ⟨⟨z, xs, r, hn, o, es, ep, ho, hx, hd, he⟩, _⟩ := (show ObjOk P w H h a (KnO P w a ks) from ok a _ ha)
  refine ⟨z, xs, r, o, es, ep, ho, hx, hd, he, ?_, hn⟩
  have all : ∀ (ks : List KnE) (xs : List (NestedKey × Addr × Value)), Paired knX ks xs → (∀ k ∈ ks, KnT H k.1 k.2.1) → ∀ x ∈ xs, (nestedKind P w).is h x.1 x.2.1 := by
    intro ks xs q
    induction q with
    | nil => intro _ x hx; cases hx
    | @cons k y ks xs hk _ ih =>
      intro ht x hx
      rcases List.mem_cons.mp hx with rfl | hx
      · rw [hk.1, hk.2.1]
        exact nk_is ok (ht k List.mem_cons_self)
      · exact ih (fun z hz => ht z (List.mem_cons_of_mem _ hz)) x hx
  exact all ks xs r ht
def knAt (ks : List KnE) (L : Ways) : Option Int := (ks.find? fun k => decide (k.1 = L)).map (·.2.2)
theorem kn_at {ks : List KnE} {xs : List (NestedKey × Addr × Value)} (r : Paired knX ks xs) (L : Ways) : (knAt ks L = none ∧ atKey xs (nk L) = none) ∨ ∃ i p, knAt ks L = some i ∧ atKey xs (nk L) = some p ∧ RelV (.int i) p.2 := by
  induction r with
  | nil => exact .inl ⟨rfl, rfl⟩
  | @cons k x ks xs hk _ ih =>
    unfold knAt atKey
    rw [List.find?_cons, List.find?_cons]
    by_cases hL : k.1 = L
    · have e1 : decide (k.1 = L) = true := decide_eq_true hL
      have e2 : decide (x.1 = nk L) = true := decide_eq_true (by rw [hk.1, hL])
      rw [e1, e2]
      exact .inr ⟨k.2.2, x.2, rfl, rfl, hk.2.2⟩
    · have e1 : decide (k.1 = L) = false := decide_eq_false hL
      have e2 : decide (x.1 = nk L) = false := decide_eq_false (by rw [hk.1]; exact fun z => hL (nk_inj z))
      rw [e1, e2]
      exact ih
def knPut (ks : List KnE) (L : Ways) (b : Addr) (i : Int) : List KnE := if (knAt ks L).isSome then ks.map fun k => if k.1 = L then (k.1, k.2.1, i) else k else ks ++ [(L, b, i)]
theorem kn_put {ks : List KnE} {xs : List (NestedKey × Addr × Value)} (r : Paired knX ks xs) (L : Ways) (b : Addr) {i : Int} {v : Value} (hv : RelV (.int i) v) : Paired knX (knPut ks L b i) (storedH xs (nk L) b v) := by
  unfold knPut storedH
  have e : (knAt ks L).isSome = (atKey xs (nk L)).isSome := by
    rcases kn_at r L with ⟨h1, h2⟩ | ⟨i, p, h1, h2, _⟩
    · rw [h1, h2]; rfl
    · rw [h1, h2]; rfl
  have a1 : Paired knX (ks.map fun k => if k.1 = L then (k.1, k.2.1, i) else k) (xs.map (putAt (nk L) v)) := by
    clear e
    induction r with
    | nil => exact .nil
    | @cons k x ks xs hk _ ih =>
      refine .cons ?_ ih
      show knX (if k.1 = L then (k.1, k.2.1, i) else k) (putAt (nk L) v x)
      unfold putAt
      by_cases hL : k.1 = L
      · rw [if_pos hL, if_pos (by rw [hk.1, hL])]
        exact ⟨hk.1, hk.2.1, hv⟩
      · rw [if_neg hL, if_neg (by rw [hk.1]; exact fun z => hL (nk_inj z))]
        exact hk
  have a2 : Paired knX (ks ++ [(L, b, i)]) (xs ++ [(nk L, b, v)]) := by
    clear e a1
    induction r with
    | nil => exact .cons ⟨rfl, rfl, hv⟩ .nil
    | @cons k x ks xs hk _ ih => exact .cons hk ih
  rw [e]
  split
  · exact a1
  · exact a2
theorem knPut_len (ks : List KnE) (L : Ways) (b : Addr) (i : Int) : (knPut ks L b i).length ≤ ks.length + 1 := by
  unfold knPut
  split
  · rw [List.length_map]; omega
  · rw [List.length_append]; simp
/-! ### rules -/
def tKnGet (td ty : TE) (P : Program) (w : World) : TE := fun σ H Q => td σ H fun x H1 => ty σ H1 fun y H2 => ∃ a b L ks i, x = .ref a ∧ y = .ref b ∧ H2 a = some (KnO P w a ks) ∧ KnT H2 L b ∧ (∀ k ∈ ks, KnT H2 k.1 k.2.1) ∧ knAt ks L = some i ∧ Q (.int i) H2
def rKnNotIn (P : Program) (w : World) : R2 := fun x y H Q => ∃ a b L ks, x = .ref b ∧ y = .ref a ∧ H a = some (KnO P w a ks) ∧ KnT H L b ∧ (∀ k ∈ ks, KnT H k.1 k.2.1) ∧ Q (.bl (!(knAt ks L).isSome)) H
def sKnPut (td ty tv : TE) (P : Program) (w : World) : TS := fun D σ H => tv σ H fun v H1 => td σ H1 fun x H2 => ty σ H2 fun y H3 => ∃ a b L ks i, x = .ref a ∧ y = .ref b ∧ v = .int i ∧ H3 a = some (KnO P w a ks) ∧ KnT H3 L b ∧ (∀ k ∈ ks, KnT H3 k.1 k.2.1) ∧ ks.length < 10000 ∧ D.nx σ (upd H3 a (KnO P w a (knPut ks L b i)))
def tKnNew (P : Program) (w : World) : TE := fun _ H Q => ∀ p, H p = none → Q (.ref p) (upd H p (KnO P w p []))
section
variable {X : Cx} {o i e value : Expr} {pos pos' : Pos} {td ty tv : TE}
theorem pe_knget (hu : X.A.units + 65 < cLine) (ho : PE X o td) (hi : PE X i ty) (hs : NoSl i) : PE X (.Subscript o i pos) (tKnGet td ty X.prog X.w) := by
  refine ⟨fun pins s σ H Q I h => ?_⟩
  refine subD_of PySem.F.slot_dict_getitem.lookup hs (thn (ho.run pins s σ H _ I h) fun u s1 ⟨x, H1, I1, rx, q1⟩ => thn (hi.run pins s1 σ H1 _ I1 q1) fun iv s2 ⟨y, H2, I2, ry, a, b, L, ks, j, ex, ey, ha, hb, ht, hv, q2⟩ => ?_)
  subst ex ey
  obtain rfl : u = Value.ref a := rx
  obtain rfl : iv = Value.ref b := ry
  obtain ⟨hd, xs, r, dd⟩ := kn_dict I2.hok ha ht
  rcases kn_at r L with ⟨h1, _⟩ | ⟨j', p, h1, h2, h3⟩
  · rw [h1] at hv; cases hv
  · rw [h1] at hv
    cases hv
    exact ⟨dd.typeIs, wpAny_getItem_heap (knd := nestedKind X.prog X.w) (show X.A.in1.units + 8 < cLine by show X.A.units + 1 + 8 < cLine; omega) (nk_is I2.hok hb) dd h2 ⟨.int j, H2, I2.tok _, h3, q2⟩⟩
theorem op_knNotIn (hu : X.A.units + 65 < cLine) : OpR X (compareOp .NotIn) (rKnNotIn X.prog X.w) := by
  intro pins s σ H x y v u Q I rx ry h
  obtain ⟨a, b, L, ks, ex, ey, ha, hb, ht, q⟩ := h
  subst ex ey
  obtain rfl : u = Value.ref a := ry
  obtain rfl : v = Value.ref b := rx
  obtain ⟨hd, xs, r, dd⟩ := kn_dict I.hok ha ht
  refine wpAny_notIn_heap (knd := nestedKind X.prog X.w) (show X.A.in1.units + 8 < cLine by show X.A.units + 1 + 8 < cLine; omega) (nk_is I.hok hb) hd dd ?_
  have e : (knAt ks L).isSome = (atKey xs (nk L)).isSome := by
    rcases kn_at r L with ⟨h1, h2⟩ | ⟨i, p, h1, h2, _⟩
    · rw [h1, h2]; rfl
    · rw [h1, h2]; rfl
  rw [← e]
  exact ⟨.bl _, H, I.tok _, rfl, q⟩
theorem ps_knput (hu : X.A.units + 65 < cLine) (ho : PE X o td) (hi : PE X i ty) (hv : PE X value tv) (hs : swapsWith value (some (.Subscript o i pos')) pos.line X.env = pure false) :
    PS X (.Assign [.Subscript o i pos'] value pos) (sKnPut td ty tv X.prog X.w) := by
  refine ⟨fun pins s σ H D I h => ?_⟩
  refine wpAny_Assign_Subscript (thn (hv.run pins s σ H _ I h) fun r s1 ⟨v, H1, I1, rv, q1⟩ => thn (ho.run pins s1 σ H1 _ I1 q1) fun u s2 ⟨x, H2, I2, rx, q2⟩ => thn (hi.run pins s2 σ H2 _ I2 q2) fun iv s3 ⟨y, H3, I3, ry, a, b, L, ks, j, ex, ey, ev, ha, hb, ht, hl, q3⟩ => ?_) hs
  subst ex ey ev
  obtain rfl : u = Value.ref a := rx
  obtain rfl : iv = Value.ref b := ry
  obtain ⟨hd, xs, rel, dd⟩ := kn_dict I3.hok ha ht
  have hz : xs.length ≤ sizeLine := by rw [← Paired.length rel, sizeLine_eq]; omega
  refine wpAny_setItem_heap (knd := nestedKind X.prog X.w) (hsz := hz) (show X.A.in1.units + 8 < cLine by show X.A.units + 1 + 8 < cLine; omega) (nk_is I3.hok hb) dd fun h' dd' hs => ?_
  obtain ⟨q, es, ep, hq, h2, h3, h4, _, h5⟩ := dd'
  refine ⟨σ, _, d_write I3 (by rw [ha]; exact True.intro) hs ⟨q, hq⟩ (kn_obj ⟨hd, _, kn_put rel L b rv, h5, q, es, ep, hq, h2, h3, h4⟩), q3⟩
theorem pe_knnew : PE X (.Dict [] [] pos) (tKnNew X.prog X.w) := ⟨fun pins s σ H Q I h =>
  wpAny_Dict_empty ⟨.ref s.heap.objs.size, _, I.laid (a := s.heap.objs.size) (o := KnO X.prog X.w s.heap.objs.size []) (t' := s.toks) (fun _ _ q => Heap.get?_push_of_some _ q) (Nat.le_refl _)
    (kn_obj ⟨beq_eq_false_iff_ne.mpr (Ne.symm (Nat.ne_of_lt I.big)), [], .nil, List.nodup_nil, _, #[], 0, Heap.get?_push_size _ rfl, ⟨rfl, rfl, rfl⟩, rfl, rfl⟩), rfl, h _ (I.hok.fresh (Nat.le_refl _))⟩⟩
end
end Ee

/-! ways, their answers, the least number of lamps -/
namespace Ee
abbrev Wys := List (Int × Int)
def ans (p : Int × Int) (s : Int) : Int := if p.2 < s then 0 else if s ≤ p.1 then 2 else 1
theorem ans_cases (p : Int × Int) (s : Int) : ans p s = 0 ∨ ans p s = 1 ∨ ans p s = 2 := by
  unfold ans
  split
  · exact .inl rfl
  · split
    · exact .inr (.inr rfl)
    · exact .inr (.inl rfl)
theorem ans_mono {p q : Int × Int} {s : Int} (h1 : p.1 ≤ q.1) (h2 : p.2 ≤ q.2) : ans p s ≤ ans q s := by
  unfold ans
  split <;> split <;> (try split) <;> (try split) <;> omega
def part (L : Wys) (s a : Int) : Wys := L.filter fun p => decide (ans p s = a)
def mx3 (a b c : Int) : Int := max a (max b c)
def tm (f : Wys → Int) (L : Wys) (s : Int) : Int := 1 + mx3 (f (part L s 0)) (f (part L s 1)) (f (part L s 2))
def unparted (L : Wys) (s : Int) : Prop := L = part L s 0 ∨ L = part L s 1 ∨ L = part L s 2
instance (L : Wys) (s : Int) : Decidable (unparted L s) := by unfold unparted; exact inferInstance
def stepL (f : Wys → Int) (L : Wys) (acc : Int) (s : Nat) : Int := if unparted L (1 + (s : Int)) then acc else min acc (tm f L (1 + (s : Int)))
def lstF (many : Nat) : Nat → Wys → Int
  | 0, _ => 0
  | n + 1, L => if L.length < 2 then 0 else (List.range many).foldl (stepL (lstF many n) L) (L.length : Int)
def lst (many : Nat) (L : Wys) : Int := lstF many L.length L
theorem part_le (L : Wys) (s a : Int) : (part L s a).length ≤ L.length := List.length_filter_le _ _
theorem part_lt {L : Wys} {s a : Int} (h : L ≠ part L s a) : (part L s a).length < L.length := by
  rcases Nat.lt_or_ge (part L s a).length L.length with h1 | h1
  · exact h1
  · exact absurd (List.filter_sublist.eq_of_length (Nat.le_antisymm (part_le L s a) h1)).symm h
theorem parted_lt {L : Wys} {s : Int} (h : ¬ unparted L s) {a : Int} (ha : a = 0 ∨ a = 1 ∨ a = 2) : (part L s a).length < L.length := by
  unfold unparted at h
  rcases ha with rfl | rfl | rfl
  · exact part_lt fun e => h (.inl e)
  · exact part_lt fun e => h (.inr (.inl e))
  · exact part_lt fun e => h (.inr (.inr e))
theorem foldl_congr {α β : Type} {f g : β → α → β} : ∀ {l : List α} {b : β}, (∀ b x, x ∈ l → f b x = g b x) → l.foldl f b = l.foldl g b
  | [], _, _ => rfl
  | x :: l, b, h => by
    rw [List.foldl_cons, List.foldl_cons, h b x List.mem_cons_self]
    exact foldl_congr fun b y hy => h b y (List.mem_cons_of_mem _ hy)
theorem stepL_congr {f g : Wys → Int} {L : Wys} (h : ∀ M : Wys, M.length < L.length → f M = g M) (acc : Int) (s : Nat) : stepL f L acc s = stepL g L acc s := by
  unfold stepL
  split
  · rfl
  · rename_i hu
    unfold tm
    rw [h _ (parted_lt hu (.inl rfl)), h _ (parted_lt hu (.inr (.inl rfl))), h _ (parted_lt hu (.inr (.inr rfl)))]
theorem lstF_eq (many : Nat) : ∀ (n : Nat) (L : Wys), L.length ≤ n → lstF many n L = lst many L
  | 0, L, h => by
    have : L.length = 0 := by omega
    unfold lst
    rw [this]
  | n + 1, L, h => by
    unfold lst
    cases hL : L.length with
    | zero =>
      show (if L.length < 2 then 0 else _) = (0 : Int)
      rw [if_pos (by omega)]
    | succ k =>
      show (if L.length < 2 then 0 else (List.range many).foldl (stepL (lstF many n) L) (L.length : Int)) = (if L.length < 2 then 0 else (List.range many).foldl (stepL (lstF many k) L) (L.length : Int))
      split
      · rfl
      · refine foldl_congr fun b x _ => stepL_congr (fun M hM => ?_) b x
        rw [lstF_eq many n M (by omega), lstF_eq many k M (by omega)]
theorem lst_step {many : Nat} {L : Wys} (h : 2 ≤ L.length) : lst many L = (List.range many).foldl (stepL (lst many) L) (L.length : Int) := by
  obtain ⟨k, hk⟩ : ∃ k, L.length = k + 1 := ⟨L.length - 1, by omega⟩
  rw [← lstF_eq many (k + 1) L (by omega)]
  show (if L.length < 2 then 0 else (List.range many).foldl (stepL (lstF many k) L) (L.length : Int)) = _
  rw [if_neg (by omega)]
  exact foldl_congr fun b x _ => stepL_congr (fun M hM => lstF_eq many k M (by omega)) b x
theorem lst_few {many : Nat} {L : Wys} (h : L.length < 2) : lst many L = 0 := by
  unfold lst
  cases hL : L.length with
  | zero => rfl
  | succ k =>
    show (if L.length < 2 then 0 else _) = (0 : Int)
    rw [if_pos h]
theorem fold_nonneg {f : Wys → Int} {L : Wys} (h : ∀ M : Wys, M.length < L.length → 0 ≤ f M) : ∀ {l : List Nat} {b : Int}, 0 ≤ b → 0 ≤ l.foldl (stepL f L) b
  | [], _, hb => hb
  | s :: l, b, hb => by
    rw [List.foldl_cons]
    refine fold_nonneg h ?_
    unfold stepL
    split
    · exact hb
    · rename_i hu
      have h0 := h _ (parted_lt hu (.inl rfl))
      unfold tm mx3
      omega
theorem lst_nonneg (many : Nat) : ∀ (n : Nat) (L : Wys), L.length ≤ n → 0 ≤ lst many L
  | 0, L, h => by rw [lst_few (by omega)]; omega
  | n + 1, L, h => by
    by_cases h2 : L.length < 2
    · rw [lst_few h2]; omega
    · rw [lst_step (by omega)]
      exact fold_nonneg (fun M hM => lst_nonneg many n M (by omega)) (by omega)
theorem lst_nn (many : Nat) (L : Wys) : 0 ≤ lst many L := lst_nonneg many _ L (Nat.le_refl _)
theorem stepL_min (f : Wys → Int) (L : Wys) (a b : Int) (s : Nat) : stepL f L (min a b) s = min a (stepL f L b s) := by
  unfold stepL
  split <;> omega
theorem fold_min (f : Wys → Int) (L : Wys) : ∀ (l : List Nat) (a b : Int), l.foldl (stepL f L) (min a b) = min a (l.foldl (stepL f L) b)
  | [], _, _ => rfl
  | s :: l, a, b => by
    rw [List.foldl_cons, List.foldl_cons, stepL_min, fold_min f L l]
theorem stepL_le (f : Wys → Int) (L : Wys) (b : Int) (s : Nat) : stepL f L b s ≤ b := by
  unfold stepL
  split <;> omega
theorem fold_le (f : Wys → Int) (L : Wys) : ∀ (l : List Nat) (b : Int), l.foldl (stepL f L) b ≤ b
  | [], b => Int.le_refl _
  | s :: l, b => by
    rw [List.foldl_cons]
    exact Int.le_trans (fold_le f L l _) (stepL_le f L b s)
theorem fold_term (f : Wys → Int) (L : Wys) : ∀ (l : List Nat) (b : Int) (s : Nat), s ∈ l → ¬ unparted L (1 + (s : Int)) → l.foldl (stepL f L) b ≤ tm f L (1 + (s : Int))
  | x :: l, b, s, hs, hu => by
    rw [List.foldl_cons]
    rcases List.mem_cons.mp hs with rfl | hs
    · refine Int.le_trans (fold_le f L l _) ?_
      unfold stepL
      rw [if_neg hu]
      omega
    · exact fold_term f L l _ s hs hu
/-- the first bound does not matter -/
theorem fold_start {f : Wys → Int} {L : Wys} {l : List Nat} {s : Nat} (hs : s ∈ l) (hu : ¬ unparted L (1 + (s : Int))) {a b : Int} (ha : tm f L (1 + (s : Int)) ≤ a) (hb : tm f L (1 + (s : Int)) ≤ b) : l.foldl (stepL f L) a = l.foldl (stepL f L) b := by
  have h1 := fold_min f L l a b
  have h2 := fold_min f L l b a
  rw [Int.min_comm b a, h1] at h2
  have h3 := fold_term f L l a s hs hu
  have h4 := fold_term f L l b s hs hu
  omega
/-! chains -/
structure Chn (W : Wys) (many : Nat) : Prop where
  few : W.length ≤ 24
  rows : W.Pairwise fun p q => p.1 ≤ q.1 ∧ p.2 ≤ q.2 ∧ p ≠ q
  inn : ∀ p ∈ W, 0 ≤ p.1 ∧ p.1 ≤ p.2 ∧ p.2 ≤ many
theorem parts_pq {p q : Int × Int} {many : Nat} (h1 : p.1 ≤ q.1) (h2 : p.2 ≤ q.2) (hne : p ≠ q) (hp : 0 ≤ p.1 ∧ p.1 ≤ p.2 ∧ p.2 ≤ many) (hq : 0 ≤ q.1 ∧ q.1 ≤ q.2 ∧ q.2 ≤ many) : ∃ s : Nat, s < many ∧ ans p (1 + (s : Int)) ≠ ans q (1 + (s : Int)) := by
  by_cases h : p.1 < q.1
  · refine ⟨(q.1 - 1).toNat, by omega, ?_⟩
    have e : 1 + (((q.1 - 1).toNat : Nat) : Int) = q.1 := by omega
    rw [e]
    unfold ans
    rw [if_neg (show ¬ q.2 < q.1 by omega), if_pos (Int.le_refl _)]
    split
    · decide
    · rw [if_neg (by omega)]; decide
  · have h3 : p.2 < q.2 := by
      rcases Int.lt_trichotomy p.2 q.2 with h4 | h4 | h4
      · exact h4
      · exact absurd (Prod.ext (by omega) h4) hne
      · omega
    refine ⟨(q.2 - 1).toNat, by omega, ?_⟩
    have e : 1 + (((q.2 - 1).toNat : Nat) : Int) = q.2 := by omega
    rw [e]
    unfold ans
    rw [if_pos h3, if_neg (Int.lt_irrefl _)]
    split <;> decide
theorem unparted_same {L : Wys} {s : Int} (h : unparted L s) {p q : Int × Int} (hp : p ∈ L) (hq : q ∈ L) : ans p s = ans q s := by
  have k : ∀ a, L = part L s a → ans p s = ans q s := fun a e => by
    have h1 : p ∈ part L s a := e ▸ hp
    have h2 : q ∈ part L s a := e ▸ hq
    have h1 := of_decide_eq_true (List.mem_filter.mp h1).2
    have h2 := of_decide_eq_true (List.mem_filter.mp h2).2
    rw [h1, h2]
  rcases h with h | h | h <;> exact k _ h
theorem Chn.sub {W L : Wys} {many : Nat} (h : Chn W many) (s : L.Sublist W) : Chn L many := ⟨Nat.le_trans s.length_le h.few, h.rows.sublist s, fun p hp => h.inn p (s.mem hp)⟩
theorem Chn.splits {L : Wys} {many : Nat} (h : Chn L many) (h2 : 2 ≤ L.length) : ∃ s : Nat, s ∈ List.range many ∧ ¬ unparted L (1 + (s : Int)) := by
  match L, h2 with
  | p :: q :: L, _ =>
    have hr := (List.pairwise_cons.mp h.rows).1 q List.mem_cons_self
    obtain ⟨s, h3, h4⟩ := parts_pq hr.1 hr.2.1 hr.2.2 (h.inn p (by simp)) (h.inn q (by simp))
    exact ⟨s, List.mem_range.mpr h3, fun z => h4 (unparted_same z (by simp) (by simp))⟩
theorem part_sub (L : Wys) (s a : Int) : (part L s a).Sublist L := List.filter_sublist
theorem Chn.lst_le {many : Nat} : ∀ (n : Nat) {L : Wys}, L.length ≤ n → Chn L many → 1 ≤ L.length → lst many L ≤ L.length - 1
  | 0, L, h, _, h1 => by omega
  | n + 1, L, h, hc, h1 => by
    by_cases h2 : L.length < 2
    · rw [lst_few h2]; omega
    · obtain ⟨s, hs, hu⟩ := hc.splits (by omega)
      rw [lst_step (by omega)]
      refine Int.le_trans (fold_term _ _ _ _ s hs hu) ?_
      have k : ∀ a, a = 0 ∨ a = 1 ∨ a = 2 → lst many (part L (1 + (s : Int)) a) ≤ L.length - 2 := fun a ha => by
        have h3 := parted_lt hu ha
        by_cases h4 : (part L (1 + (s : Int)) a).length < 1
        · rw [lst_few (by omega)]; omega
        · have := Chn.lst_le n (L := part L (1 + (s : Int)) a) (by omega) (hc.sub (part_sub _ _ _)) (by omega)
          omega
      have a0 := k 0 (.inl rfl)
      have a1 := k 1 (.inr (.inl rfl))
      have a2 := k 2 (.inr (.inr rfl))
      unfold tm mx3
      omega
/-- from any bound that is great enough -/
theorem Chn.lst_from {many : Nat} {L : Wys} (hc : Chn L many) (h : 2 ≤ L.length) {b : Int} (hb : (L.length : Int) - 1 ≤ b) : (List.range many).foldl (stepL (lst many) L) b = lst many L := by
  obtain ⟨s, hs, hu⟩ := hc.splits h
  rw [lst_step h]
  have k : ∀ a, a = 0 ∨ a = 1 ∨ a = 2 → lst many (part L (1 + (s : Int)) a) ≤ L.length - 2 := fun a ha => by
    have h3 := parted_lt hu ha
    by_cases h4 : (part L (1 + (s : Int)) a).length < 1
    · rw [lst_few (by omega)]; omega
    · have := Chn.lst_le _ (L := part L (1 + (s : Int)) a) (Nat.le_refl _) (hc.sub (part_sub _ _ _)) (by omega)
      omega
  have a0 := k 0 (.inl rfl)
  have a1 := k 1 (.inr (.inl rfl))
  have a2 := k 2 (.inr (.inr rfl))
  have ht : tm (lst many) L (1 + (s : Int)) ≤ L.length - 1 := by
    unfold tm mx3
    omega
  exact fold_start hs hu (by omega) (by omega)
/-! segments -/
def sg (W : Wys) (i n : Nat) : Wys := (W.drop i).take n
theorem sg_sub (W : Wys) (i n : Nat) : (sg W i n).Sublist W := (List.take_sublist _ _).trans (List.drop_sublist _ _)
theorem filter_eq_cut {α : Type} (f : α → Int) (a : Int) : ∀ {L : List α}, L.Pairwise (fun p q => f p ≤ f q) → L.filter (fun p => decide (f p = a)) = (L.drop (L.countP fun p => decide (f p < a))).take (L.countP fun p => decide (f p = a))
  | [], _ => rfl
  | p :: L, h => by
    obtain ⟨h1, h2⟩ := List.pairwise_cons.mp h
    have ih := filter_eq_cut f a h2
    rw [List.filter_cons, List.countP_cons, List.countP_cons]
    rcases Int.lt_trichotomy (f p) a with h3 | h3 | h3
    · have e1 : decide (f p = a) = false := decide_eq_false (by omega)
      have e2 : decide (f p < a) = true := decide_eq_true h3
      simp only [e1, e2, if_true, Bool.false_eq_true, if_false, Nat.add_zero]
      exact ih
    · have z : L.countP (fun p => decide (f p < a)) = 0 := List.countP_eq_zero.mpr fun q hq => by
        have := h1 q hq
        simp
        omega
      have e1 : decide (f p = a) = true := decide_eq_true h3
      have e2 : decide (f p < a) = false := decide_eq_false (by omega)
      simp only [e1, e2, if_true, Bool.false_eq_true, if_false, Nat.add_zero]
      rw [ih, z]
      rfl
    · have z : L.countP (fun p => decide (f p < a)) = 0 := List.countP_eq_zero.mpr fun q hq => by
        have := h1 q hq
        simp
        omega
      have z2 : L.countP (fun p => decide (f p = a)) = 0 := List.countP_eq_zero.mpr fun q hq => by
        have := h1 q hq
        simp
        omega
      have e1 : decide (f p = a) = false := decide_eq_false (by omega)
      have e2 : decide (f p < a) = false := decide_eq_false (by omega)
      simp only [e1, e2, Bool.false_eq_true, if_false, Nat.add_zero]
      rw [ih, z2]
      simp
def cLt (L : Wys) (s a : Int) : Nat := L.countP fun p => decide (ans p s < a)
def cEq (L : Wys) (s a : Int) : Nat := L.countP fun p => decide (ans p s = a)
theorem Chn.mono {L : Wys} {many : Nat} (h : Chn L many) (s : Int) : L.Pairwise fun p q => ans p s ≤ ans q s := h.rows.imp fun h => ans_mono h.1 h.2.1
theorem Chn.part {L : Wys} {many : Nat} (h : Chn L many) (s a : Int) : Ee.part L s a = (L.drop (cLt L s a)).take (cEq L s a) := filter_eq_cut (fun p => ans p s) a (h.mono s)
theorem sg_sg (W : Wys) (i n c d : Nat) : ((sg W i n).drop c).take d = sg W (i + c) (min d (n - c)) := by
  unfold sg
  rw [List.drop_take, List.drop_drop, List.take_take]
def IsSg (W L : Wys) : Prop := ∃ i n, L = sg W i n
theorem IsSg.part {W L : Wys} {many : Nat} (h : Chn W many) (k : IsSg W L) (s a : Int) : IsSg W (Ee.part L s a) := by
  obtain ⟨i, n, rfl⟩ := k
  rw [(h.sub (sg_sub W i n)).part s a, sg_sg]
  exact ⟨_, _, rfl⟩
theorem IsSg.chn {W L : Wys} {many : Nat} (h : Chn W many) (k : IsSg W L) : Chn L many := by
  obtain ⟨i, n, rfl⟩ := k
  exact h.sub (sg_sub W i n)
def sgs (W : Wys) : List Wys := (List.range 25).flatMap fun i => (List.range 25).map fun n => sg W i n
theorem IsSg.mem {W L : Wys} {many : Nat} (h : Chn W many) (k : IsSg W L) : L ∈ sgs W := by
  obtain ⟨i, n, rfl⟩ := k
  have hf := h.few
  have key : ∃ i' n', i' < 25 ∧ n' < 25 ∧ sg W i n = sg W i' n' := by
    by_cases hi : i < 25
    · refine ⟨i, min n 24, hi, by omega, ?_⟩
      unfold sg
      rcases Nat.le_total n 24 with h1 | h1
      · rw [Nat.min_eq_left h1]
      · rw [Nat.min_eq_right h1, List.take_of_length_le (by rw [List.length_drop]; omega), List.take_of_length_le (by rw [List.length_drop]; omega)]
    · refine ⟨0, 0, by omega, by omega, ?_⟩
      unfold sg
      rw [List.drop_of_length_le (by omega)]
      simp
  obtain ⟨i', n', h1, h2, e⟩ := key
  rw [e]
  exact List.mem_flatMap.mpr ⟨i', List.mem_range.mpr h1, List.mem_map.mpr ⟨n', List.mem_range.mpr h2, rfl⟩⟩
theorem sgs_len (W : Wys) : (sgs W).length = 625 := by
  unfold sgs
  rw [List.length_flatMap]
  simp only [List.length_map, List.length_range]
  decide
theorem nodup_le {α : Type} [DecidableEq α] : ∀ {l m : List α}, l.Nodup → (∀ x ∈ l, x ∈ m) → l.length ≤ m.length
  | [], _, _, _ => Nat.zero_le _
  | x :: l, m, h, s => by
    obtain ⟨h1, h2⟩ := List.nodup_cons.mp h
    have hx := s x List.mem_cons_self
    have ih := nodup_le (l := l) (m := m.erase x) h2 fun y hy => (List.mem_erase_of_ne (fun e => h1 (by rw [← e]; exact hy))).2 (s y (List.mem_cons_of_mem _ hy))
    have e := List.length_erase_of_mem hx
    have hp := List.length_pos_of_mem hx
    rw [List.length_cons]
    omega
end Ee

/-! the table of known ways among a def's objects; comprehensions whose turns change it -/
namespace Ee
open PySem PySem.Spec PyProof.Rows L2
theorem knAt_none {ks : List KnE} {L : Ways} (h : knAt ks L = none) : L ∉ ks.map (·.1) := by
  intro hm
  obtain ⟨k, hk, e⟩ := List.mem_map.mp hm
  unfold knAt at h
  rw [Option.map_eq_none_iff, List.find?_eq_none] at h
  exact h k hk (decide_eq_true e)
theorem knAt_some {ks : List KnE} {L : Ways} {i : Int} (h : knAt ks L = some i) : ∃ k ∈ ks, k.1 = L ∧ k.2.2 = i := by
  unfold knAt at h
  obtain ⟨k, h1, h2⟩ := Option.map_eq_some_iff.mp h
  exact ⟨k, List.mem_of_find?_eq_some h1, of_decide_eq_true (List.find?_some (p := fun k : KnE => decide (k.1 = L)) h1), h2⟩
theorem knAt_of_mem {ks : List KnE} {L : Ways} (h : L ∈ ks.map (·.1)) : ∃ i, knAt ks L = some i := by
  cases e : knAt ks L with
  | none => exact absurd h (knAt_none e)
  | some i => exact ⟨i, rfl⟩
structure KnGood (P : Program) (w : World) (K : PySem.W.Frag) (W : Ways) (many : Nat) (must : Option Ways) (H : Hp) (ks : List KnE) : Prop where
  keys : ∀ k ∈ ks, Is K H (.ktup (k.1.map kD)) (.ref k.2.1) ∧ IsSg W k.1 ∧ k.2.2 = lst many k.1
  nd : (ks.map (·.1)).Nodup
  must : ∀ L, must = some L → L ∈ ks.map (·.1)
theorem imm_ways (L : Ways) : imm (.ktup (L.map kD)) = true := immA_of fun d hd => by
  obtain ⟨x, _, rfl⟩ := List.mem_map.mp hd
  rfl
def celN (P : Program) (w : World) (K : PySem.W.Frag) (W : Ways) (many : Nat) (must : Option Ways) : Cel where
  ok := fun H a => ∃ ks : List KnE, H a = some (KnO P w a ks) ∧ KnGood P w K W many must H ks
  st := fun t e ⟨ks, h1, h2⟩ => ⟨ks, by rw [e]; exact h1, ⟨fun k hk => ⟨(h2.keys k hk).1.stay t (imm_ways _), (h2.keys k hk).2⟩, h2.nd, h2.must⟩⟩
  nn := fun ⟨ks, h1, _⟩ z => by rw [h1] at z; cases z
section
variable {P : Program} {w : World} {K : PySem.W.Frag} {W : Ways} {many : Nat} {must : Option Ways} {H : Hp} {ks : List KnE}
theorem KnGood.tup (g : KnGood P w K W many must H ks) : ∀ k ∈ ks, KnT H k.1 k.2.1 := fun k hk => by
  obtain ⟨b, e, h⟩ := knT_of (g.keys k hk).1
  have e : k.2.1 = b := by injection e
  rw [e]
  exact h
theorem KnGood.few (g : KnGood P w K W many must H ks) (C : Chn W many) : ks.length ≤ 625 := by
  have h := nodup_le (m := sgs W) g.nd fun L hL => by
    obtain ⟨k, hk, rfl⟩ := List.mem_map.mp hL
    exact (g.keys k hk).2.1.mem C
  rw [List.length_map, sgs_len] at h
  exact h
theorem KnGood.get (g : KnGood P w K W many must H ks) {L : Ways} {i : Int} (h : knAt ks L = some i) : i = lst many L := by
  obtain ⟨k, hk, e1, e2⟩ := knAt_some h
  rw [← e1, ← e2]
  exact (g.keys k hk).2.2
theorem KnGood.put (g : KnGood P w K W many must H ks) {L : Ways} {b : Addr} (hb : Is K H (.ktup (L.map kD)) (.ref b)) (hL : IsSg W L) : KnGood P w K W many (some L) H (knPut ks L b (lst many L)) := by
  unfold knPut
  cases e : knAt ks L with
  | none =>
    have hn := knAt_none e
    rw [if_neg (by decide)]
    refine ⟨fun k hk => ?_, ?_, fun M hM => ?_⟩
    · rcases List.mem_append.mp hk with hk | hk
      · exact g.keys k hk
      · have : k = (L, b, lst many L) := by simpa using hk
        subst this
        exact ⟨hb, hL, rfl⟩
    · rw [List.map_append, List.nodup_append]
      refine ⟨g.nd, by simp, fun x hx y hy => ?_⟩
      have hy : y = L := by simpa using hy
      subst hy
      rintro rfl
      exact hn hx
    · cases hM
      simp
  | some i =>
    rw [if_pos (by rfl)]
    have hkeys : (ks.map fun k => if k.1 = L then (k.1, k.2.1, lst many L) else k).map (·.1) = ks.map (·.1) := by
      rw [List.map_map]
      refine List.map_congr_left fun k _ => ?_
      show (if k.1 = L then (k.1, k.2.1, lst many L) else k).1 = k.1
      split <;> rfl
    refine ⟨fun k hk => ?_, by rw [hkeys]; exact g.nd, fun M hM => ?_⟩
    · obtain ⟨k0, hk0, rfl⟩ := List.mem_map.mp hk
      obtain ⟨h1, h2, h3⟩ := g.keys k0 hk0
      show Is K H (.ktup ((if k0.1 = L then (k0.1, k0.2.1, lst many L) else k0).1.map kD)) (.ref (if k0.1 = L then (k0.1, k0.2.1, lst many L) else k0).2.1) ∧ _
      split
      · rename_i e2
        exact ⟨h1, h2, by show lst many L = lst many k0.1; rw [e2]⟩
      · exact ⟨h1, h2, h3⟩
    · cases hM
      rw [hkeys]
      obtain ⟨k, hk, e1, _⟩ := knAt_some e
      exact List.mem_map.mpr ⟨k, hk, e1⟩
theorem KnGood.stay {H' : Hp} (t : Tst H H') (g : KnGood P w K W many must H ks) : KnGood P w K W many must H' ks := ⟨fun k hk => ⟨(g.keys k hk).1.stay t (imm_ways _), (g.keys k hk).2⟩, g.nd, g.must⟩
theorem KnGood.any (g : KnGood P w K W many must H ks) : KnGood P w K W many none H ks := ⟨g.keys, g.nd, fun _ z => nomatch z⟩
end
section
variable {S : Sx} {E E' : En} {m m2 : Mem} {tg it a b c e : Expr} {es : List Expr} {d x y : D} {ds : List D} {pos p p2 ps : Pos} {G : D → Prop} {N : En → Mem → Prop} {R : D → Mem → Prop} {rest A B : List Stmt} {bs : List (List Stmt)} {W L : Ways} {many : Nat} {l : Addr} {must : Option Ways}
/-- if ways not in known -/
theorem m_ifNotIn (k : Nat) (w : VW S.K m E E') (hm' : m[k]? = some (l, celN S.P S.w S.K W many none)) (ha : PV S E' a (.ktup (L.map kD))) (hb : PV S E' b (.adr l)) (h1 : GoM S (A :: rest :: bs) E m N R) (h2 : GoM S (B :: rest :: bs) E (m.set k (l, celN S.P S.w S.K W many (some L))) N R) (hmk : behindInMarks .NotIn b = false := by rfl) :
    GoM S ((.If (.Compare a [.NotIn] [b] p) A B pos :: rest) :: bs) E m N R := fun H0 σ H T e0 hE hm hacc =>
  rk_st (t := tIfS (tTest (tOp (rKnNotIn S.P S.w) (SE S a) (SE S b))) (SB S A) (SB S B)) (fun X M => ps_if (pt_cmpR (by rw [← M.prog, ← M.w]; exact op_knNotIn M.u64) (se_ok M) (se_ok M) hmk) (sb_ok M) (sb_ok M)) (by
    refine ha σ H ((hE.env e0).view w hm) _ fun u H1 e1 i1 => hb σ H1 (((hE.env e0).view w hm).mono e1) _ fun v H2 e2 i2 => ?_
    have i2 : v = .ref l := i2
    subst i2
    obtain ⟨b', e3, t⟩ := knT_of (i1.mono e2)
    subst e3
    have m2 := hm.same (e1.trans e2)
    obtain ⟨hl0, ks, g1, g2⟩ := m2.1 _ (mem_ix hm')
    refine ⟨l, b', L, ks, rfl, rfl, g1, t, g2.tup, ⟨_, rfl, ?_⟩⟩
    have hE2 := hE.stay (Tst.of (e1.trans e2))
    cases hh : knAt ks L with
    | none => exact iteT (h1 H0 σ H2 T (e0.trans (e1.trans e2)) hE2 m2 (hacc.mono (Tst.of (e1.trans e2))))
    | some i =>
      refine iteF (h2 H0 σ H2 T (e0.trans (e1.trans e2)) hE2 (m2.put hm' (Tst.refl _) (fun _ _ _ => rfl) ⟨ks, g1, g2.keys, g2.nd, fun M hM => ?_⟩) (hacc.mono (Tst.of (e1.trans e2))))
      cases hM
      obtain ⟨k0, hk0, e4, _⟩ := knAt_some hh
      exact List.mem_map.mpr ⟨k0, hk0, e4⟩)
/-- known[ways] -/
theorem z_nget (k : Nat) (hm' : m[k]? = some (l, celN S.P S.w S.K W many (some L))) (hb : PV S E b (.adr l)) (ha : PV S E a (.ktup (L.map kD))) (hs : NoSl a := by exact fun _ _ => rfl) : ZM S E m (.Subscript b a pos) (· = .int (lst many L)) := fun H0 σ H e0 hE hm Q q =>
  ⟨tKnGet (SE S b) (SE S a) S.P S.w, fun X M => by rw [← M.prog, ← M.w]; exact pe_knget M.u64 (se_ok M) (se_ok M) hs, hb σ H (hE.env e0) _ fun v H1 e1 i1 => ha σ H1 ((hE.env e0).mono e1) _ fun u H2 e2 i2 => by
    have i1 : v = .ref l := i1
    subst i1
    obtain ⟨b', e3, t⟩ := knT_of i2
    subst e3
    have m2 := hm.same (e1.trans e2)
    obtain ⟨hl0, ks, g1, g2⟩ := m2.1 _ (mem_ix hm')
    obtain ⟨i, hi⟩ := knAt_of_mem (g2.must L rfl)
    refine ⟨l, b', L, ks, i, rfl, rfl, g1, t, g2.tup, hi, q _ H2 (.int (lst many L)) (e0.trans (e1.trans e2)) (Tst.of (e1.trans e2)) m2 rfl ?_⟩
    rw [g2.get hi]
    exact rfl⟩
/-- known[ways] = found -/
theorem m_nput (k : Nat) (w : VW S.K m E E') (C : Chn W many) (hL : IsSg W L) (hm' : m[k]? = some (l, celN S.P S.w S.K W many must)) (he : PV S E' e (.int (lst many L))) (ho : PV S E' b (.adr l)) (ha : PV S E' a (.ktup (L.map kD))) (h : GoM S (rest :: bs) E (m.set k (l, celN S.P S.w S.K W many (some L))) N R)
    (hs : ∀ env : PySem.Env, swapsWith e (some (.Subscript b a ps)) pos.line env = pure false := by intro _; rfl) : GoM S ((.Assign [.Subscript b a ps] e pos :: rest) :: bs) E m N R := fun H0 σ H T e0 hE hm hacc => by
  refine rk_st (t := sKnPut (SE S b) (SE S a) (SE S e) S.P S.w) (fun X M => by rw [← M.prog, ← M.w]; exact ps_knput M.u64 (se_ok M) (se_ok M) (se_ok M) (hs _)) ?_
  have hv := (hE.env e0).view w hm
  refine he σ H hv _ fun v H1 e1 i1 => ho σ H1 (hv.mono e1) _ fun u H2 e2 i2 => ha σ H2 (hv.mono (e1.trans e2)) _ fun t H3 e3 i3 => ?_
  have i1 : v = .int (lst many L) := i1
  have i2 : u = .ref l := i2
  subst i1 i2
  obtain ⟨b', e4, t4⟩ := knT_of i3
  subst e4
  have e123 := e1.trans (e2.trans e3)
  have m3 := hm.same e123
  obtain ⟨hl0, ks, g1, g2⟩ := m3.1 _ (mem_ix hm')
  have t7 : Tst H3 (upd H3 l (KnO S.P S.w l (knPut ks L b' (lst many L)))) := Tst.upd_ext g1
  refine ⟨l, b', L, ks, _, rfl, rfl, rfl, g1, t4, g2.tup, Nat.lt_of_le_of_lt (g2.few C) (by decide), ?_⟩
  exact h H0 σ _ T (Same.mut (e0.trans e123) hl0) ((hE.stay (Tst.of e123)).stay t7) (m3.put hm' t7 (fun b hb _ => upd_ne hb) ⟨_, upd_same, (g2.put i3 hL).stay t7⟩) (hacc.mono ((Tst.of e123).trans t7))
/-- min(i, e), max([..]) -/
theorem z_min2 {i : Int} {g : Int → Prop} (hg : GlS S "min") (hm0 : S.mg "min" = none) (ha : PV S E a (.int i)) (hb : ZI S E m b g) (he : St1 a [b] := by intro _; rfl) (hpl : NoSt [b] pos := by intro _; rfl) (hs : ∀ env : PySem.Env, starEach [b] env = (false, eval b env) :: starEach [] env := by intro _; rfl) : ZI S E m (.Call (.Name "min" p) [a, b] [] pos) (fun k => ∃ j, g j ∧ k = min i j) := fun H0 σ H e0 hE hm Q q =>
  ⟨_, fun X M => pe_callB (call_min2 M.calm) (show X.env.scope.names.lookup _ = _ by rw [M.sc]; exact hg) (by rw [M.mg]; exact hm0) boot_min (pa_cons (se_ok M) (pa_cons (se_ok M) pa_nil (hs _)) (he _)) (by decide) (by decide) (he _) (hpl _), ha σ H (hE.env e0) _ fun v H1 e1 i1 => hb H0 σ H1 (e0.trans e1) (hE.stay (Tst.of e1)) (hm.same e1) _ fun u H2 d e2 t2 m2 g2 i2 => by
    obtain ⟨j, rfl, gj⟩ := g2
    have i1 : v = .int i := i1
    have i2 : u = .int j := i2
    subst i1 i2
    exact ⟨i, j, rfl, q _ H2 (.int (min i j)) e2 ((Tst.of e1).trans t2) m2 ⟨_, rfl, j, gj, rfl⟩ (show _ = _ by congr 1; split <;> omega)⟩⟩
theorem z_maxL {ns : List Int} (hg : GlS S "max") (hm0 : S.mg "max" = none) (ha : ZM S E m a (· = .lst (ns.map D.int))) (h0 : ns ≠ []) (he : St1 a [] := by intro _; rfl) : ZI S E m (.Call (.Name "max" p) [a] [] pos) (· = maxOf ns) := fun H0 σ H e0 hE hm Q q =>
  ⟨_, fun X M => pe_callB (r := rMax S.K) (by rw [← M.K]; exact cr_max M.calm) (show X.env.scope.names.lookup _ = _ by rw [M.sc]; exact hg) (by rw [M.mg]; exact hm0) boot_max (pa_cons (se_ok M) pa_nil (he _)) (by decide) (by decide) (he _) rfl, ha H0 σ H e0 hE hm _ fun v H1 d e1 t1 m1 g1 i1 => by
    subst g1
    obtain ⟨a', xs, rfl, h2, h3⟩ := i1
    refine ⟨a', ns, rfl, by rw [← h3.ints]; exact h2, List.length_pos_iff.mpr h0, fun k hk1 hk2 => ?_⟩
    obtain ⟨h4, h5⟩ := maxOf_mem h0
    have : k = maxOf ns := Int.le_antisymm (h5 k hk1) (hk2 _ h4)
    exact q _ H1 (.int (maxOf ns)) e1 t1 m1 ⟨_, rfl, rfl⟩ (show _ = _ by rw [this])⟩
theorem EnvM.wipe {K : PySem.W.Frag} {H0 H : Hp} {σ : L2.St} (h : EnvM K H0 H σ E) : ∀ vs : List Nat, EnvM K H0 H (L2.wipe σ vs) (wipeE E vs)
  | [] => h
  | v :: vs => by
    have ih := EnvM.wipe h vs
    refine ⟨by show ((L2.wipe σ vs).set v none).length = ((wipeE E vs).set v none).length; rw [List.length_set, List.length_set]; exact ih.1, fun j d e => ?_⟩
    have e : ((wipeE E vs).set v none)[j]? = some (some d) := e
    show ∃ u, ((L2.wipe σ vs).set v none)[j]? = some (some u) ∧ _
    by_cases hij : v = j
    · subst hij
      by_cases hl : v < (wipeE E vs).length
      · rw [List.getElem?_set_self hl] at e
        cases e
      · rw [List.getElem?_eq_none (by rw [List.length_set]; omega)] at e
        cases e
    · rw [List.getElem?_set_ne hij] at e
      obtain ⟨u, h1, h2⟩ := ih.2 j d e
      exact ⟨u, by rw [List.getElem?_set_ne hij]; exact h1, h2⟩
/-- [elt for x in a list of the def's own]: elt an int, the other objects changed as told -/
theorem z_lcN {α : Type} {l : List α} {g : α → D} {f : α → Int} {scope : Scope} {own : List (Str × Nat)} {n : Str} {pn : Pos} {al : Addr} {elt : Expr} (j : Nat) (hnd : S.N.Nodup) (ok : BlkOk S.N S.sc scope own) (hit : PV S E it (.adr al)) (hlen : l.length ≤ 1000) (him : ∀ x ∈ l, imm (g x) = true) (hj : j ∈ own.map (·.2)) (hN : S.N[j]? = some n) (hx : Loc (S.blk scope).sc n) (hf : (S.blk scope).fn n = true ∨ (S.blk scope).sc.names.lookup n = some .local)
    (ht : ∀ x ∈ l, ZM (S.blk scope) ((wipeE E (own.map (·.2))).set j (some (g x))) m2 elt (· = .int (f x))) (hs : ∀ (env : PySem.Env) x, foldedSetIterable it env x = pure x := by intro _ _; rfl) :
    ZM S E (m2 ++ [(al, celL S.K (l.map g))]) (.ListComp elt [⟨.Name n pn, it, [], 0⟩] scope pos) (· = .lst ((l.map f).map D.int)) := fun H0 σ H e0 hE hm Q q =>
  ⟨tLc (iList S.K (SE S it)) (gName j) tYes (SE (S.blk scope) elt) (own.map (·.2)), fun X M => by
    rw [← M.K]
    exact pe_lc M.calm (by rw [M.N]; exact hnd) (pi_list (se_ok M)) (by rw [M.N, M.sc]; exact ok) (fun s H C cl fp => by
      have M' := M.blk (scope := scope) s H C cl fp
      exact pg_name (by rw [M'.N]; exact hnd) (by rw [M'.N]; exact hN) (by rw [M'.sc]; exact hx) (by rw [M'.fn, M'.sc]; exact hf)) (fun s H C cl fp => pts_nil) (fun s H C cl fp => se_ok (M.blk s H C cl fp)) (fun x => hs _ x), by
    refine hit σ H (hE.env e0) _ fun v H1 e1 i1 => ?_
    have i1 : v = .ref al := i1
    subst i1
    have m1 := hm.same e1
    obtain ⟨ha0, xs, g1, g2, g3⟩ := m1.1 (al, celL S.K (l.map g)) (by simp)
    have e01 := e0.trans e1
    have hne : ∀ x ∈ m2, x.1 ≠ al := fun x hx z => by
      have := hm.2
      rw [List.map_append, List.nodup_append] at this
      exact this.2.2 x.1 (List.mem_map_of_mem hx) al (by simp) z
    refine ⟨al, rfl, ⟨xs, .inl (.inl g1)⟩, fun Dl hD => ?_⟩
    have hDne : Dl ≠ al := fun z => by rw [z, g1] at hD; cases hD
    have hD0 : H0 Dl = none := Same.free e01 hD
    have hDm : ∀ x ∈ m2, x.1 ≠ Dl := fun x hx z => by
      have := x.2.nn (m1.1 x (List.mem_append_left _ hx)).2
      rw [z] at this
      exact this hD
    -- what stands, with the walked list
    have s0a : Same H0 (upd H0 al (.lst xs)) := Same.new ha0
    have a1 : Same (upd H0 al (.lst xs)) H1 := fun b o hb => by
      by_cases hba : b = al
      · subst hba
        rw [upd_same] at hb
        rw [← hb]
        exact g1
      · rw [upd_ne hba] at hb
        exact e01 b o hb
    have haD : upd H0 al (.lst xs) Dl = none := by rw [upd_ne hDne]; exact hD0
    refine lc_list (K := S.K) (a := al) (xs := xs) (fun i H' => Same (upd H0 al (.lst xs)) H' ∧ Tst H1 H' ∧ MOk H0 H' m2 ∧ H' Dl = some (.lst (((l.take i).map f).map V.int)) ∧ i ≤ l.length) ⟨a1.trans (Same.new hD), Tst.of (Same.new hD), (m1.sub (List.sublist_append_left _ _)).same (Same.new hD), upd_same, Nat.zero_le _⟩ (fun i H' _ z => .inl (.inl (z.1 al _ upd_same)))
      (fun i x H' hx z => ?_) (fun H' z => ?_)
    · obtain ⟨z1, z2, z3, z4, z5⟩ := z
      obtain ⟨d', hd', hi⟩ := g2.getV hx
      obtain ⟨y, hy, rfl⟩ := map_at hd'
      have hym := List.mem_of_getElem? hy
      have hil : i < l.length := (List.getElem?_eq_some_iff.mp hy).1
      refine ⟨wipe_set hj |>.trans wipe_wipe, ?_⟩
      dsimp only [tYes]
      rw [if_pos rfl]
      have sb : Same (upd (upd H0 al (.lst xs)) Dl (.lst (((l.take i).map f).map V.int))) H' := fun b o hb => by
        by_cases hbD : b = Dl
        · subst hbD
          rw [upd_same] at hb
          rw [← hb]
          exact z4
        · rw [upd_ne hbD] at hb
          exact z1 b o hb
      have s0b : Same H0 (upd (upd H0 al (.lst xs)) Dl (.lst (((l.take i).map f).map V.int))) := s0a.trans (Same.new haD)
      have mb : MOk (upd (upd H0 al (.lst xs)) Dl (.lst (((l.take i).map f).map V.int))) H' m2 := ⟨fun u hu => ⟨by rw [upd_ne (hDm u hu), upd_ne (hne u hu)]; exact (z3.1 u hu).1, (z3.1 u hu).2⟩, z3.2⟩
      have hEb : EnvM S.K (upd (upd H0 al (.lst xs)) Dl (.lst (((l.take i).map f).map V.int))) H' (L2.wipe σ (own.map (·.2))) (wipeE E (own.map (·.2))) := EnvM.wipe ⟨hE.1, fun k d hd => by
        obtain ⟨v, k1, k2⟩ := hE.2 k d hd
        exact ⟨v, k1, k2.imp (fun z => z.mono s0b) fun z => ⟨z.1, (z.2.mono e1).stay z2 z.1⟩⟩⟩ _
      refine ht y hym _ _ H' sb (hEb.set j (him y hym) (hi.stay z2 (him y hym))) mb _ fun v4 H4 d e4 t4 m4 g4 i4 => ?_
      subst g4
      have i4 : v4 = .int (f y) := i4
      subst i4
      have hD4 : H4 Dl = some (.lst (((l.take i).map f).map V.int)) := e4 _ _ upd_same
      have t5 : Tst H4 (upd H4 Dl (.lst (((l.take i).map f).map V.int ++ [.int (f y)]))) := Tst.upd_lst hD4
      have ea : Same (upd H0 al (.lst xs)) H4 := (Same.new haD).trans e4
      refine ⟨_, hD4, ?_, Same.mut ea haD, (z2.trans t4).trans t5, ⟨fun u hu => ⟨(z3.1 u hu).1, u.2.st t5 (upd_ne (hDm u hu)) (m4.1 u hu).2⟩, z3.2⟩, ?_, hil⟩
      · rw [List.length_map, List.length_map, List.length_take]
        exact Nat.lt_of_le_of_lt (show _ ≤ 1000 by omega) (by decide)
      · rw [upd_same, take_succ hy, List.map_append, List.map_append]
        rfl
    · obtain ⟨z1, z2, z3, z4, z5⟩ := z
      have hl : xs.length = l.length := by rw [← g2.len, List.length_map]
      rw [hl, List.take_length] at z4
      refine q _ H' _ (s0a.trans z1) ((Tst.of e1).trans z2) ⟨fun u hu => ?_, hm.2⟩ rfl ⟨Dl, _, rfl, .inl (.inl z4), IsA.ints' _⟩
      rcases List.mem_append.mp hu with hu | hu
      · exact z3.1 u hu
      · have : u = (al, celL S.K (l.map g)) := by simpa using hu
        subst this
        exact ⟨ha0, xs, z1 al _ upd_same, g2.stay z2 g3, g3⟩⟩
end
end Ee

/-! the law's least number of lamps -/
namespace Ee
open PySem PySem.Spec PyProof.Rows L2
/-- given ways, a number of splices and the table of known ways: the least number of lamps; the table stays true -/
def PL (P : Program) (w : World) (K : PySem.W.Frag) (n : Nat) : Sp := fun vs H Q _ => ∃ (W L : Ways) (many : Nat) (u : V) (l : Addr), vs = [u, .int (many : Int), .ref l] ∧ Is K H (.ktup (L.map kD)) u ∧ Chn W many ∧ many ≤ 100 ∧ IsSg W L ∧ L.length ≤ n ∧ (celN P w K W many none).ok H l ∧
  ∀ H', (∀ b o, b ≠ l → H b = some o → H' b = some o) → (celN P w K W many none).ok H' l → Q (.int (lst many L)) H'
theorem hid_tst' {H : Hp} {a : Addr} (h : ∀ xs, H a ≠ some (.tup xs)) (h' : ∀ o u, H a ≠ some (.frz o u)) : Tst H (hid H a) := by
  have k : ∀ b o, H b = some o → b ≠ a → hid H a b = some o := fun b o q hb => by
    unfold hid
    rw [if_neg hb]
    exact q
  exact ⟨fun b ys q => k b _ q (by rintro rfl; exact h _ q), fun b o u q => k b _ q (by rintro rfl; exact h' _ _ q)⟩
section
variable {S : Sx} {E E' : En} {m : Mem} {tg it a b c e : Expr} {es : List Expr} {d x y : D} {ds : List D} {pos p p2 ps : Pos} {G : D → Prop} {N : En → Mem → Prop} {R : D → Mem → Prop} {rest A B : List Stmt} {bs : List (List Stmt)} {W L : Ways} {many : Nat} {l : Addr}
theorem PV.wk1 (h : PV S E e (.ktup ds)) : PV S E e (.tup ds) := fun σ H hE Q k => h σ H hE Q fun v H' e1 i1 => k v H' e1 (by
  obtain ⟨a, xs, e1, h1, h2⟩ := i1
  exact ⟨a, xs, e1, .inl (.inl h1), h2⟩)
theorem z_least {n lv : Nat} (k : Nat) (h : Ok S.P S.w S.K S.mg S.base lv "_law_least" p_L_least (PL S.P S.w S.K n)) (hg : GlS S "_law_least") (hm' : m[k]? = some (l, celN S.P S.w S.K W many none)) (C : Chn W many) (hmany : many ≤ 100) (hL : IsSg W L) (hn : L.length ≤ n) (ha : PVs S E [a, b, c] [.ktup (L.map kD), .int (many : Int), .adr l]) (hk : lv ≤ S.k)
    (he : St1 a [b, c] := by intro _; rfl) (hpl : NoSt [b, c] pos := by intro _; rfl) : ZM S E m (.Call (.Name "_law_least" p) [a, b, c] [] pos) (· = .int (lst many L)) := fun H0 σ H e0 hE hm Q q => by
  obtain ⟨f, fd, h1, h2, h3, h4⟩ := h
  obtain ⟨P, w, K, mg, base, N, sc, fn, k'⟩ := S
  refine ⟨tCall (PL P w K n) [] E0 (SA ⟨P, w, K, mg, base, N, sc, fn, k'⟩ [a, b, c]), fun X M => ?_, ha σ H (hE.env e0) _ fun vs H1 e1 i1 => ?_⟩
  · have M' := M
    obtain ⟨rfl, rfl, rfl, rfl, rfl, rfl, rfl, rfl, _, hr, _⟩ := M'
    exact pe_call h4 (hr.mono hk) hg h1 h2 h3 .nil pass0 (sa_ok M) (by decide) (he _) (hpl _)
  obtain ⟨u, r, rfl, i2, i3⟩ := i1
  obtain ⟨v1, v2, rfl, i4, i5⟩ := isA2 i3
  have i4 : v1 = .int (many : Int) := i4
  have i5 : v2 = .ref l := i5
  subst i4 i5
  have m1 := hm.same e1
  have hc := (m1.1 _ (mem_ix hm')).2
  have hl0 : H0 l = none := (m1.1 _ (mem_ix hm')).1
  refine ⟨W, L, many, u, l, rfl, i2, C, hmany, hL, hn, hc, fun H3 k1 k2 => ?_⟩
  obtain ⟨ks, hp, _⟩ := hc
  have t3 : Tst H1 H3 := ⟨fun b ys q => k1 b _ (by rintro rfl; rw [hp] at q; cases q) q, fun b o u q => k1 b _ (by rintro rfl; rw [hp] at q; cases q) q⟩
  have s3 : Same H0 H3 := fun b o q => k1 b o (by rintro rfl; rw [hl0] at q; cases q) (e1 b o (e0 b o q))
  have m3 : MOk H0 H3 m := by
    have := m1.put (c' := celN P w K W many none) (H' := H3) hm' t3 (fun b hb hn => by
      cases q : H1 b with
      | none => exact absurd q hn
      | some o => exact k1 b o hb q) k2
    have e : m.set k (l, celN P w K W many none) = m := by
      apply List.ext_getElem?
      intro j
      by_cases hjk : k = j
      · subst hjk
        rw [List.getElem?_set_self (List.getElem?_eq_some_iff.mp hm').1, hm']
      · rw [List.getElem?_set_ne hjk]
    rw [e] at this
    exact this
  exact q _ H3 (.int (lst many L)) s3 ((Tst.of e1).trans t3) m3 rfl rfl
/-- a comprehension over range(n): a new list -/
theorem nR_core {f : Nat → Option D} {n : Nat} {a : Expr} {elt : Expr} {ifs : List Expr} {scope : Scope} {own : List (Str × Nat)} (hnd : S.N.Nodup) (ha : PVs S E [a] [.int (n : Int)]) (hlen : n ≤ 1000) (ht : ∀ i, i < n → Turn1 S E scope own tg elt ifs (.int (i : Int)) (f i)) {σ : L2.St} {H : Hp} (hE : Env S.K H σ E) {Q : VK}
    (q : ∀ p xs H', H p = none → Same H H' → H' p = some (.lst xs) → IsA S.K H' ((List.range n).filterMap f) xs → Q (.ref p) H') :
    tLc (iRng1 (SA S [a])) (SG (S.blk scope) tg) (ST1 (S.blk scope) ifs) (SE (S.blk scope) elt) (own.map (·.2)) σ H Q := by
  refine ha σ H hE _ fun vs H1 e1 i1 => ?_
  obtain ⟨v, rfl, h1⟩ := isA1 i1
  have h1 : v = .int (n : Int) := h1
  subst h1
  refine ⟨(n : Int), rfl, by omega, by omega, fun Dl hD => ?_⟩
  rw [Int.toNat_natCast]
  refine lc_range (lo := 0) (n := n) (fun i H' => Same H1 H' ∧ ∃ acc, H' Dl = some (.lst acc) ∧ IsA S.K H' (((List.range n).take i).filterMap f) acc ∧ immA (((List.range n).take i).filterMap f) = true) ⟨Same.new hD, [], upd_same, by rw [List.take_zero]; exact rfl, by rw [List.take_zero]; rfl⟩
    (fun i H' hi p => ?_) (fun H' p => ?_)
  · have e0 : (0 : Int) + (i : Int) = (i : Int) := Int.zero_add _
    rw [e0]
    exact turn_rd (g := fun i : Nat => D.int (i : Int)) hnd (List.getElem?_range hi) (by omega) (ht i hi) (hE.mono e1) hD p.1 rfl p.2
  · obtain ⟨p1, acc, p2, p3, _⟩ := p
    rw [List.take_of_length_le (by rw [List.length_range]; exact Nat.le_refl _)] at p3
    exact q Dl _ H' (Same.free e1 hD) (e1.trans p1) p2 p3
/-- y = [.. for i in range(n)] on one line -/
theorem m_setLcR {f : Nat → Option D} {nn : Nat} {elt : Expr} {ifs : List Expr} {scope : Scope} {n : Str} {py spos pr : Pos} (i : Nat) (own : List (Str × Nat)) (hnd : S.N.Nodup) (ok : BlkOk S.N S.sc scope own) (hN : S.N[i]? = some n) (hk : S.sc.kind = .function) (hx : S.sc.names.lookup n = some .local) (hl : (py.line == pos.line) = true) (hany : (scope.names.any fun (m, k) => m == n && (k == .local || k == .cell)) = false)
    (hg : GlS S "range") (hm0 : S.mg "range" = none) (ha : PVs S E [a] [.int (nn : Int)]) (hlen : nn ≤ 1000) (hi : immA ((List.range nn).filterMap f) = true) (ht : ∀ j, j < nn → Turn1 S E scope own tg elt ifs (.int (j : Int)) (f j)) (h : ∀ a, GoM S (rest :: bs) (E.set i (some (.adr a))) (m ++ [(a, celL S.K ((List.range nn).filterMap f))]) N R) (hst : ∀ env : PySem.Env, starEach [a] env = [(false, eval a env)] := by intro _; rfl) :
    GoM S ((.Assign [.Name n py] (.ListComp elt [⟨tg, .Call (.Name "range" pr) [a] [] p, ifs, 0⟩] scope pos) spos :: rest) :: bs) E m N R := fun H0 σ H T e0 hE hm hacc =>
  rk_st (t := tAsg (tLc (iRng1 (SA S [a])) (SG (S.blk scope) tg) (ST1 (S.blk scope) ifs) (SE (S.blk scope) elt) (own.map (·.2))) (gName i)) (fun X M =>
    ps_setLc M.calm (by rw [M.N]; exact hnd) (by rw [M.N]; exact hN) (by rw [M.sc]; exact hx) (sw_true (by rw [M.sc]; exact hk) (by rw [M.sc]; exact hx) hl hany) (pi_range1 (show X.env.scope.names.lookup _ = _ by rw [M.sc]; exact hg) (by rw [M.mg]; exact hm0) (sa_ok M) (hst _)) (by rw [M.N, M.sc]; exact ok) (fun s H C cl fp => sg_ok (M.blk s H C cl fp)) (fun s H C cl fp => st1_ok (M.blk s H C cl fp)) (fun s H C cl fp => se_ok (M.blk s H C cl fp)) (fun x => rfl))
    (by
      show tLc (iRng1 (SA S [a])) (SG (S.blk scope) tg) (ST1 (S.blk scope) ifs) (SE (S.blk scope) elt) (own.map (·.2)) σ H (fun v H1 => RK S (rest :: bs) T (σ.set i (some v)) H1)
      exact nR_core hnd ha hlen ht (hE.env e0) fun p xs H1 hp e1 h1 i1 => h p H0 _ H1 T (e0.trans e1) ((hE.stay (Tst.of e1)).set i rfl rfl) (hm.new hp e1 e0 ⟨xs, h1, i1, hi⟩) (hacc.mono (Tst.of e1)))
end
section
variable {P : Program} {w : World} {K : PySem.W.Frag} {mg : Str → Option Value} {base : Heap}
abbrev OkLans (P : Program) (w : World) (K : PySem.W.Frag) (mg : Str → Option Value) (base : Heap) : Prop := Ok P w K mg base 1 "_law_answer" p_L_answer (PF K R_answer)
abbrev OkLst (P : Program) (w : World) (K : PySem.W.Frag) (mg : Str → Option Value) (base : Heap) (n : Nat) : Prop := Ok P w K mg base (n + 2) "_law_least" p_L_least (PL P w K n)
/-- the least number by its body -/
theorem ok_least_by {n k : Nat} (hD : Df K mg "_law_least" s_L_least p_L_least)
    (hb : ∀ (W L : Ways) (many : Nat) (l : Addr), Chn W many → many ≤ 100 → IsSg W L → L.length ≤ n → GoM (sx P w K mg base n_L_least s_L_least k) [defBody s_L_least] (ini n_L_least [.ktup (L.map kD), .int (many : Int), .adr l]) [(l, celN P w K W many none)] (fun _ _ => False) (fun d' m' => d' = .int (lst many L) ∧ m' = [(l, celN P w K W many none)])) : Ok P w K mg base (k + 1) "_law_least" p_L_least (PL P w K n) :=
  ok_sp hD sc_L_least (fun vs H Q E h => by
    obtain ⟨W, L, many, u, l, rfl, _⟩ := h
    rfl) fun vs H Q E h => by
    obtain ⟨W, L, many, u, l, rfl, hi, C, hmany, hL, hn, hc, h3⟩ := h
    have hc' := hc
    obtain ⟨ks, hp, _⟩ := hc'
    have tst : Tst H (hid H l) := hid_tst' (fun xs z => by rw [hp] at z; cases z) (fun o u z => by rw [hp] at z; cases z)
    have h1' : IsA K (hid H l) [.ktup (L.map kD), .int (many : Int), .adr l] [u, .int (many : Int), .ref l] := ⟨_, _, rfl, hi.stay tst (imm_ways L), _, _, rfl, rfl, _, _, rfl, rfl, rfl⟩
    refine hb W L many l C hmany hL hn (hid H l) _ H _ (hid_same H l) (EnvM.of (env_start h1')) ⟨fun z hz => ?_, by simp⟩ ⟨fun _ _ _ _ z => z.elim, fun d' m' v H' ⟨gd, em⟩ s _ mo i => ?_⟩
    · have : z = (l, celN P w K W many none) := by simpa using hz
      subst this
      exact ⟨if_pos rfl, hc⟩
    · subst em gd
      have i : v = .int (lst many L) := i
      subst i
      refine h3 H' (fun b o hb' hbo => s b o ?_) (mo.1 (l, celN P w K W many none) (by simp)).2
      unfold hid
      rw [if_neg hb']
      exact hbo

theorem in_menu3' {α : Type} {d x y z : α} (h : d ∈ [x, y, z]) : d = x ∨ d = y ∨ d = z := by simpa using h
theorem part_fm (L : Ways) (s a : Int) : (L.filterMap fun p => if ans p s = a then some (kD p) else none) = (part L s a).map kD := by
  unfold part
  induction L with
  | nil => rfl
  | cons p L ih =>
    rw [List.filterMap_cons, List.filter_cons]
    by_cases h : ans p s = a
    · rw [if_pos h, if_pos (decide_eq_true h), List.map_cons, ← ih]
    · rw [if_neg h, if_neg (by simpa using h)]
      exact ih
theorem wkA_kD : ∀ L : Ways, wkA (L.map kD) = L.map prD
  | [] => rfl
  | p :: L => by
    show wk (kD p) :: wkA (L.map kD) = _
    rw [wkA_kD L]
    rfl
theorem unparted_any (L : Ways) (s : Int) : (!(toPyA [.tup ((part L s 0).map prD), .tup ((part L s 1).map prD), .tup ((part L s 2).map prD)]).any fun z => PyData.eqv z (toPy (.tup (L.map prD)))) = !decide (unparted L s) := by
  congr 1
  show (PyData.eqv (toPy (.tup ((part L s 0).map prD))) (toPy (.tup (L.map prD))) || (PyData.eqv (toPy (.tup ((part L s 1).map prD))) (toPy (.tup (L.map prD))) || (PyData.eqv (toPy (.tup ((part L s 2).map prD))) (toPy (.tup (L.map prD))) || false))) = _
  rw [eqv_prs, eqv_prs, eqv_prs, Bool.eq_iff_iff]
  simp only [Bool.or_false, Bool.or_eq_true, decide_eq_true_eq]
  constructor
  · rintro (h | h | h)
    · exact show unparted L s from .inl h.symm
    · exact show unparted L s from .inr (.inl h.symm)
    · exact show unparted L s from .inr (.inr h.symm)
  · intro h
    rcases (show L = part L s 0 ∨ L = part L s 1 ∨ L = part L s 2 from h) with h | h | h
    · exact .inl h.symm
    · exact .inr (.inl h.symm)
    · exact .inr (.inr h.symm)
theorem pl_ways (L : Ways) : pl 2 (.tup (L.map prD)) = true := by
  show plA 1 (L.map prD) = true
  exact plA_prs L
abbrev foldTo (many : Nat) (L : Ways) (i : Nat) : Int := (List.range i).foldl (stepL (lst many) L) (L.length : Int)
theorem ok_L_least (B : Bt mg) (hA : OkLans P w K mg base) (hD : Df K mg "_law_least" s_L_least p_L_least) : ∀ n, OkLst P w K mg base n
  | 0 => ok_least_by hD fun W L many l C hmany hL hn => by
    refine m_ifT (PB.to (b_lt (v_len (ds := L.map kD) rfl B.len (v_cons (v_var 0 rfl rfl).wk1 v_nil) rfl) v_int) (decide_eq_true (by rw [List.length_map]; omega))) ?_
    exact m_ret (z_p v_int) fun d hd => ⟨_, List.Sublist.refl _, by rw [hd, lst_few (by omega)], rfl⟩
  | n + 1 => by
    have ih : OkLst P w K mg base n := ok_L_least B hA hD n
    refine ok_least_by hD fun W L many l C hmany hL hn => ?_
    have CL := hL.chn C
    by_cases h2 : L.length < 2
    · refine m_ifT (PB.to (b_lt (v_len (ds := L.map kD) rfl B.len (v_cons (v_var 0 rfl rfl).wk1 v_nil) rfl) v_int) (decide_eq_true (by rw [List.length_map]; omega))) ?_
      exact m_ret (z_p v_int) fun d hd => ⟨_, List.Sublist.refl _, by rw [hd, lst_few h2], rfl⟩
    refine m_ifF (PB.to (b_lt (v_len (ds := L.map kD) rfl B.len (v_cons (v_var 0 rfl rfl).wk1 v_nil) rfl) v_int) (decide_eq_false (by rw [List.length_map]; omega))) (m_pop ?_)
    have tail : ∀ E : En, LeE [some (.ktup (L.map kD)), some (.int (many : Int)), some (.adr l), none, none, none, none, none, none] E → GoM (sx P w K mg base n_L_least s_L_least (n + 2)) [(defBody s_L_least).drop 2] E [(l, celN P w K W many (some L))] (fun _ _ => False) (fun d' m' => d' = .int (lst many L) ∧ m' = [(l, celN P w K W many none)]) := fun E hE => by
      refine m_weak hE ?_
      exact m_ret' (z_nget (S := sx P w K mg base n_L_least s_L_least (n + 2)) (W := W) (many := many) (L := L) (l := l) 0 rfl (v_var 2 rfl rfl) (v_var 0 rfl rfl)) fun d hd => ⟨_, fun H0 H mo => mo.put (k := 0) rfl (Tst.refl H) (fun _ _ _ => rfl) (by
        obtain ⟨ks, g1, g2⟩ := (mo.1 (l, celN P w K W many (some L)) (by exact List.mem_cons_self)).2
        exact ⟨ks, g1, g2.any⟩), hd, rfl⟩
    refine m_ifNotIn (S := sx P w K mg base n_L_least s_L_least (n + 2)) (L := L) (W := W) (many := many) 0 (VW.refl _) rfl (v_var 0 rfl rfl) (v_var 2 rfl rfl) ?_ (m_pop (tail _ (LeE.refl _)))
    refine m_setp 3 (d := .int (foldTo many L 0)) ((v_len (ds := L.map kD) rfl B.len (v_cons (v_var 0 rfl rfl).wk1 v_nil) rfl).to (by rw [List.length_map]; rfl)) rfl ?_ sc_L_least.nd
    refine m_forR2 (lo := 1) (hi := (many : Int) + 1) (fun i E m => E = [some (.ktup (L.map kD)), some (.int (many : Int)), some (.adr l), some (.int (foldTo many L i)), none, none, none, none, none] ∧ m = [(l, celN P w K W many none)]) rfl B.range (VW.refl _) (v_cons v_int (v_cons (v_add (v_var 1 rfl rfl) v_int) v_nil)) (by omega) sc_L_least.nd ⟨rfl, rfl⟩ (fun i E m hi hI => ?_) (fun E m hI => ?_)
    · obtain ⟨rfl, rfl⟩ := hI
      refine ⟨_, _, .name 4, ?_⟩
      have parts : ((List.range 3).filterMap fun j : Nat => some (D.ktup ((part L (1 + (i : Int)) (j : Int)).map kD))) = [part L (1 + (i : Int)) 0, part L (1 + (i : Int)) 1, part L (1 + (i : Int)) 2].map fun M => D.ktup (M.map kD) := rfl
      refine m_setLcR (nn := 3) (f := fun j : Nat => some (D.ktup ((part L (1 + (i : Int)) (j : Int)).map kD))) 5 [("_law_answer_here", 6)] sc_L_least.nd (blkOk_by (N := n_L_least) (sc := defScope s_L_least) (by decide +kernel)) rfl rfl rfl rfl rfl rfl B.range (v_cons v_int v_nil) (by decide) (by rw [parts]; exact immA_of fun x hx => by obtain ⟨M, _, rfl⟩ := List.mem_map.mp hx; exact imm_ways M) (fun j hj => ?_) (fun pl => ?_)
      · refine ⟨_, _, .name 6, by decide, rfl, fun y hy => ?_⟩
        cases hy
        refine ⟨v_ktupleOf rfl B.tuple (v_cons (PV.to (v_lcT (l := L) (g := kD) (f := fun p => if ans p (1 + (i : Int)) = (j : Int) then some (kD p) else none) [("_law_way_here", 7)] sc_L_least.nd (blkOk_by (N := n_L_least) (by show blkC n_L_least (relS _ (defScope s_L_least)) _ _ = true; decide +kernel)) (v_var 0 rfl rfl).wk1 (by have := C.few; have := CL.few; omega) (fun p hp => ⟨_, _, .name 7, by decide, ?_, fun y hy => ?_⟩)) (congrArg D.lst (part_fm L _ _))) v_nil), imm_ways _⟩
        · refine PB.to (b_eqI (v_call hA rfl (v_cons (v_var 7 rfl rfl).wk1 (v_cons (v_var 4 rfl rfl) v_nil)) ⟨p, 1 + (i : Int), rfl, rfl⟩) (v_var 6 rfl rfl)) ?_
          show decide (ans p (1 + (i : Int)) = (j : Int)) = _
          by_cases h : ans p (1 + (i : Int)) = (j : Int)
          · rw [if_pos h, decide_eq_true h]; rfl
          · rw [if_neg h, decide_eq_false h]; rfl
        · refine ⟨(v_var 7 rfl rfl).to ?_, ?_⟩
          · split at hy
            · exact Option.some.inj hy
            · cases hy
          · split at hy
            · cases hy; rfl
            · cases hy
      · rw [parts]
        refine m_if (zb_v (.same (.same (.same (.same (.same (.lst 1 rfl (.same (.same (.same .nil))))))))) (PB.to (b_notInD (n := 2) (m := 2) (PV.wk (v_var 0 rfl rfl) (show Ee.wk (.ktup (L.map kD)) = .tup (L.map prD) from congrArg D.tup (wkA_kD L))) (PV.wk (v_var 5 rfl rfl) (d' := .lst [.tup ((part L (1 + (i : Int)) 0).map prD), .tup ((part L (1 + (i : Int)) 1).map prD), .tup ((part L (1 + (i : Int)) 2).map prD)]) ?_) (pl_ways L) ?_) (unparted_any L (1 + (i : Int))))) fun b hb => ?_
        · show D.lst [D.tup (wkA _), D.tup (wkA _), D.tup (wkA _)] = _
          rw [wkA_kD, wkA_kD, wkA_kD]
        · exact plA_of fun d hd => by
            rcases in_menu3' hd with rfl | rfl | rfl <;> exact pl_ways _
        · have fs : foldTo many L (i + 1) = stepL (lst many) L (foldTo many L i) i := by
            unfold foldTo
            rw [List.range_succ, List.foldl_append]
            rfl
          by_cases hu : unparted L (1 + (i : Int))
          · rw [decide_eq_true hu] at hb
            subst hb
            have e : foldTo many L (i + 1) = foldTo many L i := by
              rw [fs]
              unfold stepL
              rw [if_pos hu]
            refine m_pop (m_pop (m_end (E' := [some (.ktup (L.map kD)), some (.int (many : Int)), some (.adr l), some (.int (foldTo many L (i + 1))), none, none, none, none, none]) ?_ (.cons_cons _ (.cons _ .slnil)) ⟨rfl, rfl⟩))
            rw [e]
            exact .cons (.inr rfl) (.cons (.inr rfl) (.cons (.inr rfl) (.cons (.inr rfl) (.cons (.inl rfl) (.cons (.inl rfl) (.cons (.inl rfl) (.cons (.inl rfl) (.cons (.inl rfl) .nil))))))))
          · rw [decide_eq_false hu] at hb
            subst hb
            have e : foldTo many L (i + 1) = min (foldTo many L i) (tm (lst many) L (1 + (i : Int))) := by
              rw [fs]
              unfold stepL
              rw [if_neg hu]
            refine m_set 3 (G := (· = .int (foldTo many L (i + 1)))) (ZM.imp (z_min2 rfl B.min (v_var 3 rfl rfl) (z_add (zi_p v_int) (z_maxL (ns := [part L (1 + (i : Int)) 0, part L (1 + (i : Int)) 1, part L (1 + (i : Int)) 2].map (lst many)) rfl B.max (z_lcN (m2 := [(l, celN P w K W many none)]) 8 (own := [("_law_some", 8)]) sc_L_least.nd (blkOk_by (N := n_L_least) (sc := defScope s_L_least) (by decide +kernel)) (v_var 5 rfl rfl) (show 3 ≤ 1000 by decide) (fun M _ => imm_ways M) (by decide) rfl (.inl rfl) (.inr rfl) (fun M hM => ?_)) (by simp)))) fun d hd => ?_) (fun d hd => ?_) sc_L_least.nd
            · have hM' : IsSg W M ∧ M.length < L.length := by
                rcases in_menu3' hM with rfl | rfl | rfl
                · exact ⟨hL.part C _ _, parted_lt hu (.inl rfl)⟩
                · exact ⟨hL.part C _ _, parted_lt hu (.inr (.inl rfl))⟩
                · exact ⟨hL.part C _ _, parted_lt hu (.inr (.inr rfl))⟩
              exact z_least (S := (sx P w K mg base n_L_least s_L_least (n + 2)).blk _) (n := n) (lv := n + 2) (W := W) (many := many) (L := M) (l := l) 0 ih rfl rfl C hmany hM'.1 (by omega) (v_cons (v_var 8 rfl rfl) (v_cons (v_var 1 rfl rfl) (v_cons (v_var 2 rfl rfl) v_nil))) (Nat.le_refl _)
            · obtain ⟨j, rfl, i1, ⟨i2, i3, rfl, rfl, rfl⟩, rfl⟩ := hd
              rw [e]
              rfl
            · subst hd
              refine ⟨rfl, ?_⟩
              refine m_pop (m_pop (m_end (E' := [some (.ktup (L.map kD)), some (.int (many : Int)), some (.adr l), some (.int (foldTo many L (i + 1))), none, none, none, none, none]) ?_ (.cons_cons _ (.cons _ .slnil)) ⟨rfl, rfl⟩))
              exact .cons (.inr rfl) (.cons (.inr rfl) (.cons (.inr rfl) (.cons (.inr rfl) (.cons (.inl rfl) (.cons (.inl rfl) (.cons (.inl rfl) (.cons (.inl rfl) (.cons (.inl rfl) .nil))))))))
    · obtain ⟨rfl, rfl⟩ := hI
      have ef : foldTo many L ((many : Int) + 1 - 1).toNat = lst many L := by
        have : ((many : Int) + 1 - 1).toNat = many := by omega
        rw [this, lst_step (by omega)]
      rw [ef]
      refine m_nput (S := sx P w K mg base n_L_least s_L_least (n + 2)) (W := W) (many := many) (L := L) (l := l) (must := none) 0 (VW.refl _) C hL rfl (v_var 3 rfl rfl) (v_var 2 rfl rfl) (v_var 0 rfl rfl) (m_pop (tail _ ?_))
      exact .cons (.inr rfl) (.cons (.inr rfl) (.cons (.inr rfl) (.cons (.inl rfl) (.cons (.inl rfl) (.cons (.inl rfl) (.cons (.inl rfl) (.cons (.inl rfl) (.cons (.inl rfl) .nil))))))))
end
end Ee

/-! loops over lists that a def makes of its own; promises by a kind of data -/
namespace Ee
open PySem PySem.Spec PyProof.Rows L2
section
variable {S : Sx} {E E' : En} {m m' : Mem} {tg it a b c e : Expr} {es : List Expr} {d x y : D} {ds : List D} {pos p p2 pr : Pos} {G G' : D → Prop} {GA : List D → Prop} {N : En → Mem → Prop} {R : D → Mem → Prop} {body rest A B : List Stmt} {bs : List (List Stmt)}
theorem m_forZ {α : Type} {l : List α} {g : α → D} (hN : ∀ E m, ¬ N E m) (I : Nat → En → Mem → Prop) (hit : ZN S E m it (l.map g)) (him : ∀ x ∈ l, imm (g x) = true) (hnd : S.N.Nodup) (h0 : I 0 E m) (ht : ∀ i x E m, l[i]? = some x → I i E m → TurnM S E m tg body (g x) (fun E' m' => I (i + 1) E' m') R)
    (hr : ∀ E m, I l.length E m → GoM S (rest :: bs) E m N R) (hs : ∀ (env : PySem.Env) x, foldedSetIterable it env x = pure x := by intro _ _; rfl) : GoM S ((.For tg it body [] pos :: rest) :: bs) E m N R := fun H0 σ H T e0 hE hm ha => by
  refine rk_st (t := tFor (iList S.K (SE S it)) (SG S tg) (SB S body)) (fun X M => by rw [← M.K]; exact ps_for (by rw [M.xe]; exact PassesOwn.never) M.calm (pi_list (se_ok M)) (sg_ok M) (sb_ok M) (fun x => hs _ x)) ?_
  refine hit H0 σ H e0 hE hm _ fun a xs H1 hp e1 h1 h2 => ?_
  have hia : immA (l.map g) = true := immA_of fun d hd => by
    obtain ⟨x, hx, rfl⟩ := List.mem_map.mp hd
    exact him x hx
  have ha0 : H0 a = none := Same.free e0 hp
  have hm1 := hm.same e1
  have hna : ∀ x ∈ m, x.1 ≠ a := fun x hx z => by
    have := x.2.nn (hm.1 x hx).2
    rw [z] at this
    exact this hp
  have e0' : Same (upd H0 a (.lst xs)) H1 := fun b o hb => by
    by_cases hba : b = a
    · subst hba
      rw [upd_same] at hb
      rw [← hb]
      exact h1
    · rw [upd_ne hba] at hb
      exact (e0.trans e1) b o hb
  have back : ∀ {H' : Hp}, Same (upd H0 a (.lst xs)) H' → Same H0 H' := fun q => (Same.new ha0).trans q
  have mback : ∀ {H' : Hp} {m'' : Mem}, MOk (upd H0 a (.lst xs)) H' m'' → MOk H0 H' m'' := fun q => ⟨fun x hx => ⟨by
    have h3 := (q.1 x hx).1
    by_cases hxa : x.1 = a
    · rw [hxa]; exact ha0
    · rw [upd_ne hxa] at h3; exact h3, (q.1 x hx).2⟩, q.2⟩
  refine ⟨a, rfl, ⟨xs, .inl (.inl h1)⟩, ?_⟩
  refine for_list (xs := xs) (fun i σ' H' => Same (upd H0 a (.lst xs)) H' ∧ Tst H1 H' ∧ ∃ E' m', I i E' m' ∧ EnvM S.K (upd H0 a (.lst xs)) H' σ' E' ∧ MOk (upd H0 a (.lst xs)) H' m') ⟨e0', Tst.refl _, E, m, h0, ⟨hE.1, fun i d hd => by
      obtain ⟨v, g1, g2⟩ := hE.2 i d hd
      exact ⟨v, g1, g2.imp (fun z => z.mono (Same.new ha0)) fun z => ⟨z.1, z.2.mono e1⟩⟩⟩, ⟨fun x hx => ⟨by rw [upd_ne (hna x hx)]; exact (hm1.1 x hx).1, (hm1.1 x hx).2⟩, hm1.2⟩⟩ (fun i σ' H' _ q => .inl (.inl (q.1 a _ upd_same))) (fun i y σ' H' hy q => ?_) (fun σ' H' q => ?_)
  · obtain ⟨q1, q2, E', m', q3, q4, q5⟩ := q
    obtain ⟨d', hd', hi⟩ := h2.getV hy
    obtain ⟨x, hx, rfl⟩ := map_at hd'
    have hxi := him x (List.mem_of_getElem? hx)
    obtain ⟨Et, js, t1, t2⟩ := ht i x E' m' hx q3
    refine t1.rdM hnd q4 (hi.stay q2 hxi) hxi fun σ2 hE2 => ?_
    exact t2 _ σ2 H' { T with nx := fun σ' H' => Same (upd H0 a (.lst xs)) H' ∧ Tst H1 H' ∧ ∃ E' m', I (i + 1) E' m' ∧ EnvM S.K (upd H0 a (.lst xs)) H' σ' E' ∧ MOk (upd H0 a (.lst xs)) H' m', ct := _, bk := _ } q1 hE2 q5 ⟨fun E3 m3 σ3 H3 k1 k2 k5 k3 k4 => ⟨k2, q2.trans k5, E3, m3, k1, k3, k4⟩, fun d m3 v H3 k1 k2 k5 k3 k4 => ha.2 d m3 v H3 k1 (back k2) (((Tst.of e1).trans q2).trans k5) (mback k3) k4⟩
  · obtain ⟨q1, q2, E', m', q3, q4, q5⟩ := q
    rw [← h2.len, List.length_map] at q3
    exact hr E' m' q3 _ σ' H' T q1 q4 q5 ⟨fun E3 m3 σ3 H3 k1 k2 k5 k3 k4 => absurd k1 (hN E3 m3), fun d m3 v H3 k1 k2 k5 k3 k4 => ha.2 d m3 v H3 k1 (back k2) (((Tst.of e1).trans q2).trans k5) (mback k3) k4⟩
/-- return a new list -/
theorem m_retZ (he : ZN S E m e ds) (hi : immA ds = true) (h : ∀ a, R (.adr a) [(a, celL S.K ds)]) : GoM S ((.Return (some e) pos :: rest) :: bs) E m N R := fun H0 σ H T e0 hE hm ha => by
  refine rk_st (t := tRet (SE S e)) (fun X M => ps_ret (se_ok M)) (he H0 σ H e0 hE hm _ fun p xs H1 hp e1 h1 i1 => ?_)
  exact ha.2 (.adr p) _ (.ref p) H1 (h p) (e0.trans e1) (Tst.of e1) ⟨fun z hz => by
    have : z = (p, celL S.K ds) := by simpa using hz
    subst this
    exact ⟨Same.free e0 hp, xs, h1, i1, hi⟩, by simp⟩ rfl
end
/-- a promise that hands back data of the kind G, nothing that stood is changed -/
def PG (K : PySem.W.Frag) (R : List D → (D → Prop) → Prop) : Sp := fun vs H Q _ => ∃ ds G, IsA K H ds vs ∧ R ds G ∧ ∀ v H' d, Same H H' → G d → Is K H' d v → Q v H'
section
variable {P : Program} {w : World} {K : PySem.W.Frag} {mg : Str → Option Value} {base : Heap}
theorem ok_pg {x : Str} {st : Stmt} {N ps : List Str} {k : Nat} {R : List D → (D → Prop) → Prop} (hD : Df K mg x st ps) (S : FnScope N ps (defScope st)) (hl : ∀ ds d, R ds d → ds.length = ps.length)
    (hb : ∀ ds G, R ds G → GoM (sx P w K mg base N st k) [defBody st] (ini N ds) [] (fun _ _ => False) (fun d' _ => G d')) : Ok P w K mg base (k + 1) x ps (PG K R) :=
  ok_sp hD S (fun vs H Q E h => by
    obtain ⟨ds, d, h1, h2, _⟩ := h
    rw [← h1.len]
    exact hl ds d h2) fun vs H Q E h => by
    obtain ⟨ds, G, h1, h2, h3⟩ := h
    exact hb ds G h2 H _ H _ (Same.refl H) (EnvM.of (env_start h1)) MOk.nil ⟨fun _ _ _ _ z => z.elim, fun d' m' v H' e s _ _ i => h3 v H' d' s e i⟩
end
section
variable {S : Sx} {E E' : En} {m m' : Mem} {a b c e : Expr} {es : List Expr} {d x y : D} {ds : List D} {pos p p2 pr : Pos} {G G' : D → Prop} {GA : List D → Prop}
theorem z_callG {n : Str} {ps : List Str} {R : List D → (D → Prop) → Prop} {k : Nat} (h : Ok S.P S.w S.K S.mg S.base k n ps (PG S.K R)) (hg : GlS S n) (ha : ZVs S E m (e :: es) GA) (hR : ∀ ds, GA ds → R ds G) (hk : Nat.ble k S.k = true := by rfl)
    (hdb : (n == ("__debug__" : Str)) = false := by decide) (he : St1 e es := by intro _; rfl) (hpl : NoSt es pos := by intro _; rfl) : ZM S E m (.Call (.Name n p) (e :: es) [] pos) G := fun H0 σ H e0 hE hm Q q => by
  obtain ⟨f, fd, h1, h2, h3, h4⟩ := h
  obtain ⟨P, w, K, mg, base, N, sc, fn, k'⟩ := S
  refine ⟨tCall (PG K R) [] E0 (SA ⟨P, w, K, mg, base, N, sc, fn, k'⟩ (e :: es)), fun X M => ?_, ha H0 σ H e0 hE hm _ fun vs H1 ds e1 t1 m1 g1 i1 => ?_⟩
  · have M' := M
    obtain ⟨rfl, rfl, rfl, rfl, rfl, rfl, rfl, rfl, _, hr, _⟩ := M'
    exact pe_call h4 (hr.mono (Nat.le_of_ble_eq_true hk)) hg h1 h2 h3 .nil pass0 (sa_ok M) hdb (he _) (hpl _)
  · exact ⟨ds, G, by rw [List.append_nil]; exact i1, hR ds g1, fun v H2 d e2 gd i2 => q v H2 d (e1.trans e2) (t1.trans (Tst.of e2)) (m1.same e2) gd i2⟩
/-- o[k] of a dict of the kind G, o[i] of a tuple of the kind G -/
theorem z_dget {j : Int × Int} (ho : ZM S E m a G) (hj : PV S E b (.ktup [.int j.1, .int j.2])) (h : ∀ d, G d → ∃ ks ds x, d = .dic ks ds ∧ lk ks ds j = some x ∧ G' x) (hs : NoSl b := by exact fun _ _ => rfl) : ZM S E m (.Subscript a b pos) G' := fun H0 σ H e0 hE hm Q q =>
  ⟨tDGet (SE S a) (SE S b), fun X M => pe_dget M.u1 (se_ok M) (se_ok M) hs, ho H0 σ H e0 hE hm _ fun u H1 d e1 t1 m1 g1 i1 => hj σ H1 ((hE.stay t1).env e1) _ fun t H2 e2 i2 => by
    obtain ⟨ks, ds, x, rfl, hx, gx⟩ := h d g1
    obtain ⟨a', xs, rfl, h1, h2⟩ := i1.mono e2
    obtain ⟨t, ts, rfl, t1', t2⟩ := i2
    obtain ⟨t3, t4, rfl, t5, t6⟩ := isA2 t2
    have t5 : t3 = .int j.1 := t5
    have t6 : t4 = .int j.2 := t6
    subst t5 t6
    obtain ⟨v, g1, g2⟩ := valV_zip h2 hx
    exact ⟨a', v, rfl, by rw [← g1]; exact DGet.t (k := keyP j) h1 t1', q v H2 x (e1.trans e2) (t1.trans (Tst.of e2)) (m1.same e2) gx g2⟩⟩
theorem z_ix {i : Int} (ha : ZM S E m a G) (hb : PV S E b (.int i)) (h : ∀ d, G d → ∃ ds x, d = .tup ds ∧ atD ds i = some x ∧ G' x) (hs : PlainIx b := by exact fun _ _ => rfl) : ZM S E m (.Subscript a b pos) G' := fun H0 σ H e0 hE hm Q q =>
  ⟨tOp (rIxT S.K) (SE S a) (SE S b), fun X M => pe_ix (by rw [← M.K]; exact ix_tup) (se_ok M) (se_ok M) hs, ha H0 σ H e0 hE hm _ fun u H1 d e1 t1 m1 g1 i1 => hb σ H1 ((hE.stay t1).env e1) _ fun v H2 e2 i2 => by
    obtain ⟨ds, x, rfl, hx, gx⟩ := h d g1
    obtain ⟨p, xs, rfl, h1, h2⟩ := i1.mono e2
    obtain ⟨w, h3, h4⟩ := atD_at h2 hx
    exact ⟨p, xs, i, w, rfl, i2, h1, h3, q w H2 x (e1.trans e2) (t1.trans (Tst.of e2)) (m1.same e2) gx h4⟩⟩
end
end Ee

/-! the ways of a star: two counts of splices -/
namespace Ee
def cnt (dr : List Rat) (x : Rat) : Int := ((dr.filter fun d => decide (d < x)).length : Nat)
def wayOf (R W A F L : Rat) (dr : List Rat) (x : Rat) : Int × Int := (cnt dr x, cnt dr (eastOf R W A F L x))
theorem cnt_nn (dr : List Rat) (x : Rat) : 0 ≤ cnt dr x ∧ cnt dr x ≤ dr.length := by
  have := List.length_filter_le (fun d => decide (d < x)) dr
  unfold cnt
  omega
theorem filter_le {α : Type} {f g : α → Bool} : ∀ {l : List α}, (∀ x ∈ l, f x = true → g x = true) → (l.filter f).length ≤ (l.filter g).length
  | [], _ => Nat.le_refl _
  | x :: l, h => by
    have ih := filter_le (l := l) fun y hy => h y (List.mem_cons_of_mem _ hy)
    have hx := h x List.mem_cons_self
    rw [List.filter_cons, List.filter_cons]
    cases hf : f x with
    | false =>
      rw [if_neg (by decide)]
      split
      · rw [List.length_cons]; omega
      · exact ih
    | true =>
      rw [if_pos rfl, if_pos (hx hf)]
      simpa using ih
theorem cnt_mono {dr : List Rat} {x y : Rat} (h : x ≤ y) : cnt dr x ≤ cnt dr y := by
  have := filter_le (l := dr) (f := fun d => decide (d < x)) (g := fun d => decide (d < y)) fun d _ hd => decide_eq_true (by have := of_decide_eq_true hd; grind)
  unfold cnt
  omega
def grid (n : Nat) : Ways := (List.range n).flatMap fun (i : Nat) => (List.range n).map fun (j : Nat) => ((i : Int), (j : Int))
theorem grid_pw (n : Nat) : (grid n).Pairwise ltP := by
  unfold grid
  rw [List.pairwise_flatMap]
  refine ⟨fun i _ => ?_, ?_⟩
  · rw [List.pairwise_map]
    exact List.pairwise_lt_range.imp fun h => .inr ⟨rfl, by show ((_ : Nat) : Int) < ((_ : Nat) : Int); omega⟩
  · refine List.pairwise_lt_range.imp fun {i j} h p hp q hq => ?_
    obtain ⟨a, _, rfl⟩ := List.mem_map.mp hp
    obtain ⟨b, _, rfl⟩ := List.mem_map.mp hq
    exact .inl (by show ((i : Nat) : Int) < ((j : Nat) : Int); omega)
theorem grid_mem {n : Nat} {p : Int × Int} : p ∈ grid n ↔ 0 ≤ p.1 ∧ p.1 < n ∧ 0 ≤ p.2 ∧ p.2 < n := by
  unfold grid
  rw [List.mem_flatMap]
  constructor
  · rintro ⟨i, hi, h⟩
    obtain ⟨j, hj, rfl⟩ := List.mem_map.mp h
    have := List.mem_range.mp hi
    have := List.mem_range.mp hj
    show 0 ≤ (i : Int) ∧ (i : Int) < n ∧ 0 ≤ (j : Int) ∧ (j : Int) < n
    omega
  · rintro ⟨h1, h2, h3, h4⟩
    refine ⟨p.1.toNat, List.mem_range.mpr (by omega), List.mem_map.mpr ⟨p.2.toNat, List.mem_range.mpr (by omega), ?_⟩⟩
    exact Prod.ext (by show ((p.1.toNat : Nat) : Int) = p.1; omega) (by show ((p.2.toNat : Nat) : Int) = p.2; omega)
def sortW (l : Ways) : Ways := (grid 64).filter fun p => decide (p ∈ l)
theorem sortW_pw (l : Ways) : (sortW l).Pairwise ltP := (grid_pw 64).sublist List.filter_sublist
theorem sortW_mem {l : Ways} (h : ∀ p ∈ l, B64 p) (p : Int × Int) : p ∈ sortW l ↔ p ∈ l := by
  unfold sortW
  rw [List.mem_filter, grid_mem, decide_eq_true_eq]
  exact ⟨fun h => h.2, fun hp => ⟨h p hp, hp⟩⟩
theorem ltP_ne {p q : Int × Int} (h : ltP p q) : p ≠ q := by
  rintro rfl
  rcases h with h | h <;> omega
theorem sortW_nodup (l : Ways) : (sortW l).Nodup := (sortW_pw l).imp ltP_ne
theorem sortW_perm {ks l : Ways} (h : ∀ p ∈ l, B64 p) (hn : ks.Nodup) (hm : ∀ p, p ∈ ks ↔ p ∈ l) : (sortW l).Perm ks :=
  (List.perm_ext_iff_of_nodup (sortW_nodup l) hn).mpr fun p => (sortW_mem h p).trans (hm p).symm
theorem sortW_congr {l l' : Ways} (h : ∀ p, p ∈ l ↔ p ∈ l') : sortW l = sortW l' := by
  unfold sortW
  exact List.filter_congr fun p _ => by simp [h p]
/-! marks -/
def dragsOf (ls : Lens) : List Rat := (spl ls).map fun s : Int => dTo ls (s : Rat)
theorem dragsOf_len (ls : Lens) : (dragsOf ls).length = ls.length - 1 := by
  unfold dragsOf spl
  rw [List.length_map, List.length_map, List.length_range]
def okP (most : Rat) : Option Rat → Option Rat
  | none => none
  | some r => if ¬ r < 0 ∧ ¬ most < r then some r else none
def okL (most : Rat) : Option Rat → Option Rat
  | none => none
  | some r => if ¬ most < r then some r else none
def listP (R W A F L : Rat) (dr : List Rat) : List (Option Rat) := [some 0, some (mostOf W A F L)] ++ dr.map (westOf R W A F L) ++ dr.map some
def listL (R W A F L : Rat) (dr : List Rat) : List (Option Rat) := [some 0, some (mostOf W A F L)] ++ dr.map some ++ dr.map (westL R W A F L)
def marksP (R W A F L : Rat) (dr : List Rat) : List Rat := (listP R W A F L dr).filterMap (okP (mostOf W A F L))
def marksL (R W A F L : Rat) (dr : List Rat) : List Rat := (listL R W A F L dr).filterMap (okL (mostOf W A F L))
def waysP (R W A F L : Rat) (dr : List Rat) : Ways := sortW ((marksP R W A F L dr).map (wayOf R W A F L dr))
def waysL (R W A F L : Rat) (dr : List Rat) : Ways := sortW ((marksL R W A F L dr).map (wayOf R W A F L dr))
section
variable {ls : Lens} {back W A F L : Rat}
theorem Star.fl0 (s : Star ls back W A F L) : 0 < F * L := Rat.mul_pos s.F0 s.L0
theorem Star.most_lt (s : Star ls back W A F L) : mostOf W A F L < W := by
  have := div_pos s.fl0 s.A0
  unfold mostOf
  grind
theorem div_le_of {a b c : Rat} (hb : 0 < b) (h : a ≤ c * b) : a / b ≤ c := by
  refine Decidable.byContradiction fun hn => ?_
  have := (Rat.lt_div_iff (a := c) (b := a) hb).mp (by grind)
  grind
theorem Star.most_nn (s : Star ls back W A F L) : 0 ≤ mostOf W A F L := by
  have := div_le_of s.A0 s.fits
  unfold mostOf
  grind
theorem okP_some {most r x : Rat} : okP most (some r) = some x ↔ r = x ∧ ¬ x < 0 ∧ ¬ most < x := by
  show (if ¬ r < 0 ∧ ¬ most < r then some r else none) = some x ↔ _
  by_cases h : ¬ r < 0 ∧ ¬ most < r
  · rw [if_pos h]
    constructor
    · intro e
      cases e
      exact ⟨rfl, h⟩
    · rintro ⟨rfl, _⟩
      rfl
  · rw [if_neg h]
    constructor
    · intro e
      cases e
    · rintro ⟨rfl, h2⟩
      exact absurd h2 h
theorem okL_some {most r x : Rat} : okL most (some r) = some x ↔ r = x ∧ ¬ most < x := by
  show (if ¬ most < r then some r else none) = some x ↔ _
  by_cases h : ¬ most < r
  · rw [if_pos h]
    constructor
    · intro e
      cases e
      exact ⟨rfl, h⟩
    · rintro ⟨rfl, _⟩
      rfl
  · rw [if_neg h]
    constructor
    · intro e
      cases e
    · rintro ⟨rfl, h2⟩
      exact absurd h2 h
theorem marksP_mem {R W A F L : Rat} {dr : List Rat} {x : Rat} : x ∈ marksP R W A F L dr ↔ some x ∈ listP R W A F L dr ∧ ¬ x < 0 ∧ ¬ mostOf W A F L < x := by
  unfold marksP
  rw [List.mem_filterMap]
  constructor
  · rintro ⟨o, ho, e⟩
    cases o with
    | none => cases e
    | some r =>
      obtain ⟨rfl, h⟩ := okP_some.mp e
      exact ⟨ho, h⟩
  · rintro ⟨h1, h2⟩
    exact ⟨_, h1, okP_some.mpr ⟨rfl, h2⟩⟩
theorem marksL_mem {R W A F L : Rat} {dr : List Rat} {x : Rat} : x ∈ marksL R W A F L dr ↔ some x ∈ listL R W A F L dr ∧ ¬ mostOf W A F L < x := by
  unfold marksL
  rw [List.mem_filterMap]
  constructor
  · rintro ⟨o, ho, e⟩
    cases o with
    | none => cases e
    | some r =>
      obtain ⟨rfl, h⟩ := okL_some.mp e
      exact ⟨ho, h⟩
  · rintro ⟨h1, h2⟩
    exact ⟨_, h1, okL_some.mpr ⟨rfl, h2⟩⟩
theorem westL_some {R W A F L y x : Rat} : westL R W A F L y = some x ↔ westOf R W A F L y = some x ∧ ¬ x < 0 := by
  unfold westL westOf
  split
  · split
    · rename_i h
      constructor
      · intro e; cases e
      · rintro ⟨e, h2⟩
        cases e
        exact absurd h h2
    · rename_i h
      constructor
      · intro e
        cases e
        exact ⟨rfl, h⟩
      · rintro ⟨e, _⟩
        exact e
  · constructor
    · intro e; cases e
    · rintro ⟨e, _⟩
      exact e
theorem dragsOf_nn (C : CabOk ls back) : ∀ d ∈ dragsOf ls, 0 ≤ d := fun d hd => by
  obtain ⟨s, _, rfl⟩ := List.mem_map.mp hd
  exact dTo_nn C.each _
theorem marks_eq (s : Star ls back W A F L) (x : Rat) : x ∈ marksP (drg ls) W A F L (dragsOf ls) ↔ x ∈ marksL (drg ls) W A F L (dragsOf ls) := by
  rw [marksP_mem, marksL_mem]
  unfold listP listL
  have hm := s.most_nn
  have hd := dragsOf_nn s.cab
  simp only [List.mem_append, List.mem_cons, List.mem_map, List.not_mem_nil, or_false]
  constructor
  · rintro ⟨(h | h) | h, h0, h1⟩
    · exact ⟨.inl (.inl h), h1⟩
    · obtain ⟨y, hy, e⟩ := h
      exact ⟨.inr ⟨y, hy, westL_some.mpr ⟨e, h0⟩⟩, h1⟩
    · exact ⟨.inl (.inr h), h1⟩
  · rintro ⟨(h | h) | h, h1⟩
    · refine ⟨.inl (.inl h), ?_, h1⟩
      rcases h with h | h
      · cases h; grind
      · cases h; grind
    · obtain ⟨y, hy, e⟩ := h
      have e : y = x := Option.some.inj e
      subst e
      have := hd y hy
      exact ⟨.inr ⟨y, hy, rfl⟩, by grind, h1⟩
    · obtain ⟨y, hy, e⟩ := h
      obtain ⟨e1, e2⟩ := westL_some.mp e
      exact ⟨.inl (.inr ⟨y, hy, e1⟩), e2, h1⟩
theorem ways_eq (s : Star ls back W A F L) : waysP (drg ls) W A F L (dragsOf ls) = waysL (drg ls) W A F L (dragsOf ls) := sortW_congr fun p => by
  rw [List.mem_map, List.mem_map]
  constructor
  · rintro ⟨x, hx, e⟩
    exact ⟨x, (marks_eq s x).mp hx, e⟩
  · rintro ⟨x, hx, e⟩
    exact ⟨x, (marks_eq s x).mpr hx, e⟩
theorem Star.east_mono (s : Star ls back W A F L) {x y : Rat} (h : x ≤ y) (hy : y < W) : eastOf (drg ls) W A F L x ≤ eastOf (drg ls) W A F L y := by
  have h1 : 0 < W - y := by grind
  have h2 : 0 < W - x := by grind
  have h3 : F * L / (W - x) ≤ F * L / (W - y) := by
    refine div_le_of h2 ?_
    have h4 : F * L / (W - y) * (W - y) = F * L := Rat.div_mul_cancel (by grind)
    have h5 := Rat.mul_le_mul_of_nonneg_left (show W - y ≤ W - x by grind) (Rat.le_of_lt (div_pos s.fl0 h1))
    grind
  unfold eastOf
  grind
theorem Star.west_east (s : Star ls back W A F L) {x : Rat} (hx : x < W) : x ≤ eastOf (drg ls) W A F L x := by
  have h1 := div_pos s.fl0 (show 0 < W - x by grind)
  have h2 := s.lack
  have h3 := s.L0
  unfold eastOf
  grind
theorem Star.way_b (s : Star ls back W A F L) (x : Rat) : 0 ≤ (wayOf (drg ls) W A F L (dragsOf ls) x).1 ∧ (wayOf (drg ls) W A F L (dragsOf ls) x).1 ≤ ((ls.length - 1 : Nat) : Int) ∧ 0 ≤ (wayOf (drg ls) W A F L (dragsOf ls) x).2 ∧ (wayOf (drg ls) W A F L (dragsOf ls) x).2 ≤ ((ls.length - 1 : Nat) : Int) := by
  have h1 := cnt_nn (dragsOf ls) x
  have h2 := cnt_nn (dragsOf ls) (eastOf (drg ls) W A F L x)
  rw [dragsOf_len] at h1 h2
  exact ⟨h1.1, h1.2, h2.1, h2.2⟩
theorem Star.way64 (s : Star ls back W A F L) (x : Rat) : B64 (wayOf (drg ls) W A F L (dragsOf ls) x) := by
  have h := s.way_b x
  have := s.cab.most
  exact ⟨h.1, by omega, h.2.2.1, by omega⟩
theorem marksP_len (R W A F L : Rat) (dr : List Rat) : (marksP R W A F L dr).length ≤ 2 + 2 * dr.length := by
  unfold marksP
  refine Nat.le_trans (List.length_filterMap_le _ _) ?_
  unfold listP
  rw [List.length_append, List.length_append, List.length_map, List.length_map]
  simp
  omega
theorem Star.chn (s : Star ls back W A F L) : Chn (waysP (drg ls) W A F L (dragsOf ls)) (ls.length - 1) := by
  have hm := s.cab.most
  have hmem : ∀ p, p ∈ waysP (drg ls) W A F L (dragsOf ls) → ∃ x, x ≤ mostOf W A F L ∧ p = wayOf (drg ls) W A F L (dragsOf ls) x := fun p hp => by
    unfold waysP at hp
    rw [sortW_mem (fun q hq => by obtain ⟨x, _, rfl⟩ := List.mem_map.mp hq; exact s.way64 x)] at hp
    obtain ⟨x, hx, rfl⟩ := List.mem_map.mp hp
    have := (marksP_mem.mp hx).2.2
    exact ⟨x, by grind, rfl⟩
  have hlt := s.most_lt
  refine ⟨?_, ?_, fun p hp => ?_⟩
  · have h1 := nodup_le (l := waysP (drg ls) W A F L (dragsOf ls)) (m := (marksP (drg ls) W A F L (dragsOf ls)).map (wayOf (drg ls) W A F L (dragsOf ls))) (sortW_nodup _) fun p hp => (sortW_mem (fun q hq => by obtain ⟨x, _, rfl⟩ := List.mem_map.mp hq; exact s.way64 x) p).mp hp
    have h2 := marksP_len (drg ls) W A F L (dragsOf ls)
    rw [dragsOf_len] at h2
    rw [List.length_map] at h1
    omega
  · refine List.Pairwise.imp_of_mem (fun {p q} hp hq h => ?_) (sortW_pw _)
    obtain ⟨x, hx, rfl⟩ := hmem p hp
    obtain ⟨y, hy, rfl⟩ := hmem q hq
    refine ⟨?_, ?_, ltP_ne h⟩ <;>
    · by_cases hxy : x ≤ y
      · first | exact cnt_mono hxy | exact cnt_mono (s.east_mono hxy (by grind))
      · have h1 : (wayOf (drg ls) W A F L (dragsOf ls) y).1 ≤ (wayOf (drg ls) W A F L (dragsOf ls) x).1 := cnt_mono (by grind)
        have h2 : (wayOf (drg ls) W A F L (dragsOf ls) y).2 ≤ (wayOf (drg ls) W A F L (dragsOf ls) x).2 := cnt_mono (s.east_mono (by grind) (by grind))
        rcases h with h | h <;> omega
  · obtain ⟨x, hx, rfl⟩ := hmem p hp
    have := s.way_b x
    refine ⟨this.1, cnt_mono (s.west_east (by grind)), this.2.2.2⟩
/-! sizes -/
theorem spl_ith {s : Int} : Ith 6 (s : Rat) := ⟨6 * s, by rw [cstM]⟩
theorem dragsOf_bd (C : CabOk ls back) : ∀ d ∈ dragsOf ls, Bd d 22 := fun d hd => by
  obtain ⟨s, _, rfl⟩ := List.mem_map.mp hd
  exact C.bd_at spl_ith
theorem Star.bd_most (s : Star ls back W A F L) : Bd (mostOf W A F L) 1601 := (s.bW.sub ((s.bF.mul s.bL).div s.bA)).le (by decide)
theorem Star.bd_west (s : Star ls back W A F L) {y x : Rat} (hy : Bd y 22) (h : westOf (drg ls) W A F L y = some x) : Bd x 1825 := by
  unfold westOf at h
  split at h
  · cases h
    exact (s.bW.sub ((s.bF.mul s.bL).div (s.bA.sub (s.cab.bd_all.sub hy)))).le (by decide)
  · cases h
theorem Star.bd_listP (s : Star ls back W A F L) {x : Rat} (h : some x ∈ listP (drg ls) W A F L (dragsOf ls)) : Bd x 1900 := by
  unfold listP at h
  simp only [List.mem_append, List.mem_cons, List.mem_map, List.not_mem_nil, or_false] at h
  rcases h with (h | h) | h
  · rcases h with h | h
    · cases h; exact bd0.le (by decide)
    · cases h; exact s.bd_most.le (by decide)
  · obtain ⟨y, hy, e⟩ := h
    exact (s.bd_west (dragsOf_bd s.cab y hy) e).le (by decide)
  · obtain ⟨y, hy, e⟩ := h
    cases e
    exact (dragsOf_bd s.cab _ hy).le (by decide)
theorem Star.bd_listL (s : Star ls back W A F L) {x : Rat} (h : some x ∈ listL (drg ls) W A F L (dragsOf ls)) : Bd x 1900 := by
  unfold listL at h
  simp only [List.mem_append, List.mem_cons, List.mem_map, List.not_mem_nil, or_false] at h
  rcases h with (h | h) | h
  · rcases h with h | h
    · cases h; exact bd0.le (by decide)
    · cases h; exact s.bd_most.le (by decide)
  · obtain ⟨y, hy, e⟩ := h
    cases e
    exact (dragsOf_bd s.cab _ hy).le (by decide)
  · obtain ⟨y, hy, e⟩ := h
    exact (s.bd_west (dragsOf_bd s.cab y hy) (westL_some.mp e).1).le (by decide)
theorem Star.bd_east (s : Star ls back W A F L) {x : Rat} (h : Bd x 1900) : Bd (eastOf (drg ls) W A F L x) 4000 := ((s.cab.bd_all.sub s.bA).add ((s.bF.mul s.bL).div (s.bW.sub h))).le (by decide)
end
end Ee

/-! ways: the program's, the law's -/
namespace Ee
open PySem PySem.Spec PyProof.Rows L2
theorem fm_opt {α β : Type} (f : α → Option β) (g : β → D) : ∀ l : List α, (l.filterMap fun x => (f x).map g) = (l.filterMap f).map g
  | [] => rfl
  | x :: l => by
    rw [List.filterMap_cons, List.filterMap_cons, fm_opt f g l]
    cases f x <;> rfl
theorem fm_filter {α : Type} (p : α → Bool) (g : α → D) : ∀ l : List α, (l.filterMap fun x => if p x = true then some (g x) else none) = (l.filter p).map g
  | [] => rfl
  | x :: l => by
    rw [List.filterMap_cons, List.filter_cons, fm_filter p g l]
    cases p x <;> rfl
theorem of_ifT {b : Bool} {d y : D} (h : (if b = true then some d else none) = some y) : d = y := by
  cases b with
  | false => cases h
  | true => exact Option.some.inj h
theorem isSome_if (b : Bool) (d : D) : (if b = true then some d else none).isSome = b := by cases b <;> rfl
theorem imm_oqD (o : Option Rat) : imm (oqD o) = true := by cases o <;> rfl
section
variable {P : Program} {w : World} {K : PySem.W.Frag} {mg : Str → Option Value} {base : Heap}
def R_marks : List D → List D → Prop := fun ds zs => ∃ ls back W A F L, ds = [.lst ((dragsOf ls).map qD), qD (drg ls), fourD W A F L] ∧ Star ls back W A F L ∧ zs = (marksP (drg ls) W A F L (dragsOf ls)).map qD
theorem ok_marks_of (C : Kc K mg) (B : Bt mg) (hS : OkSub P w K mg base) (hM : OkMul P w K mg base) (hV : OkDiv P w K mg base) (hL : OkLess P w K mg base) (hW : Ok P w K mg base 4 "west_drag" p_west_drag (PF K R_west)) (hD : Df K mg "marks_of" s_marks_of p_marks_of) : Ok P w K mg base 5 "marks_of" p_marks_of (PN K R_marks) :=
  ok_pn hD sc_marks_of (fun ds d h => by obtain ⟨_, _, _, _, _, _, rfl, _⟩ := h; rfl) fun ds zs h => by
    obtain ⟨ls, back, W, A, F, L, rfl, s, rfl⟩ := h
    have hlen : (dragsOf ls).length ≤ 11 := by rw [dragsOf_len]; have := s.cab.most; omega
    have hA0 := s.A0
    refine gn_set 3 (d := qD (mostOf W A F L)) (v_call hS rfl (v_cons (v_ix (d := qD W) (v_var 2 rfl rfl) v_int) (v_cons (v_call hV rfl (v_cons (v_call hM rfl (v_cons (v_ix (d := qD F) (v_var 2 rfl rfl) v_int) (v_cons (v_ix (d := qD L) (v_var 2 rfl rfl) v_int) v_nil)) ⟨F, L, rfl, s.bF.le (by decide), s.bL.le (by decide), trivial, rfl⟩) (v_cons (v_ix (d := qD A) (v_var 2 rfl rfl) v_int) v_nil))
      ⟨F * L, A, rfl, (s.bF.mul s.bL).le (by decide), s.bA.le (by decide), by grind, rfl⟩) v_nil)) ⟨W, F * L / A, rfl, s.bW.le (by decide), ((s.bF.mul s.bL).div s.bA).le (by decide), trivial, rfl⟩) ?_ sc_marks_of.nd
    refine gn_set 4 (d := .lst ((listP (drg ls) W A F L (dragsOf ls)).map oqD)) (PVN.pv (PVN.to (n_cat (n_cat (n_lst (v_cons (v_zero C rfl) (v_cons (v_var 3 rfl rfl) v_nil)) (show 2 ≤ 1000 by decide)) (n_lcL (l := dragsOf ls) (g := qD) (f := fun r => some (oqD (westOf (drg ls) W A F L r))) [("at", 5)] sc_marks_of.nd (blkOk_by (N := n_marks_of) (sc := defScope s_marks_of) (by decide +kernel)) (v_var 0 rfl rfl) (by omega) (fun x hx => ⟨_, _, .name 5, by decide, rfl, fun y hy => ?_⟩)) ?_) (n_listOf rfl B.list (v_cons (v_var 0 rfl rfl) v_nil)) ?_) ?_)) ?_ sc_marks_of.nd
    · cases hy
      exact ⟨v_call hW rfl (v_cons (v_var 1 rfl rfl) (v_cons (v_var 2 rfl rfl) (v_cons (v_var 5 rfl rfl) v_nil))) ⟨drg ls, W, A, F, L, x, rfl, s.cab.bd_all.le (by decide), s.bW, s.bA, s.bF, s.bL, (dragsOf_bd s.cab x hx).le (by decide), rfl⟩, imm_oqD _⟩
    · rw [fm_some, List.length_map]
      show 2 + _ ≤ _
      omega
    · rw [fm_some, List.length_append, List.length_map, List.length_map]
      show 2 + _ + _ ≤ _
      omega
    · rw [fm_some]
      unfold listP
      rw [List.map_append, List.map_append, List.map_map, List.map_map]
      rfl
    · refine gn_ret (PVN.to (n_lcL (l := listP (drg ls) W A F L (dragsOf ls)) (g := oqD) (f := fun o => (okP (mostOf W A F L) o).map qD) [("at", 5)] sc_marks_of.nd (blkOk_by (N := n_marks_of) (sc := defScope s_marks_of) (by decide +kernel)) (v_var 4 rfl rfl) ?_ (fun o ho => ?_)) ?_)
      · unfold listP
        rw [List.length_append, List.length_append, List.length_map, List.length_map]
        show 2 + _ + _ ≤ _
        omega
      · cases o with
        | none => exact ⟨_, _, .name 5, by decide, b_w (w_and (c := false) (c' := false) (PB.to (b_notN (v_var 5 rfl rfl)) rfl) (fun z => nomatch z)), fun y hy => nomatch hy⟩
        | some x =>
          have bx : Bd x 4000 := (s.bd_listP ho).le (by decide)
          have bm : Bd (mostOf W A F L) 4000 := s.bd_most.le (by decide)
          refine ⟨_, _, .name 5, by decide, ?_, fun y hy => ?_⟩
          · refine PB.to (b_w (w_and (c := true) (PB.to (b_notN (v_var 5 rfl rfl)) rfl) fun _ => w_and (b_not (b_val (v_call hL rfl (v_cons (v_var 5 rfl rfl) (v_cons (v_zero C rfl) v_nil)) ⟨x, 0, rfl, bx, bd0.le (by decide), rfl⟩))) fun _ => w_and1 (b_not (b_val (v_call hL rfl (v_cons (v_var 3 rfl rfl) (v_cons (v_var 5 rfl rfl) v_nil)) ⟨mostOf W A F L, x, rfl, bm, bx, rfl⟩))))) ?_
            show (true && (!decide (x < 0) && !decide (mostOf W A F L < x))) = _
            unfold okP
            by_cases h1 : x < 0 <;> by_cases h2 : mostOf W A F L < x <;> simp [h1, h2]
          · refine ⟨(v_var 5 rfl rfl).to ?_, ?_⟩
            · cases e : okP (mostOf W A F L) (some x) with
              | none => rw [e] at hy; cases hy
              | some r =>
                rw [e] at hy
                obtain ⟨rfl, _⟩ := okP_some.mp e
                exact Option.some.inj hy
            · cases e : okP (mostOf W A F L) (some x) with
              | none => rw [e] at hy; cases hy
              | some r =>
                rw [e] at hy
                cases hy
                rfl
      · exact fm_opt _ _ _
/-- how many are below: a comprehension and len -/
theorem fm_lt (dr : List Rat) (x : Rat) : ((dr.filterMap fun d => if decide (d < x) = true then some (qD d) else none).length : Int) = cnt dr x := by
  rw [fm_filter, List.length_map]
  rfl

theorem pd_true : ∀ (ks : List (Int × Int)) (j : Int × Int), pd ks (ks.map fun _ => D.bl true) j (.bl true) = (pk ks j).map fun _ => D.bl true
  | [], _ => rfl
  | k :: ks, j => by
    show (if k = j then _ else _) = (if k = j then k :: ks else k :: pk ks j).map _
    split
    · rfl
    · rw [pd_true ks j]
      rfl
theorem pk_le : ∀ (ks : List (Int × Int)) (j : Int × Int), (pk ks j).length ≤ ks.length + 1
  | [], _ => Nat.le_refl _
  | k :: ks, j => by
    unfold pk
    split
    · simp
    · have := pk_le ks j
      simp only [List.length_cons]
      omega
theorem spl_mem {ls : Lens} {s : Int} (h : s ∈ spl ls) : ∃ k, s = stp (ls.take k) := by
  obtain ⟨k, _, rfl⟩ := List.mem_map.mp h
  exact ⟨k + 1, rfl⟩
def R_ways : List D → D → Prop := fun ds d => ∃ ls back W A F L, ds = [cabD ls back, fourD W A F L] ∧ Star ls back W A F L ∧ d = .tup ((waysP (drg ls) W A F L (dragsOf ls)).map prD)
theorem ok_ways_by (B : Bt mg) (hL : OkLess P w K mg base) (hAll : OkAllDrag P w K mg base) (hSp : Ok P w K mg base 1 "splice_steps" p_splice_steps (PF K R_splices)) (hDA : Ok P w K mg base 4 "drag_at" p_drag_at (PF K R_dragat)) (hE : Ok P w K mg base 4 "east_drag" p_east_drag (PF K R_east)) (hMk : Ok P w K mg base 5 "marks_of" p_marks_of (PN K R_marks)) (hD : Df K mg "ways_by" s_ways_by p_ways_by) : Ok P w K mg base 6 "ways_by" p_ways_by (PF K R_ways) :=
  ok_pf hD sc_ways_by (fun ds d h => by obtain ⟨_, _, _, _, _, _, rfl, _⟩ := h; rfl) fun ds d h => by
    obtain ⟨ls, back, W, A, F, L, rfl, s, rfl⟩ := h
    have C := s.cab
    have hmost := C.most
    refine g_set 2 (v_call hAll rfl (v_cons (v_var 0 rfl rfl) v_nil) ⟨ls, back, rfl, C, rfl⟩) ?_ sc_ways_by.nd
    refine g_setLcT (l := spl ls) (g := D.int) (f := fun t => some (qD (dTo ls (t : Int)))) 3 [("steps", 8)] sc_ways_by.nd (blkOk_by (N := n_ways_by) (sc := defScope s_ways_by) (by decide +kernel)) rfl rfl rfl rfl rfl (v_call hSp rfl (v_cons (v_var 0 rfl rfl) v_nil) ⟨ls, back, rfl, C, rfl⟩) (by unfold spl; rw [List.length_map, List.length_range]; omega) (fun t ht => ⟨_, _, .name 8, by decide, rfl, fun y hy => ?_⟩) ?_
    · cases hy
      obtain ⟨k, rfl⟩ := spl_mem ht
      have h1 := stp_take_le C.each k
      refine ⟨v_call hDA rfl (v_cons (v_var 0 rfl rfl) (v_cons (v_tup (v_cons (v_var 8 rfl rfl) (v_cons v_int v_nil))) v_nil)) ⟨ls, back, ((stp (ls.take k) : Int) : Rat), rfl, C, C.bd_stp' k, Rat.intCast_le_intCast.mpr h1.2, ?_⟩, rfl⟩
      rw [dAt_dTo C.each (by exact_mod_cast h1.1)]
    rw [fm_some]
    have dr : ((spl ls).map fun t : Int => qD (dTo ls (t : Rat))) = (dragsOf ls).map qD := by
      unfold dragsOf
      rw [List.map_map]
      rfl
    rw [dr]
    have hlen : (dragsOf ls).length ≤ 11 := by rw [dragsOf_len]; omega
    refine g_m (m_newD 4 (fun fd => ?_) sc_ways_by.nd)
    refine m_forN (l := marksP (drg ls) W A F L (dragsOf ls)) (g := qD) (fun _ _ => id) (fun i E m => E = [some (cabD ls back), some (fourD W A F L), some (qD (drg ls)), some (.lst ((dragsOf ls).map qD)), some (.adr fd), none, none, none, none, none] ∧ ∃ ks : List (Int × Int), m = [(fd, celD K ks (ks.map fun _ => .bl true))] ∧ ks.Nodup ∧ ks.length ≤ i ∧ ∀ p, p ∈ ks ↔ p ∈ ((marksP (drg ls) W A F L (dragsOf ls)).take i).map (wayOf (drg ls) W A F L (dragsOf ls)))
      (VW.refl _) (n_call hMk rfl (v_cons (v_var 3 rfl rfl) (v_cons (v_var 2 rfl rfl) (v_cons (v_var 1 rfl rfl) v_nil))) ⟨ls, back, W, A, F, L, rfl, s, rfl⟩) (fun _ _ => rfl) sc_ways_by.nd ⟨rfl, [], rfl, List.nodup_nil, Nat.le_refl _, fun p => by rw [List.take_zero]; exact Iff.rfl⟩ (fun i x E m hx hI => ?_) (fun E m hI => ?_)
    · obtain ⟨rfl, ks, rfl, hn, hkl, hk⟩ := hI
      have hi : i < 24 := by
        have h1 := (List.getElem?_eq_some_iff.mp hx).1
        have h2 := marksP_len (drg ls) W A F L (dragsOf ls)
        omega
      have hxm := marksP_mem.mp (List.mem_of_getElem? hx)
      have bx := s.bd_listP hxm.1
      have hxW : x ≠ W := by have := s.most_lt; have := hxm.2.2; grind
      refine ⟨_, _, .name 5, ?_⟩
      refine m_setp 6 (d := qD (eastOf (drg ls) W A F L x)) (v_call hE rfl (v_cons (v_var 2 rfl rfl) (v_cons (v_var 1 rfl rfl) (v_cons (v_var 5 rfl rfl) v_nil))) ⟨drg ls, W, A, F, L, x, rfl, C.bd_all.le (by decide), s.bW, s.bA, s.bF, s.bL, bx, hxW, rfl⟩) rfl ?_ sc_ways_by.nd
      refine m_setp 7 (d := .int (cnt (dragsOf ls) x)) (PV.to (v_len rfl B.len (v_cons (v_lcL (l := dragsOf ls) (g := qD) (f := fun d => if decide (d < x) = true then some (qD d) else none) [("at", 9)] sc_ways_by.nd (blkOk_by (N := n_ways_by) (sc := defScope s_ways_by) (by decide +kernel)) (v_var 3 rfl rfl) (by omega) (fun z hz => ⟨_, _, .name 9, by decide, PB.to (b_val (v_call hL rfl (v_cons (v_var 9 rfl rfl) (v_cons (v_var 5 rfl rfl) v_nil)) ⟨z, x, rfl, (dragsOf_bd C z hz).le (by decide), bx.le (by decide), rfl⟩)) ?_, fun y hy => ?_⟩)) v_nil)) (congrArg D.int (fm_lt _ _))) rfl ?_ sc_ways_by.nd
      · exact (isSome_if _ _).symm
      · have e := of_ifT hy
        subst e
        exact ⟨v_var 9 rfl rfl, rfl⟩
      refine m_dput 0 (j := wayOf (drg ls) W A F L (dragsOf ls) x) (VW.refl _) rfl v_bl (v_var 4 rfl rfl) (v_ktup (v_cons (v_var 7 rfl rfl) (v_cons (PV.to (v_len rfl B.len (v_cons (v_lcL (l := dragsOf ls) (g := qD) (f := fun d => if decide (d < eastOf (drg ls) W A F L x) = true then some (qD d) else none) [("at", 9)] sc_ways_by.nd (blkOk_by (N := n_ways_by) (sc := defScope s_ways_by) (by decide +kernel)) (v_var 3 rfl rfl) (by omega) (fun z hz => ⟨_, _, .name 9, by decide, PB.to (b_val (v_call hL rfl (v_cons (v_var 9 rfl rfl) (v_cons (v_var 6 rfl rfl) v_nil)) ⟨z, eastOf (drg ls) W A F L x, rfl, (dragsOf_bd C z hz).le (by decide), s.bd_east bx, rfl⟩)) ?_, fun y hy => ?_⟩)) v_nil)) (congrArg D.int (fm_lt _ _))) v_nil))) rfl (by rw [List.length_map]; omega) ?_
      · exact (isSome_if _ _).symm
      · have e := of_ifT hy
        subst e
        exact ⟨v_var 9 rfl rfl, rfl⟩
      rw [pd_true]
      refine m_pop (m_end (E' := [some (cabD ls back), some (fourD W A F L), some (qD (drg ls)), some (.lst ((dragsOf ls).map qD)), some (.adr fd), none, none, none, none, none]) (.cons (.inr rfl) (.cons (.inr rfl) (.cons (.inr rfl) (.cons (.inr rfl) (.cons (.inr rfl) (.cons (.inl rfl) (.cons (.inl rfl) (.cons (.inl rfl) (.cons (.inl rfl) (.cons (.inl rfl) .nil)))))))))) (List.Sublist.refl _) ⟨rfl, _, rfl, pk_nodup hn, ?_, fun p => ?_⟩)
      · have := pk_le ks (wayOf (drg ls) W A F L (dragsOf ls) x)
        omega
      · rw [pk_mem, hk, take_succ hx, List.map_append, List.mem_append]
        constructor
        · rintro (h | h)
          · exact .inr (by rw [h]; simp)
          · exact .inl h
        · rintro (h | h)
          · exact .inr h
          · exact .inl (by simpa using h)
    · obtain ⟨rfl, ks, rfl, hn, hkl, hk⟩ := hI
      rw [List.take_length] at hk
      have h64 : ∀ p ∈ (marksP (drg ls) W A F L (dragsOf ls)).map (wayOf (drg ls) W A F L (dragsOf ls)), B64 p := fun p hp => by
        obtain ⟨x, _, rfl⟩ := List.mem_map.mp hp
        exact s.way64 x
      have h2 := marksP_len (drg ls) W A F L (dragsOf ls)
      refine m_ret (z_v (.same (.same (.same (.same (.dic 0 rfl (.same (.same (.same (.same (.same .nil)))))))))) (PV.wk (v_ktupleOf rfl B.tuple (v_cons (PVN.pv (n_sortedD (ks := ks) (ks' := waysP (drg ls) W A F L (dragsOf ls)) rfl B.sorted (v_cons (v_var 4 rfl rfl) v_nil) (by rw [List.length_map]) (by omega) (fun k hk' => h64 k ((hk k).mp hk')) (sortW_perm h64 hn hk) (sortW_pw _))) v_nil)) (congrArg D.tup (wkA_kD _)))) fun d hd => ⟨[], List.nil_sublist _, hd⟩
end
end Ee

/-! all ways of a day; the law's ways -/
namespace Ee
open PySem PySem.Spec PyProof.Rows L2
section
variable {P : Program} {w : World} {K : PySem.W.Frag} {mg : Str → Option Value} {base : Heap}
def R_allways : List D → D → Prop := fun ds d => ∃ ls back W A F L, ds = [cabD ls back, dayS back W A F] ∧ Star ls back W A F L ∧ d = .tup ((waysP (drg ls) W A F L (dragsOf ls)).map prD)
theorem ok_all_ways (hC : Ok P w K mg base 6 "check_cable" p_check_cable (PF K R_check)) (hW : Ok P w K mg base 6 "ways_by" p_ways_by (PF K R_ways)) (hT : Ok P w K mg base 7 "check_two" p_check_two (PF K R_four)) (hD : Df K mg "all_ways" s_all_ways p_all_ways) : Ok P w K mg base 8 "all_ways" p_all_ways (PF K R_allways) :=
  ok_pf hD sc_all_ways (fun ds d h => by obtain ⟨_, _, _, _, _, _, rfl, _⟩ := h; rfl) fun ds d h => by
    obtain ⟨ls, back, W, A, F, L, rfl, s, rfl⟩ := h
    refine g_drop (v_call hC rfl (v_cons (v_var 0 rfl rfl) v_nil) ⟨ls, back, rfl, s.cab, rfl⟩) ?_
    exact g_ret (v_call hW rfl (v_cons (v_var 0 rfl rfl) (v_cons (v_call hT rfl (v_cons (v_var 0 rfl rfl) (v_cons (v_var 1 rfl rfl) v_nil)) ⟨ls, back, W, A, F, L, rfl, s, rfl⟩) v_nil)) ⟨ls, back, W, A, F, L, rfl, s, rfl⟩)
def R_Lway : List D → D → Prop := fun ds d => ∃ ls back W A F L x, ds = [cabD ls back, fourD W A F L, .lst ((dragsOf ls).map qD), qD x] ∧ Star ls back W A F L ∧ Bd x 1900 ∧ x ≠ W ∧ d = kD (wayOf (drg ls) W A F L (dragsOf ls) x)
theorem ok_L_way (B : Bt mg) (hL : OkLb P w K mg base) (hE : Ok P w K mg base 5 "_law_east" p_L_east (PF K R_Least)) (hD : Df K mg "_law_way" s_L_way p_L_way) : Ok P w K mg base 6 "_law_way" p_L_way (PF K R_Lway) :=
  ok_pf hD sc_L_way (fun ds d h => by obtain ⟨_, _, _, _, _, _, _, rfl, _⟩ := h; rfl) fun ds d h => by
    obtain ⟨ls, back, W, A, F, L, x, rfl, s, bx, hxW, rfl⟩ := h
    have C := s.cab
    have hlen : (dragsOf ls).length ≤ 11 := by rw [dragsOf_len]; have := C.most; omega
    refine g_set 4 (d := qD (eastOf (drg ls) W A F L x)) (v_call hE rfl (v_cons (v_var 0 rfl rfl) (v_cons (v_var 1 rfl rfl) (v_cons (v_var 3 rfl rfl) v_nil))) ⟨ls, back, W, A, F, L, x, rfl, s, bx, hxW, rfl⟩) ?_ sc_L_way.nd
    refine g_set 5 (d := .int (cnt (dragsOf ls) x)) (PV.to (v_len rfl B.len (v_cons (v_lcL (l := dragsOf ls) (g := qD) (f := fun d => if decide (d < x) = true then some (qD d) else none) [("_law_at", 6)] sc_L_way.nd (blkOk_by (N := n_L_way) (sc := defScope s_L_way) (by decide +kernel)) (v_var 2 rfl rfl) (by omega) (fun z hz => ⟨_, _, .name 6, by decide, PB.to (b_val (v_call hL rfl (v_cons (v_var 6 rfl rfl) (v_cons (v_var 3 rfl rfl) v_nil)) ⟨z, x, rfl, (dragsOf_bd C z hz).le (by decide), bx.le (by decide), rfl⟩)) (isSome_if _ _).symm, fun y hy => ?_⟩)) v_nil)) (congrArg D.int (fm_lt _ _))) ?_ sc_L_way.nd
    · have e := of_ifT hy
      subst e
      exact ⟨v_var 6 rfl rfl, rfl⟩
    refine g_ret (v_ktup (v_cons (v_var 5 rfl rfl) (v_cons (PV.to (v_len rfl B.len (v_cons (v_lcL (l := dragsOf ls) (g := qD) (f := fun d => if decide (d < eastOf (drg ls) W A F L x) = true then some (qD d) else none) [("_law_at", 6)] sc_L_way.nd (blkOk_by (N := n_L_way) (sc := defScope s_L_way) (by decide +kernel)) (v_var 2 rfl rfl) (by omega) (fun z hz => ⟨_, _, .name 6, by decide, PB.to (b_val (v_call hL rfl (v_cons (v_var 6 rfl rfl) (v_cons (v_var 4 rfl rfl) v_nil)) ⟨z, eastOf (drg ls) W A F L x, rfl, (dragsOf_bd C z hz).le (by decide), s.bd_east bx, rfl⟩)) (isSome_if _ _).symm, fun y hy => ?_⟩)) v_nil)) (congrArg D.int (fm_lt _ _))) v_nil)))
    have e := of_ifT hy
    subst e
    exact ⟨v_var 6 rfl rfl, rfl⟩
def R_Lways : List D → List D → Prop := fun ds zs => ∃ ls back W A F L, ds = [cabD ls back, fourD W A F L] ∧ Star ls back W A F L ∧ zs = (waysL (drg ls) W A F L (dragsOf ls)).map kD
theorem ok_L_ways (B : Bt mg) (hL : OkLb P w K mg base) (hSp : Ok P w K mg base 5 "_law_splices" p_L_splices (PN K R_Lsplices)) (hMo : Ok P w K mg base 4 "_law_most_west" p_L_most_west (PF K R_Lmost)) (hWe : Ok P w K mg base 5 "_law_west" p_L_west (PF K R_Lwest)) (hWy : Ok P w K mg base 6 "_law_way" p_L_way (PF K R_Lway)) (hD : Df K mg "_law_ways" s_L_ways p_L_ways) : Ok P w K mg base 7 "_law_ways" p_L_ways (PN K R_Lways) :=
  ok_pnm hD sc_L_ways (fun ds d h => by obtain ⟨_, _, _, _, _, _, rfl, _⟩ := h; rfl) fun ds zs h => by
    obtain ⟨ls, back, W, A, F, L, rfl, s, rfl⟩ := h
    have C := s.cab
    have hmost := C.most
    have hlen : (dragsOf ls).length ≤ 11 := by rw [dragsOf_len]; omega
    have dr : ((spl ls).map fun t : Int => qD (dTo ls (t : Rat))) = (dragsOf ls).map qD := by
      unfold dragsOf
      rw [List.map_map]
      rfl
    have imq : ∀ l : List Rat, immA (l.map qD) = true := fun l => immA_of fun x hx => by
      obtain ⟨y, _, rfl⟩ := List.mem_map.mp hx
      rfl
    refine m_parN 2 3 (ds := (dragsOf ls).map qD) (y := qD (mostOf W A F L)) (n_call hSp rfl (v_cons (v_var 0 rfl rfl) v_nil) ⟨ls, back, rfl, C, dr.symm⟩) (imq _) (v_call hMo rfl (v_cons (v_var 0 rfl rfl) (v_cons (v_var 1 rfl rfl) v_nil)) ⟨ls, back, W, A, F, L, rfl, s, rfl⟩) rfl (fun sp => ?_) sc_L_ways.nd
    refine m_newD 4 (fun fd => ?_) sc_L_ways.nd
    have bm : Bd (mostOf W A F L) 4000 := s.bd_most.le (by decide)
    refine m_forZ (l := listL (drg ls) W A F L (dragsOf ls)) (g := oqD) (fun _ _ => id) (fun i E m => E = [some (cabD ls back), some (fourD W A F L), some (.adr sp), some (qD (mostOf W A F L)), some (.adr fd), none, none] ∧ ∃ ks : List (Int × Int), m = [(sp, celL K ((dragsOf ls).map qD)), (fd, celD K ks (ks.map fun _ => .bl true))] ∧ ks.Nodup ∧ ks.length ≤ i ∧ ∀ p, p ∈ ks ↔ p ∈ (((listL (drg ls) W A F L (dragsOf ls)).take i).filterMap (okL (mostOf W A F L))).map (wayOf (drg ls) W A F L (dragsOf ls)))
      (ZN.to (zn_cat (zx_n (zn_cat (zx_n (zn_p (n_lst (v_cons (d := qD 0) (v_tup (v_cons v_int (v_cons v_int v_nil))) (v_cons (v_var 3 rfl rfl) v_nil)) (show 2 ≤ 1000 by decide)))) (zx_var 0 rfl (v_var 2 rfl rfl)) ?_)) (zx_n (zn_v (.same (.same (.lst 0 rfl (.same (.same (.same (.same .nil))))))) (n_lcL (l := dragsOf ls) (g := qD) (f := fun y => some (oqD (westL (drg ls) W A F L y))) [("_law_at", 6)] sc_L_ways.nd (blkOk_by (N := n_L_ways) (sc := defScope s_L_ways) (by decide +kernel)) (v_var 2 rfl rfl) (by omega) (fun x hx => ⟨_, _, .name 6, by decide, rfl, fun y hy => ?_⟩)))) ?_) ?_) (fun o _ => imm_oqD o) sc_L_ways.nd ⟨rfl, [], rfl, List.nodup_nil, Nat.le_refl _, fun p => by rw [List.take_zero]; exact Iff.rfl⟩ (fun i o E m hx hI => ?_) (fun E m hI => ?_)
    · rw [List.length_map]
      show 2 + _ ≤ _
      omega
    · cases hy
      exact ⟨v_call hWe rfl (v_cons (v_var 0 rfl rfl) (v_cons (v_var 1 rfl rfl) (v_cons (v_var 6 rfl rfl) v_nil))) ⟨ls, back, W, A, F, L, x, rfl, s, (dragsOf_bd C x hx).le (by decide), rfl⟩, imm_oqD _⟩
    · rw [fm_some, List.length_append, List.length_map, List.length_map]
      show 2 + _ + _ ≤ _
      omega
    · rw [fm_some]
      unfold listL
      rw [List.map_append, List.map_append, List.map_map, List.map_map]
      rfl
    · obtain ⟨rfl, ks, rfl, hn, hkl, hk⟩ := hI
      have hil := (List.getElem?_eq_some_iff.mp hx).1
      have hll : (listL (drg ls) W A F L (dragsOf ls)).length ≤ 24 := by
        unfold listL
        rw [List.length_append, List.length_append, List.length_map, List.length_map]
        show 2 + _ + _ ≤ _
        omega
      refine ⟨_, _, .name 5, ?_⟩
      have skip : okL (mostOf W A F L) o = none → ∀ E' : En, LeE [some (cabD ls back), some (fourD W A F L), some (.adr sp), some (qD (mostOf W A F L)), some (.adr fd), none, none] E' → GoM (sx P w K mg base n_L_ways s_L_ways 6) [] E' [(sp, celL K ((dragsOf ls).map qD)), (fd, celD K ks (ks.map fun _ => .bl true))] (fun E m => E = [some (cabD ls back), some (fourD W A F L), some (.adr sp), some (qD (mostOf W A F L)), some (.adr fd), none, none] ∧ ∃ ks : List (Int × Int), m = [(sp, celL K ((dragsOf ls).map qD)), (fd, celD K ks (ks.map fun _ => .bl true))] ∧ ks.Nodup ∧ ks.length ≤ i + 1 ∧ ∀ p, p ∈ ks ↔ p ∈ (((listL (drg ls) W A F L (dragsOf ls)).take (i + 1)).filterMap (okL (mostOf W A F L))).map (wayOf (drg ls) W A F L (dragsOf ls))) (fun d' m' => ∃ a, d' = .adr a ∧ m' = [(a, celL K ((waysL (drg ls) W A F L (dragsOf ls)).map kD))]) := fun e E' w' =>
        m_end w' (List.Sublist.refl _) ⟨rfl, ks, rfl, hn, by omega, fun p => by rw [filterMap_take_succ hx, e, List.append_nil]; exact hk p⟩
      cases o with
      | none =>
        refine m_ifF (b_w (w_and (c := false) (c' := false) (PB.to (b_notN (v_var 5 rfl rfl)) rfl) (fun z => nomatch z))) (m_pop (m_pop (skip rfl _ ?_)))
        exact .cons (.inr rfl) (.cons (.inr rfl) (.cons (.inr rfl) (.cons (.inr rfl) (.cons (.inr rfl) (.cons (.inl rfl) (.cons (.inr rfl) .nil))))))
      | some x =>
        have bx := s.bd_listL (List.mem_of_getElem? hx)
        by_cases h1 : mostOf W A F L < x
        · refine m_ifF (PB.to (b_w (w_and (c := true) (PB.to (b_notN (v_var 5 rfl rfl)) rfl) fun _ => w_and1 (b_not (b_val (v_call hL rfl (v_cons (v_var 3 rfl rfl) (v_cons (v_var 5 rfl rfl) v_nil)) ⟨mostOf W A F L, x, rfl, bm, bx.le (by decide), rfl⟩))))) (by rw [decide_eq_true h1]; rfl)) (m_pop (m_pop (skip ?_ _ ?_)))
          · show (if ¬ _ then _ else _) = none
            rw [if_neg (fun z => z h1)]
          · exact .cons (.inr rfl) (.cons (.inr rfl) (.cons (.inr rfl) (.cons (.inr rfl) (.cons (.inr rfl) (.cons (.inl rfl) (.cons (.inr rfl) .nil))))))
        · have hxW : x ≠ W := by have := s.most_lt; grind
          have eo : okL (mostOf W A F L) (some x) = some x := okL_some.mpr ⟨rfl, h1⟩
          refine m_ifT (PB.to (b_w (w_and (c := true) (PB.to (b_notN (v_var 5 rfl rfl)) rfl) fun _ => w_and1 (b_not (b_val (v_call hL rfl (v_cons (v_var 3 rfl rfl) (v_cons (v_var 5 rfl rfl) v_nil)) ⟨mostOf W A F L, x, rfl, bm, bx.le (by decide), rfl⟩))))) (by rw [decide_eq_false h1]; rfl)) ?_
          refine m_dput 1 (j := wayOf (drg ls) W A F L (dragsOf ls) x) (.same (.same (.lst 0 rfl (.same (.same (.same (.same .nil))))))) rfl v_bl (v_var 4 rfl rfl) (v_call hWy rfl (v_cons (v_var 0 rfl rfl) (v_cons (v_var 1 rfl rfl) (v_cons (v_var 2 rfl rfl) (v_cons (v_var 5 rfl rfl) v_nil)))) ⟨ls, back, W, A, F, L, x, rfl, s, bx, hxW, rfl⟩) rfl (by rw [List.length_map]; omega) ?_
          rw [pd_true]
          refine m_pop (m_pop (m_end (E' := [some (cabD ls back), some (fourD W A F L), some (.adr sp), some (qD (mostOf W A F L)), some (.adr fd), none, none]) (.cons (.inr rfl) (.cons (.inr rfl) (.cons (.inr rfl) (.cons (.inr rfl) (.cons (.inr rfl) (.cons (.inl rfl) (.cons (.inr rfl) .nil))))))) (List.Sublist.refl _) ⟨rfl, _, rfl, pk_nodup hn, ?_, fun p => ?_⟩))
          · have := pk_le ks (wayOf (drg ls) W A F L (dragsOf ls) x)
            omega
          · rw [pk_mem, hk, filterMap_take_succ hx, eo, List.map_append, List.mem_append]
            constructor
            · rintro (h | h)
              · exact .inr (by rw [h]; simp)
              · exact .inl h
            · rintro (h | h)
              · exact .inr h
              · exact .inl (by simpa using h)
    · obtain ⟨rfl, ks, rfl, hn, hkl, hk⟩ := hI
      rw [List.take_length] at hk
      have hll : (listL (drg ls) W A F L (dragsOf ls)).length ≤ 24 := by
        unfold listL
        rw [List.length_append, List.length_append, List.length_map, List.length_map]
        show 2 + _ + _ ≤ _
        omega
      have h64 : ∀ p ∈ (marksL (drg ls) W A F L (dragsOf ls)).map (wayOf (drg ls) W A F L (dragsOf ls)), B64 p := fun p hp => by
        obtain ⟨x, _, rfl⟩ := List.mem_map.mp hp
        exact s.way64 x
      refine m_retZ (zn_v (.same (.same (.same (.same (.dic 1 rfl (.same (.same .nil))))))) (n_sortedD (ks := ks) (ks' := waysL (drg ls) W A F L (dragsOf ls)) rfl B.sorted (v_cons (v_var 4 rfl rfl) v_nil) (by rw [List.length_map]) (by omega) (fun k hk' => h64 k ((hk k).mp hk')) (sortW_perm h64 hn hk) (sortW_pw _))) (immA_of fun x hx => by obtain ⟨y, _, rfl⟩ := List.mem_map.mp hx; rfl) fun a => ⟨a, rfl, rfl⟩
end
end Ee

/-! stretches of ways -/
namespace Ee
def strP (L : Wys) (first s a : Int) : Option (Int × Int) := if cEq L s a = 0 then none else some (first + (cLt L s a : Nat), first + (cLt L s a : Nat) + (cEq L s a : Nat) - 1)
theorem cLt_app (L M : Wys) (s a : Int) : cLt (L ++ M) s a = cLt L s a + cLt M s a := List.countP_append ..
theorem cEq_app (L M : Wys) (s a : Int) : cEq (L ++ M) s a = cEq L s a + cEq M s a := List.countP_append ..
theorem cEq_one (p : Int × Int) (s a : Int) : cEq [p] s a = if ans p s = a then 1 else 0 := by
  unfold cEq
  rw [List.countP_singleton]
  by_cases h : ans p s = a
  · rw [if_pos h, if_pos (decide_eq_true h)]
  · rw [if_neg h, if_neg (by simpa using h)]
theorem cLt_one (p : Int × Int) (s a : Int) : cLt [p] s a = if ans p s < a then 1 else 0 := by
  unfold cLt
  rw [List.countP_singleton]
  by_cases h : ans p s < a
  · rw [if_pos h, if_pos (decide_eq_true h)]
  · rw [if_neg h, if_neg (by simpa using h)]
theorem c_all : ∀ {L : Wys} {s a : Int}, (∀ p ∈ L, ans p s ≤ a) → cLt L s a + cEq L s a = L.length
  | [], _, _, _ => rfl
  | p :: L, s, a, h => by
    have ih := c_all (L := L) (s := s) (a := a) fun q hq => h q (List.mem_cons_of_mem _ hq)
    have hp := h p List.mem_cons_self
    have e1 : cLt (p :: L) s a = cLt [p] s a + cLt L s a := cLt_app [p] L s a
    have e2 : cEq (p :: L) s a = cEq [p] s a + cEq L s a := cEq_app [p] L s a
    rw [e1, e2, cLt_one, cEq_one, List.length_cons]
    by_cases h1 : ans p s < a
    · rw [if_pos h1, if_neg (by omega)]
      omega
    · rw [if_neg h1, if_pos (by omega)]
      omega
theorem c_none {L : Wys} {s a : Int} (h : ∀ p ∈ L, ans p s < a) : cEq L s a = 0 := List.countP_eq_zero.mpr fun p hp => by
  have := h p hp
  simp
  omega
theorem before_le {L : Wys} {many : Nat} (C : Chn L many) (s : Int) {i : Nat} {p : Int × Int} (h : L[i]? = some p) : ∀ q ∈ L.take i, ans q s ≤ ans p s := fun q hq => by
  obtain ⟨j, hj⟩ := List.mem_iff_getElem?.mp hq
  rw [List.getElem?_take] at hj
  split at hj
  · rename_i hji
    obtain ⟨h1, e1⟩ := List.getElem?_eq_some_iff.mp hj
    obtain ⟨h2, e2⟩ := List.getElem?_eq_some_iff.mp h
    have := List.pairwise_iff_getElem.mp (C.mono s) j i h1 h2 hji
    rw [e1, e2] at this
    exact this
  · cases hj
theorem strP_same {L : Wys} {many : Nat} (C : Chn L many) {first s : Int} {i : Nat} {p : Int × Int} (h : L[i]? = some p) : strP (L.take (i + 1)) first s (ans p s) = some ((match strP (L.take i) first s (ans p s) with | none => first + (i : Int) | some q => q.1), first + (i : Int)) := by
  have hle := before_le C s h
  have hc := c_all hle
  have hl : (L.take i).length = i := by
    have := (List.getElem?_eq_some_iff.mp h).1
    rw [List.length_take]
    omega
  rw [hl] at hc
  have e1 : cLt (L.take (i + 1)) s (ans p s) = cLt (L.take i) s (ans p s) := by
    rw [take_succ h, cLt_app, cLt_one, if_neg (Int.lt_irrefl _)]
    omega
  have e2 : cEq (L.take (i + 1)) s (ans p s) = cEq (L.take i) s (ans p s) + 1 := by
    rw [take_succ h, cEq_app, cEq_one, if_pos rfl]
  unfold strP
  rw [e1, e2, if_neg (by omega)]
  by_cases h0 : cEq (L.take i) s (ans p s) = 0
  · rw [if_pos h0, h0]
    congr 1
    exact Prod.ext (by show first + _ = first + _; omega) (by show first + _ + _ - 1 = first + _; omega)
  · rw [if_neg h0]
    congr 1
    exact Prod.ext rfl (by show first + _ + _ - 1 = first + _; omega)
theorem strP_other {L : Wys} {many : Nat} (C : Chn L many) {first s a : Int} {i : Nat} {p : Int × Int} (h : L[i]? = some p) (ha : a ≠ ans p s) : strP (L.take (i + 1)) first s a = strP (L.take i) first s a := by
  have hle := before_le C s h
  have e2 : cEq (L.take (i + 1)) s a = cEq (L.take i) s a := by
    rw [take_succ h, cEq_app, cEq_one, if_neg (fun z => ha z.symm)]
    omega
  unfold strP
  rw [e2]
  by_cases h1 : a < ans p s
  · have e1 : cLt (L.take (i + 1)) s a = cLt (L.take i) s a := by
      rw [take_succ h, cLt_app, cLt_one, if_neg (by omega)]
      omega
    rw [e1]
  · have : cEq (L.take i) s a = 0 := c_none fun q hq => by
      have := hle q hq
      omega
    rw [if_pos this, if_pos this]
theorem cEq_len (L : Wys) (s a : Int) : (part L s a).length = cEq L s a := by
  unfold part cEq
  rw [List.countP_eq_length_filter]
theorem c_le : ∀ (L : Wys) (s a : Int), cLt L s a + cEq L s a ≤ L.length
  | [], _, _ => Nat.le_refl _
  | p :: L, s, a => by
    have ih := c_le L s a
    have e1 : cLt (p :: L) s a = cLt [p] s a + cLt L s a := cLt_app [p] L s a
    have e2 : cEq (p :: L) s a = cEq [p] s a + cEq L s a := cEq_app [p] L s a
    rw [e1, e2, cLt_one, cEq_one, List.length_cons]
    split <;> split <;> omega
theorem sg_len {W : Wys} {i n : Nat} (h : i + n ≤ W.length) : (sg W i n).length = n := by
  unfold sg
  rw [List.length_take, List.length_drop]
  omega
/-- a part of a stretch is a stretch -/
theorem part_sg {W : Wys} {many : Nat} (C : Chn W many) {i n : Nat} (h : i + n ≤ W.length) (s a : Int) : part (sg W i n) s a = sg W (i + cLt (sg W i n) s a) (cEq (sg W i n) s a) := by
  rw [(C.sub (sg_sub W i n)).part s a, sg_sg]
  have h1 := c_le (sg W i n) s a
  rw [sg_len h] at h1
  rw [Nat.min_eq_left (by omega)]
theorem unparted_str {W : Wys} {i n : Nat} (h : i + n ≤ W.length) (hn : 1 ≤ n) (s : Int) : unparted (sg W i n) s ↔ (strP (sg W i n) (i : Int) s 0 = some ((i : Int), (i : Int) + n - 1) ∨ strP (sg W i n) (i : Int) s 1 = some ((i : Int), (i : Int) + n - 1) ∨ strP (sg W i n) (i : Int) s 2 = some ((i : Int), (i : Int) + n - 1)) := by
  have k : ∀ a, sg W i n = part (sg W i n) s a ↔ strP (sg W i n) (i : Int) s a = some ((i : Int), (i : Int) + n - 1) := fun a => by
    have hl := sg_len h
    have hc := c_le (sg W i n) s a
    constructor
    · intro e
      have h1 := congrArg List.length e
      rw [cEq_len, hl] at h1
      unfold strP
      rw [if_neg (by omega)]
      congr 1
      exact Prod.ext (by show (i : Int) + _ = _; omega) (by show (i : Int) + _ + _ - 1 = _; omega)
    · intro e
      unfold strP at e
      split at e
      · cases e
      · have e := Option.some.inj e
        have e1 : (i : Int) + (cLt (sg W i n) s a : Nat) = i := congrArg Prod.fst e
        have e2 : (i : Int) + (cLt (sg W i n) s a : Nat) + (cEq (sg W i n) s a : Nat) - 1 = (i : Int) + n - 1 := congrArg Prod.snd e
        refine (List.filter_sublist.eq_of_length ?_).symm
        show (part (sg W i n) s a).length = _
        rw [cEq_len, hl]
        omega
  unfold unparted
  rw [k 0, k 1, k 2]
/-- the least number of a stretch -/
def valS (many : Nat) (W : Wys) (q : Int × Int) : Int := lst many (sg W q.1.toNat (q.2 - q.1 + 1).toNat)
theorem strP_val {W : Wys} {many : Nat} (C : Chn W many) {i n : Nat} (h : i + n ≤ W.length) (s a : Int) : (strP (sg W i n) (i : Int) s a = none ∧ lst many (part (sg W i n) s a) = 0) ∨ ∃ x d : Nat, 1 ≤ d ∧ x + d ≤ i + n ∧ i ≤ x ∧ strP (sg W i n) (i : Int) s a = some ((x : Int), (x : Int) + d - 1) ∧ sg W x d = part (sg W i n) s a := by
  have hc := c_le (sg W i n) s a
  rw [sg_len h] at hc
  unfold strP
  by_cases h0 : cEq (sg W i n) s a = 0
  · rw [if_pos h0]
    refine .inl ⟨rfl, lst_few ?_⟩
    rw [cEq_len]
    omega
  · rw [if_neg h0]
    refine .inr ⟨i + cLt (sg W i n) s a, cEq (sg W i n) s a, by omega, by omega, by omega, ?_, (part_sg C h s a).symm⟩
    exact congrArg some (Prod.ext (by show (i : Int) + _ = ((_ : Nat) : Int); exact (Int.natCast_add _ _).symm) (by show (i : Int) + _ + _ - 1 = ((_ : Nat) : Int) + _ - 1; rw [Int.natCast_add]))
theorem max_mx {α : Type} {o0 o1 o2 : Option α} {val : α → Int} {v0 v1 v2 : Int} (h0 : (o0 = none ∧ v0 = 0) ∨ ∃ q, o0 = some q ∧ val q = v0) (h1 : (o1 = none ∧ v1 = 0) ∨ ∃ q, o1 = some q ∧ val q = v1) (h2 : (o2 = none ∧ v2 = 0) ∨ ∃ q, o2 = some q ∧ val q = v2) (n0 : 0 ≤ v0) (n1 : 0 ≤ v1) (n2 : 0 ≤ v2) (hne : [o0, o1, o2].filterMap (fun o => o.map val) ≠ []) : maxOf ([o0, o1, o2].filterMap fun o => o.map val) = mx3 v0 v1 v2 := by
  unfold mx3
  rcases h0 with ⟨rfl, rfl⟩ | ⟨q0, rfl, rfl⟩ <;> rcases h1 with ⟨rfl, rfl⟩ | ⟨q1, rfl, rfl⟩ <;> rcases h2 with ⟨rfl, rfl⟩ | ⟨q2, rfl, rfl⟩ <;> simp [maxOf] at hne ⊢ <;> omega
end Ee

/-! the table of stretches -/
namespace Ee
open PySem PySem.Spec PyProof.Rows L2
def okD : Option (Int × Int) → D
  | none => .non
  | some p => kD p
def owD : Option (Int × Int) → D
  | none => .non
  | some p => prD p
theorem imm_okD (o : Option (Int × Int)) : imm (okD o) = true := by cases o <;> rfl
theorem wk_okD (o : Option (Int × Int)) : wk (okD o) = owD o := by cases o <;> rfl
theorem isNon_okD (o : Option (Int × Int)) : isNon (okD o) = o.isNone := by cases o <;> rfl
section
variable {P : Program} {w : World} {K : PySem.W.Frag} {mg : Str → Option Value} {base : Heap}
def lefts (L : Ways) (first s : Int) : List (Option (Int × Int)) := [strP L first s 0, strP L first s 1, strP L first s 2]
def R_stretch : List D → List D → Prop := fun ds zs => ∃ (W : Ways) (many i n : Nat) (s : Int), ds = [.tup (W.map prD), .int (i : Int), .int ((i : Int) + n - 1), .int s] ∧ Chn W many ∧ 1 ≤ n ∧ i + n ≤ W.length ∧ zs = (lefts (sg W i n) (i : Int) s).map okD
theorem sg_get {W : Ways} {i n j : Nat} {p : Int × Int} (h : (sg W i n)[j]? = some p) : W[i + j]? = some p := by
  unfold sg at h
  rw [List.getElem?_take] at h
  split at h
  · rw [List.getElem?_drop] at h
    exact h
  · cases h
theorem ok_stretches_left (hA : Ok P w K mg base 1 "answer_of" p_answer_of (PF K R_answer)) (B : Bt mg) (hD : Df K mg "stretches_left" s_stretches_left p_stretches_left) : Ok P w K mg base 2 "stretches_left" p_stretches_left (PN K R_stretch) :=
  ok_pnm hD sc_stretches_left (fun ds d h => by obtain ⟨_, _, _, _, _, rfl, _⟩ := h; rfl) fun ds zs h => by
    obtain ⟨W, many, i, n, s, rfl, C, hn, hin, rfl⟩ := h
    have hf := C.few
    have hl := sg_len (W := W) hin
    have CL := C.sub (sg_sub W i n)
    refine m_newL 4 (v_cons v_non (v_cons v_non (v_cons v_non v_nil))) rfl (show 3 ≤ 1000 by decide) (fun a => ?_) sc_stretches_left.nd
    refine m_forR2 (lo := (i : Int)) (hi := (i : Int) + n - 1 + 1) (fun j E m => E = [some (.tup (W.map prD)), some (.int (i : Int)), some (.int ((i : Int) + n - 1)), some (.int s), some (.adr a), none, none] ∧ m = [(a, celL K ((lefts ((sg W i n).take j) (i : Int) s).map okD))]) rfl B.range (VW.refl _) (v_cons (v_var 1 rfl rfl) (v_cons (v_add (v_var 2 rfl rfl) v_int) v_nil)) (by omega) sc_stretches_left.nd ⟨rfl, rfl⟩ (fun j E m hj hI => ?_) (fun E m hI => ?_)
    · obtain ⟨rfl, rfl⟩ := hI
      have hjn : j < n := by omega
      obtain ⟨p, hp⟩ : ∃ p, (sg W i n)[j]? = some p := ⟨_, List.getElem?_eq_getElem (by rw [hl]; exact hjn)⟩
      have hpW := sg_get hp
      refine ⟨_, _, .name 5, ?_⟩
      refine m_setp 6 (d := .int (ans p s)) (v_call hA rfl (v_cons (v_ix (d := prD p) (v_var 0 rfl rfl) (v_var 5 rfl rfl) (by
        have := atD_nat (ds := W.map prD) (j := i + j) (d := prD p) (by rw [List.getElem?_map, hpW]; rfl)
        rw [← this]
        congr 1)) (v_cons (v_var 3 rfl rfl) v_nil)) ⟨p, s, rfl, rfl⟩) rfl ?_ sc_stretches_left.nd
      obtain ⟨an, hlt, han⟩ : ∃ an : Nat, an < 3 ∧ ans p s = (an : Int) := by
        rcases ans_cases p s with h | h | h
        · exact ⟨0, by decide, h⟩
        · exact ⟨1, by decide, h⟩
        · exact ⟨2, by decide, h⟩
      have hsame := strP_same CL (first := (i : Int)) (s := s) hp
      have hoth : ∀ b, b ≠ ans p s → strP ((sg W i n).take (j + 1)) (i : Int) s b = strP ((sg W i n).take j) (i : Int) s b := fun b hb => strP_other CL hp hb
      rw [han] at hsame hoth ⊢
      have hget : ((lefts ((sg W i n).take j) (i : Int) s).map okD)[an]? = some (okD (strP ((sg W i n).take j) (i : Int) s (an : Int))) := by
        match an, hlt with
        | 0, _ => rfl
        | 1, _ => rfl
        | 2, _ => rfl
      have hfin : ∀ q : Int × Int, strP ((sg W i n).take (j + 1)) (i : Int) s (an : Int) = some q → ((lefts ((sg W i n).take j) (i : Int) s).map okD).set an (kD q) = (lefts ((sg W i n).take (j + 1)) (i : Int) s).map okD := fun q hq => by
        match an, hlt, hq, hoth with
        | 0, _, hq, hoth =>
          unfold lefts
          have hq : strP ((sg W i n).take (j + 1)) (i : Int) s 0 = some q := hq
          rw [hq, hoth 1 (by decide), hoth 2 (by decide)]
          rfl
        | 1, _, hq, hoth =>
          unfold lefts
          have hq : strP ((sg W i n).take (j + 1)) (i : Int) s 1 = some q := hq
          rw [hq, hoth 0 (by decide), hoth 2 (by decide)]
          rfl
        | 2, _, hq, hoth =>
          unfold lefts
          have hq : strP ((sg W i n).take (j + 1)) (i : Int) s 2 = some q := hq
          rw [hq, hoth 0 (by decide), hoth 1 (by decide)]
          rfl
      have fin : ∀ (q : Int × Int) (zs : List D), strP ((sg W i n).take (j + 1)) (i : Int) s (an : Int) = some q → zs.set an (kD q) = (lefts ((sg W i n).take (j + 1)) (i : Int) s).map okD → zs.length = 3 → (∃ y, zs[an]? = some (kD (q.1, y))) → q.2 = (i : Int) + j →
          GoM (sx P w K mg base n_stretches_left s_stretches_left 1) [match (defBody s_stretches_left).getD 1 (.Pass default) with | .For _ _ b _ _ => b.drop 2 | _ => []] [some (.tup (W.map prD)), some (.int (i : Int)), some (.int ((i : Int) + n - 1)), some (.int s), some (.adr a), some (.int ((i : Int) + j)), some (.int (an : Int))] [(a, celL K zs)] (fun E m => E = [some (.tup (W.map prD)), some (.int (i : Int)), some (.int ((i : Int) + n - 1)), some (.int s), some (.adr a), none, none] ∧ m = [(a, celL K ((lefts ((sg W i n).take (j + 1)) (i : Int) s).map okD))]) (fun d' m' => ∃ a, d' = .adr a ∧ m' = [(a, celL K ((lefts (sg W i n) (i : Int) s).map okD))]) := fun q zs hq hz hzl hy hq2 => by
        obtain ⟨y, hy⟩ := hy
        refine m_setItem 0 (j := an) (.same (.same (.same (.same (.lst 0 rfl (.same (.same .nil))))))) rfl (d := kD q) (PV.to (v_ktup (v_cons (v_ix (d := .int q.1) (PV.wk1 (v_ixL (d := kD (q.1, y)) (v_var 4 rfl rfl) (v_var 6 rfl rfl) (atD_nat hy))) v_int) (v_cons (v_var 5 rfl rfl) v_nil))) (by rw [← hq2])) (v_var 4 rfl rfl) (v_var 6 rfl rfl) rfl (by rw [hzl]; exact hlt) ?_
        refine m_pop (m_end (.cons (.inr rfl) (.cons (.inr rfl) (.cons (.inr rfl) (.cons (.inr rfl) (.cons (.inr rfl) (.cons (.inl rfl) (.cons (.inl rfl) .nil))))))) (List.Sublist.refl _) ⟨rfl, ?_⟩)
        rw [← hz]
        rfl
      cases ho : strP ((sg W i n).take j) (i : Int) s (an : Int) with
      | none =>
        rw [ho] at hsame hget
        refine m_ifTv (.same (.same (.same (.same (.lst 0 rfl (.same (.same .nil))))))) (PB.to (b_isN (v_ixL (d := .non) (v_var 4 rfl rfl) (v_var 6 rfl rfl) (atD_nat hget))) rfl) ?_
        refine m_setItem 0 (j := an) (VW.refl _) rfl (d := kD ((i : Int) + j, (i : Int) + j)) (v_ktup (v_cons (v_var 5 rfl rfl) (v_cons (v_var 5 rfl rfl) v_nil))) (v_var 4 rfl rfl) (v_var 6 rfl rfl) rfl (show an < 3 from hlt) (m_pop ?_)
        refine fin ((i : Int) + j, (i : Int) + j) _ hsame ?_ ?_ ?_ rfl
        · rw [List.set_set]
          exact hfin _ hsame
        · rw [List.length_set]; rfl
        · exact ⟨(i : Int) + j, List.getElem?_set_self (show an < 3 from hlt)⟩
      | some q =>
        rw [ho] at hsame hget
        refine m_ifFv (.same (.same (.same (.same (.lst 0 rfl (.same (.same .nil))))))) (PB.to (b_isN (v_ixL (d := kD q) (v_var 4 rfl rfl) (v_var 6 rfl rfl) (atD_nat hget))) rfl) (m_pop ?_)
        exact fin (q.1, (i : Int) + j) _ hsame (hfin _ hsame) rfl ⟨q.2, hget⟩ rfl
    · obtain ⟨rfl, rfl⟩ := hI
      refine m_ret (z_p (v_var 4 rfl rfl)) fun d hd => ⟨_, List.Sublist.refl _, a, hd, ?_⟩
      have e : ((i : Int) + n - 1 + 1 - i).toNat = n := by omega
      rw [e, List.take_of_length_le (by rw [hl]; exact Nat.le_refl _)]
end
end Ee

/-! the table of stretches, filled -/
namespace Ee
open PySem PySem.Spec PyProof.Rows L2
theorem pk_same : ∀ {ks : List (Int × Int)} {j : Int × Int}, j ∈ ks → pk ks j = ks
  | k :: ks, j, h => by
    unfold pk
    by_cases e : k = j
    · rw [if_pos e]
    · rw [if_neg e]
      rcases List.mem_cons.mp h with h | h
      · exact absurd h.symm e
      · rw [pk_same h]
theorem lk_mem : ∀ {ks : List (Int × Int)} {ds : List D} {j : Int × Int} {x : D}, lk ks ds j = some x → j ∈ ks
  | [], ds, j, x, h => by cases ds <;> cases h
  | k :: ks, [], j, x, h => by cases h
  | k :: ks, d :: ds, j, x, h => by
    have h : (if k = j then some d else lk ks ds j) = some x := h
    by_cases e : k = j
    · rw [e]; exact List.mem_cons_self
    · rw [if_neg e] at h
      exact List.mem_cons_of_mem _ (lk_mem h)
section
variable {P : Program} {w : World} {K : PySem.W.Frag} {mg : Str → Option Value} {base : Heap}
def R_needed : List D → D → Prop := fun ds d => ∃ (ks : List (Int × Int)) (vs : List D) (os : List (Option (Int × Int))) (val : Int × Int → Int), ds = [.dic ks vs, .lst (os.map okD)] ∧ os.length ≤ 3 ∧ (∀ q, some q ∈ os → ∃ x, lk ks vs q = some (.tup [.int (val q), x])) ∧ os.filterMap (fun o => o.map val) ≠ [] ∧ d = .int (maxOf (os.filterMap fun o => o.map val))
theorem ok_needed_by (B : Bt mg) (hD : Df K mg "needed_by" s_needed_by p_needed_by) : Ok P w K mg base 1 "needed_by" p_needed_by (PF K R_needed) :=
  ok_pf hD sc_needed_by (fun ds d h => by obtain ⟨_, _, _, _, rfl, _⟩ := h; rfl) fun ds d h => by
    obtain ⟨ks, vs, os, val, rfl, hl, hlk, hne, rfl⟩ := h
    refine g_ret (v_maxL rfl B.max (v_cons (PV.to (v_lcL (l := os) (g := okD) (f := fun o => (o.map val).map D.int) [("stretch", 2)] sc_needed_by.nd (blkOk_by (N := n_needed_by) (sc := defScope s_needed_by) (by decide +kernel)) (v_var 1 rfl rfl) (by omega) (fun o ho => ?_)) (congrArg D.lst (fm_opt (fun o => o.map val) D.int os))) v_nil) hne)
    cases o with
    | none => exact ⟨_, _, .name 2, by decide, PB.to (b_notN (v_var 2 rfl rfl)) rfl, fun y hy => nomatch hy⟩
    | some q =>
      obtain ⟨x, hx⟩ := hlk q ho
      exact ⟨_, _, .name 2, by decide, PB.to (b_notN (v_var 2 rfl rfl)) rfl, fun y hy => by
        have hy : D.int (val q) = y := Option.some.inj hy
        subst hy
        exact ⟨v_ix (d := .int (val q)) (v_dget (j := q) (v_var 0 rfl rfl) (v_var 2 rfl rfl) hx) v_int, rfl⟩⟩
/-- what the table tells: all stretches below this size, and of this size those before first -/
def Tab (many : Nat) (W : Ways) (ks : List (Int × Int)) (vs : List D) (size first : Nat) : Prop := ∀ i n : Nat, (n < size ∨ (n = size ∧ i < first)) → i + n < W.length → ∃ x, lk ks vs ((i : Int), (i : Int) + (n : Int)) = some (.tup [.int (lst many (sg W i (n + 1))), x])
theorem Tab.put {many : Nat} {W : Ways} {ks : List (Int × Int)} {vs : List D} {size first : Nat} (t : Tab many W ks vs size first) (hl : ks.length = vs.length) (x : D) : Tab many W (pk ks ((first : Int), (first : Int) + (size : Int))) (pd ks vs ((first : Int), (first : Int) + (size : Int)) x) size first := fun i n h hin => by
  rw [lk_put _ hl, if_neg]
  · exact t i n h hin
  · intro e
    have e1 : (i : Int) = first := congrArg Prod.fst e
    have e2 : (i : Int) + (n : Int) = (first : Int) + (size : Int) := congrArg Prod.snd e
    omega
/-- the value at the stretch in hand, behind some splices -/
def curv (many : Nat) (W : Ways) (size first j : Nat) : Int := if size = 0 then 0 else (List.range j).foldl (stepL (lst many) (sg W first (size + 1))) (W.length : Int)
def R_table : List D → (D → Prop) → Prop := fun ds G => ∃ (W : Ways) (many : Nat), ds = [.tup (W.map prD), .int (many : Int)] ∧ Chn W many ∧ many ≤ 100 ∧ 1 ≤ W.length ∧ ∀ ks vs x, lk ks vs (0, (W.length : Int) - 1) = some (.tup [.int (lst many W), x]) → G (.dic ks vs)
theorem pl_owD (o : Option (Int × Int)) : pl 1 (owD o) = true := by cases o <;> rfl
theorem lefts_any (L : Ways) (first s : Int) (q : Int × Int) : ((toPyA ((lefts L first s).map owD)).any fun z => PyData.eqv z (toPy (prD q))) = decide (strP L first s 0 = some q ∨ strP L first s 1 = some q ∨ strP L first s 2 = some q) := by
  have k : ∀ o : Option (Int × Int), PyData.eqv (toPy (owD o)) (toPy (prD q)) = decide (o = some q) := fun o => by
    cases o with
    | none =>
      rw [decide_eq_false (by simp)]
      rfl
    | some p =>
      show PyData.eqv (toPy (prD p)) (toPy (prD q)) = _
      rw [eqv_pr]
      simp
  unfold lefts
  show (PyData.eqv (toPy (owD _)) _ || (PyData.eqv (toPy (owD _)) _ || (PyData.eqv (toPy (owD _)) _ || false))) = _
  rw [k, k, k, Bool.eq_iff_iff]
  simp
theorem wkA_okD : ∀ os : List (Option (Int × Int)), wkA (os.map okD) = os.map owD
  | [] => rfl
  | o :: os => by
    show wk (okD o) :: wkA (os.map okD) = _
    rw [wk_okD, wkA_okD os]
    rfl

theorem lefts_ne {L : Ways} (h : L ≠ []) (first s : Int) (val : Int × Int → Int) : (lefts L first s).filterMap (fun o => o.map val) ≠ [] := by
  match L, h with
  | p :: L, _ =>
    have k : cEq (p :: L) s (ans p s) ≠ 0 := by
      have e2 : cEq (p :: L) s (ans p s) = cEq [p] s (ans p s) + cEq L s (ans p s) := cEq_app [p] L s (ans p s)
      rw [e2, cEq_one, if_pos rfl]
      omega
    have h1 : ∃ q, strP (p :: L) first s (ans p s) = some q := by
      unfold strP
      rw [if_neg k]
      exact ⟨_, rfl⟩
    obtain ⟨q, hq⟩ := h1
    intro z
    have hm : some q ∈ lefts (p :: L) first s := by
      unfold lefts
      rcases ans_cases p s with h | h | h
      · rw [h] at hq; rw [hq]; simp
      · rw [h] at hq; rw [hq]; simp
      · rw [h] at hq; rw [hq]; simp
    have : val q ∈ (lefts (p :: L) first s).filterMap (fun o => o.map val) := List.mem_filterMap.mpr ⟨some q, hm, rfl⟩
    rw [z] at this
    cases this
theorem valS_of {many : Nat} {W : Ways} {x d : Nat} : valS many W ((x : Int), (x : Int) + d - 1) = lst many (sg W x d) := by
  unfold valS
  have e1 : ((x : Int)).toNat = x := by omega
  have e2 : ((x : Int) + d - 1 - x + 1).toNat = d := by omega
  show lst many (sg W (x : Int).toNat ((x : Int) + d - 1 - x + 1).toNat) = _
  rw [e1, e2]
theorem ok_table_by (B : Bt mg) (hS : Ok P w K mg base 2 "stretches_left" p_stretches_left (PN K R_stretch)) (hN : Ok P w K mg base 1 "needed_by" p_needed_by (PF K R_needed)) (hD : Df K mg "table_by" s_table_by p_table_by) : Ok P w K mg base 3 "table_by" p_table_by (PG K R_table) :=
  ok_pg hD sc_table_by (fun ds G h => by obtain ⟨_, _, rfl, _⟩ := h; rfl) fun ds G h => by
    obtain ⟨W, many, rfl, C, hmany, h1, hG⟩ := h
    have hf := C.few
    have lenE : ((W.map prD).length : Int) = (W.length : Int) := by rw [List.length_map]
    refine m_newD 2 (fun kn => ?_) sc_table_by.nd
    refine m_forR1 (g := (· = (W.length : Int))) (fun nn sz E m => E = [some (.tup (W.map prD)), some (.int (many : Int)), some (.adr kn), none, none, none, none, none, none] ∧ ∃ ks vs, m = [(kn, celD K ks vs)] ∧ ks.length = vs.length ∧ ks.length ≤ 24 * sz ∧ Tab many W ks vs sz 0) rfl B.range (zi_p ((v_len rfl B.len (v_cons (v_var 0 rfl rfl) v_nil) rfl).to (congrArg D.int lenE))) (fun n h => by omega) sc_table_by.nd (fun n hn => ⟨rfl, [], [], rfl, rfl, Nat.zero_le _, fun i n h => by omega⟩) (fun nn hnn sz E m hsz hI => ?_) (fun nn hnn E m hI => ?_)
    · obtain ⟨rfl, ks0, vs0, rfl, hl0, hb0, ht0⟩ := hI
      subst hnn
      refine ⟨_, _, .name 3, ?_⟩
      refine m_forR1 (g := (· = (W.length : Int) - (sz : Int))) (fun nn fi E m => E = [some (.tup (W.map prD)), some (.int (many : Int)), some (.adr kn), some (.int (sz : Int)), none, none, none, none, none] ∧ ∃ ks vs, m = [(kn, celD K ks vs)] ∧ ks.length = vs.length ∧ ks.length ≤ 24 * sz + fi ∧ Tab many W ks vs sz fi) rfl B.range (zi_p (v_sub ((v_len rfl B.len (v_cons (v_var 0 rfl rfl) v_nil) rfl).to (congrArg D.int lenE)) (v_var 3 rfl rfl))) (fun n h => by omega) sc_table_by.nd (fun n hn => ⟨rfl, ks0, vs0, rfl, hl0, by omega, ht0⟩) (fun nn hnn fi E m hfi hI => ?_) (fun nn hnn E m hI => ?_)
      · obtain ⟨rfl, ks, vs, rfl, hl, hb, ht⟩ := hI
        subst hnn
        have hin : fi + (sz + 1) ≤ W.length := by omega
        have hL := sg_len hin
        have CL := C.sub (sg_sub W fi (sz + 1))
        refine ⟨_, _, .name 4, ?_⟩
        refine m_setp 5 (v_add (v_var 4 rfl rfl) (v_var 3 rfl rfl)) rfl ?_ sc_table_by.nd
        refine m_dput 0 (j := ((fi : Int), (fi : Int) + (sz : Int))) (VW.refl _) rfl (d := .tup [.int 0, .int 0]) (v_tup (v_cons v_int (v_cons v_int v_nil))) (v_var 2 rfl rfl) (v_ktup (v_cons (v_var 4 rfl rfl) (v_cons (v_var 5 rfl rfl) v_nil))) rfl (by omega) ?_
        have mid : ∀ (ks : List (Int × Int)) (vs : List D) (x : D), ks.length = vs.length → ks.length ≤ 24 * sz + fi + 1 → Tab many W ks vs sz fi → lk ks vs ((fi : Int), (fi : Int) + (sz : Int)) = some (.tup [.int (curv many W sz fi 0), x]) →
            GoM (sx P w K mg base n_table_by s_table_by 2) [match (defBody s_table_by).getD 1 (.Pass default) with | .For _ _ [.For _ _ b _ _] _ _ => b.drop 3 | _ => []] [some (.tup (W.map prD)), some (.int (many : Int)), some (.adr kn), some (.int (sz : Int)), some (.int (fi : Int)), some (.int ((fi : Int) + (sz : Int))), none, none, none] [(kn, celD K ks vs)]
              (fun E m => E = [some (.tup (W.map prD)), some (.int (many : Int)), some (.adr kn), some (.int (sz : Int)), none, none, none, none, none] ∧ ∃ ks vs, m = [(kn, celD K ks vs)] ∧ ks.length = vs.length ∧ ks.length ≤ 24 * sz + (fi + 1) ∧ Tab many W ks vs sz (fi + 1)) (fun d' _ => G d') := fun ks vs x hl hb ht hc => by
          refine m_forR2 (lo := 1) (hi := (many : Int) + 1) (fun j E m => E = [some (.tup (W.map prD)), some (.int (many : Int)), some (.adr kn), some (.int (sz : Int)), some (.int (fi : Int)), some (.int ((fi : Int) + (sz : Int))), none, none, none] ∧ ∃ ks vs x, m = [(kn, celD K ks vs)] ∧ ks.length = vs.length ∧ ks.length ≤ 24 * sz + fi + 1 ∧ Tab many W ks vs sz fi ∧ lk ks vs ((fi : Int), (fi : Int) + (sz : Int)) = some (.tup [.int (curv many W sz fi j), x])) rfl B.range (VW.refl _) (v_cons v_int (v_cons (v_add (v_var 1 rfl rfl) v_int) v_nil)) (by omega) sc_table_by.nd ⟨rfl, ks, vs, x, rfl, hl, hb, ht, hc⟩ (fun j E m hj hI => ?_) (fun E m hI => ?_)
          · obtain ⟨rfl, ks, vs, x, rfl, hl, hbl, ht, hc⟩ := hI
            refine ⟨_, _, .name 6, ?_⟩
            refine m_newZ 7 (zn_p (n_call hS rfl (v_cons (v_var 0 rfl rfl) (v_cons (v_var 4 rfl rfl) (v_cons (v_var 5 rfl rfl) (v_cons (v_var 6 rfl rfl) v_nil)))) ⟨W, many, fi, sz + 1, 1 + (j : Int), by rw [show ((fi : Int) + ((sz + 1 : Nat) : Int) - 1) = (fi : Int) + (sz : Int) by omega], C, by omega, hin, rfl⟩)) (immA_of fun z hz => by obtain ⟨o, _, rfl⟩ := List.mem_map.mp hz; exact imm_okD o) (fun lf => ?_) sc_table_by.nd
            have cs : sz ≠ 0 → curv many W sz fi (j + 1) = stepL (lst many) (sg W fi (sz + 1)) (curv many W sz fi j) j := fun h0 => by
              unfold curv
              rw [if_neg h0, if_neg h0, List.range_succ, List.foldl_append]
              rfl
            have endE : LeE [some (.tup (W.map prD)), some (.int (many : Int)), some (.adr kn), some (.int (sz : Int)), some (.int (fi : Int)), some (.int ((fi : Int) + (sz : Int))), none, none, none] [some (.tup (W.map prD)), some (.int (many : Int)), some (.adr kn), some (.int (sz : Int)), some (.int (fi : Int)), some (.int ((fi : Int) + (sz : Int))), some (.int (1 + (j : Int))), some (.adr lf), none] :=
              .cons (.inr rfl) (.cons (.inr rfl) (.cons (.inr rfl) (.cons (.inr rfl) (.cons (.inr rfl) (.cons (.inr rfl) (.cons (.inl rfl) (.cons (.inl rfl) (.cons (.inr rfl) .nil))))))))
            refine m_if (zb_v (.same (.same (.same (.same (.same (.same (.same (.lst 1 rfl (.same .nil))))))))) (b_w (w_and (b_gt (v_var 3 rfl rfl) v_int) fun _ => w_and1 (b_notInD (x := prD ((fi : Int), (fi : Int) + (sz : Int))) (n := 1) (m := 1) (v_tup (v_cons (v_var 4 rfl rfl) (v_cons (v_var 5 rfl rfl) v_nil))) (PV.wk (v_var 7 rfl rfl) (congrArg D.lst (wkA_okD _))) rfl (plA_of fun z hz => by obtain ⟨o, _, rfl⟩ := List.mem_map.mp hz; exact pl_owD o))))) fun b hb => ?_
            rw [lefts_any] at hb
            have hun := unparted_str (W := W) (i := fi) (n := sz + 1) hin (by omega) (1 + (j : Int))
            rw [show ((fi : Int) + ((sz + 1 : Nat) : Int) - 1) = (fi : Int) + (sz : Int) by omega] at hun
            rw [decide_eq_decide.mpr hun.symm] at hb
            by_cases hgo : sz ≠ 0 ∧ ¬ unparted (sg W fi (sz + 1)) (1 + (j : Int))
            · obtain ⟨h0, hu⟩ := hgo
              rw [decide_eq_true (show (0 : Int) < (sz : Int) by omega), decide_eq_false hu] at hb
              subst hb
              have hv : ∀ a, (strP (sg W fi (sz + 1)) (fi : Int) (1 + (j : Int)) a = none ∧ lst many (part (sg W fi (sz + 1)) (1 + (j : Int)) a) = 0) ∨ ∃ q, strP (sg W fi (sz + 1)) (fi : Int) (1 + (j : Int)) a = some q ∧ valS many W q = lst many (part (sg W fi (sz + 1)) (1 + (j : Int)) a) := fun a => by
                rcases strP_val C hin (1 + (j : Int)) a with h | ⟨y, d, d1, d2, d3, e1, e2⟩
                · exact .inl h
                · exact .inr ⟨_, e1, by rw [valS_of, e2]⟩
              have hlk : ∀ q, some q ∈ lefts (sg W fi (sz + 1)) (fi : Int) (1 + (j : Int)) → ∃ x, lk ks vs q = some (.tup [.int (valS many W q), x]) := fun q hq => by
                have key : ∀ a, (a = 0 ∨ a = 1 ∨ a = 2) → strP (sg W fi (sz + 1)) (fi : Int) (1 + (j : Int)) a = some q → ∃ x, lk ks vs q = some (.tup [.int (valS many W q), x]) := fun a ha e => by
                  rcases strP_val C hin (1 + (j : Int)) a with ⟨h, _⟩ | ⟨y, d, d1, d2, d3, e1, e2⟩
                  · rw [h] at e; cases e
                  · rw [e1] at e
                    cases e
                    have hlt := parted_lt hu ha
                    rw [← e2, sg_len (by omega), hL] at hlt
                    obtain ⟨x, hx⟩ := ht y (d - 1) (.inl (by omega)) (by omega)
                    refine ⟨x, ?_⟩
                    rw [valS_of]
                    have e3 : ((y : Int), (y : Int) + ((d - 1 : Nat) : Int)) = ((y : Int), (y : Int) + d - 1) := Prod.ext rfl (by show (y : Int) + ((d - 1 : Nat) : Int) = (y : Int) + d - 1; omega)
                    rw [e3, show d - 1 + 1 = d by omega] at hx
                    exact hx
                rcases in_menu3' hq with h | h | h
                · exact key 0 (.inl rfl) h.symm
                · exact key 1 (.inr (.inl rfl)) h.symm
                · exact key 2 (.inr (.inr rfl)) h.symm
              have hne := lefts_ne (L := sg W fi (sz + 1)) (fun z => by rw [z] at hL; simp at hL) (fi : Int) (1 + (j : Int)) (valS many W)
              have hmx : 1 + maxOf ((lefts (sg W fi (sz + 1)) (fi : Int) (1 + (j : Int))).filterMap fun o => o.map (valS many W)) = tm (lst many) (sg W fi (sz + 1)) (1 + (j : Int)) := by
                unfold tm
                rw [← max_mx (hv 0) (hv 1) (hv 2) (lst_nn _ _) (lst_nn _ _) (lst_nn _ _) hne]
                rfl
              refine m_setv 8 (d := .int (tm (lst many) (sg W fi (sz + 1)) (1 + (j : Int)))) (.same (.same (.dic 0 rfl (.same (.same (.same (.same (.lst 1 rfl (.same .nil))))))))) (PV.to (v_add v_int (v_call hN rfl (v_cons (v_var 2 rfl rfl) (v_cons (v_var 7 rfl rfl) v_nil)) ⟨ks, vs, _, valS many W, rfl, Nat.le_refl 3, hlk, hne, rfl⟩)) (congrArg D.int hmx)) rfl ?_ sc_table_by.nd
              have cs' := cs h0
              unfold stepL at cs'
              rw [if_neg hu] at cs'
              refine m_if (zb_v (.same (.same (.dic 0 rfl (.same (.same (.same (.same (.same (.same .nil))))))))) (b_lt (v_var 8 rfl rfl) (v_ix (d := .int (curv many W sz fi j)) (v_dget (j := ((fi : Int), (fi : Int) + (sz : Int))) (v_var 2 rfl rfl) (v_ktup (v_cons (v_var 4 rfl rfl) (v_cons (v_var 5 rfl rfl) v_nil))) hc) v_int))) fun b hb => ?_
              by_cases hlt : tm (lst many) (sg W fi (sz + 1)) (1 + (j : Int)) < curv many W sz fi j
              · rw [decide_eq_true hlt] at hb
                subst hb
                refine m_dput 0 (j := ((fi : Int), (fi : Int) + (sz : Int))) (VW.refl _) rfl (v_tup (v_cons (v_var 8 rfl rfl) (v_cons (v_var 6 rfl rfl) v_nil))) (v_var 2 rfl rfl) (v_ktup (v_cons (v_var 4 rfl rfl) (v_cons (v_var 5 rfl rfl) v_nil))) rfl (by omega) ?_
                refine m_pop (m_pop (m_pop (m_end (E' := [some (.tup (W.map prD)), some (.int (many : Int)), some (.adr kn), some (.int (sz : Int)), some (.int (fi : Int)), some (.int ((fi : Int) + (sz : Int))), none, none, none]) (.cons (.inr rfl) (.cons (.inr rfl) (.cons (.inr rfl) (.cons (.inr rfl) (.cons (.inr rfl) (.cons (.inr rfl) (.cons (.inl rfl) (.cons (.inl rfl) (.cons (.inl rfl) .nil))))))))) (.cons_cons _ (.cons _ .slnil)) ⟨rfl, _, _, .int (1 + (j : Int)), rfl, pk_len hl, ?_, ht.put hl _, ?_⟩)))
                · rw [pk_same (lk_mem hc)]
                  exact hbl
                · rw [lk_put _ hl, if_pos rfl, cs']
                  congr 4
                  omega
              · rw [decide_eq_false hlt] at hb
                subst hb
                refine m_pop (m_pop (m_pop (m_end (E' := [some (.tup (W.map prD)), some (.int (many : Int)), some (.adr kn), some (.int (sz : Int)), some (.int (fi : Int)), some (.int ((fi : Int) + (sz : Int))), none, none, none]) (.cons (.inr rfl) (.cons (.inr rfl) (.cons (.inr rfl) (.cons (.inr rfl) (.cons (.inr rfl) (.cons (.inr rfl) (.cons (.inl rfl) (.cons (.inl rfl) (.cons (.inl rfl) .nil))))))))) (.cons_cons _ (.cons _ .slnil)) ⟨rfl, ks, vs, x, rfl, hl, hbl, ht, ?_⟩)))
                rw [cs', hc]
                congr 4
                omega
            · have hb2 : b = false := by
                rw [hb]
                by_cases h0 : sz = 0
                · rw [decide_eq_false (show ¬ (0 : Int) < (sz : Int) by omega)]
                  rfl
                · rw [decide_eq_true (show unparted (sg W fi (sz + 1)) (1 + (j : Int)) from Decidable.byContradiction fun z => hgo ⟨h0, z⟩)]
                  simp
              subst hb2
              refine m_pop (m_pop (m_end (E' := [some (.tup (W.map prD)), some (.int (many : Int)), some (.adr kn), some (.int (sz : Int)), some (.int (fi : Int)), some (.int ((fi : Int) + (sz : Int))), none, none, none]) endE (.cons_cons _ (.cons _ .slnil)) ⟨rfl, ks, vs, x, rfl, hl, hbl, ht, ?_⟩))
              rw [hc]
              congr 4
              by_cases h0 : sz = 0
              · unfold curv
                rw [if_pos h0, if_pos h0]
              · rw [cs h0]
                unfold stepL
                rw [if_pos (Decidable.byContradiction fun z => hgo ⟨h0, z⟩)]
          · obtain ⟨rfl, ks, vs, x, rfl, hl, hb, ht, hc⟩ := hI
            refine m_pop (m_end (E' := [some (.tup (W.map prD)), some (.int (many : Int)), some (.adr kn), some (.int (sz : Int)), none, none, none, none, none]) (.cons (.inr rfl) (.cons (.inr rfl) (.cons (.inr rfl) (.cons (.inr rfl) (.cons (.inl rfl) (.cons (.inl rfl) (.cons (.inl rfl) (.cons (.inl rfl) (.cons (.inl rfl) .nil))))))))) (List.Sublist.refl _) ⟨rfl, ks, vs, rfl, hl, by omega, fun i n h hin2 => ?_⟩)
            by_cases hif : i = fi ∧ n = sz
            · obtain ⟨rfl, rfl⟩ := hif
              refine ⟨x, ?_⟩
              rw [hc]
              congr 4
              have e : ((many : Int) + 1 - 1).toNat = many := by omega
              rw [e]
              unfold curv
              by_cases h0 : n = 0
              · rw [if_pos h0, lst_few (by rw [hL]; omega)]
              · rw [if_neg h0]
                exact CL.lst_from (by rw [hL]; omega) (by rw [hL]; omega)
            · exact ht i n (by omega) hin2
        have hl1 := pk_len (j := ((fi : Int), (fi : Int) + (sz : Int))) (x := .tup [.int 0, .int 0]) hl
        have hb1 := pk_le ks ((fi : Int), (fi : Int) + (sz : Int))
        have ht1 := ht.put hl (.tup [.int 0, .int 0])
        have hc1 : lk (pk ks ((fi : Int), (fi : Int) + (sz : Int))) (pd ks vs ((fi : Int), (fi : Int) + (sz : Int)) (.tup [.int 0, .int 0])) ((fi : Int), (fi : Int) + (sz : Int)) = some (.tup [.int 0, .int 0]) := by
          rw [lk_put _ hl, if_pos rfl]
        by_cases h0 : sz = 0
        · refine m_ifF (PB.to (b_gt (v_var 3 rfl rfl) v_int) (decide_eq_false (by omega))) (m_pop (mid _ _ (.int 0) hl1 (by omega) ht1 ?_))
          rw [hc1]
          unfold curv
          rw [if_pos h0]
        · refine m_ifT (PB.to (b_gt (v_var 3 rfl rfl) v_int) (decide_eq_true (by omega))) ?_
          refine m_dput 0 (j := ((fi : Int), (fi : Int) + (sz : Int))) (VW.refl _) rfl (d := .tup [.int (W.length : Int), .int 0]) (v_tup (v_cons ((v_len rfl B.len (v_cons (v_var 0 rfl rfl) v_nil) rfl).to (congrArg D.int lenE)) (v_cons v_int v_nil))) (v_var 2 rfl rfl) (v_ktup (v_cons (v_var 4 rfl rfl) (v_cons (v_var 5 rfl rfl) v_nil))) rfl (by rw [← hl1]; omega) (m_pop (mid _ _ (.int 0) (pk_len hl1) ?_ (ht1.put hl1 _) ?_))
          · rw [pk_same (lk_mem hc1)]
            omega
          · rw [lk_put _ hl1, if_pos rfl]
            unfold curv
            rw [if_neg h0]
            rfl
      · obtain ⟨rfl, ks, vs, rfl, hl, hb, ht⟩ := hI
        subst hnn
        refine m_pop (m_end (E' := [some (.tup (W.map prD)), some (.int (many : Int)), some (.adr kn), none, none, none, none, none, none]) (.cons (.inr rfl) (.cons (.inr rfl) (.cons (.inr rfl) (.cons (.inl rfl) (.cons (.inl rfl) (.cons (.inl rfl) (.cons (.inl rfl) (.cons (.inl rfl) (.cons (.inl rfl) .nil))))))))) (List.Sublist.refl _) ⟨rfl, ks, vs, rfl, hl, by omega, fun i n h hin => ht i n (by omega) hin⟩)
    · obtain ⟨rfl, ks, vs, rfl, hl, hb, ht⟩ := hI
      subst hnn
      refine m_ret (z_v (.same (.same (.dic 0 rfl (.same (.same (.same (.same (.same (.same .nil))))))))) (v_var 2 rfl rfl)) fun d hd => ⟨[], List.nil_sublist _, ?_⟩
      obtain ⟨x, hx⟩ := ht 0 (W.length - 1) (.inl (by omega)) (by omega)
      rw [hd]
      refine hG ks vs x ?_
      have e1 : (((0 : Nat) : Int), ((0 : Nat) : Int) + ((W.length - 1 : Nat) : Int)) = (0, (W.length : Int) - 1) := Prod.ext rfl (by show ((0 : Nat) : Int) + ((W.length - 1 : Nat) : Int) = (W.length : Int) - 1; omega)
      have e2 : sg W 0 (W.length - 1 + 1) = W := by
        unfold sg
        rw [List.drop_zero, List.take_of_length_le (by omega)]
      rw [e1, e2] at hx
      exact hx
end
end Ee

/-! lamp_needed; law -/
namespace Ee
open PySem PySem.Spec PyProof.Rows L2
section
variable {ls : Lens} {back W A F L : Rat}
theorem Star.some_way (s : Star ls back W A F L) : 1 ≤ (waysP (drg ls) W A F L (dragsOf ls)).length := by
  have h0 : (0 : Rat) ∈ marksP (drg ls) W A F L (dragsOf ls) := by
    rw [marksP_mem]
    have := s.most_nn
    refine ⟨by unfold listP; simp, by grind, by grind⟩
  have h1 : wayOf (drg ls) W A F L (dragsOf ls) 0 ∈ waysP (drg ls) W A F L (dragsOf ls) :=
    (sortW_mem (fun q hq => by obtain ⟨x, _, rfl⟩ := List.mem_map.mp hq; exact s.way64 x) _).mpr (List.mem_map_of_mem h0)
  exact List.length_pos_of_mem h1
end
section
variable {P : Program} {w : World} {K : PySem.W.Frag} {mg : Str → Option Value} {base : Heap}
def R_lamp : List D → D → Prop := fun ds d => ∃ ls back W A F L, ds = [cabD ls back, dayS back W A F] ∧ Star ls back W A F L ∧ d = .int (lst (ls.length - 1) (waysP (drg ls) W A F L (dragsOf ls)))
theorem ok_lamp_needed (B : Bt mg) (hA : Ok P w K mg base 8 "all_ways" p_all_ways (PF K R_allways)) (hT : Ok P w K mg base 3 "table_by" p_table_by (PG K R_table)) (hD : Df K mg "lamp_needed" s_lamp_needed p_lamp_needed) : Ok P w K mg base 9 "lamp_needed" p_lamp_needed (PF K R_lamp) :=
  ok_pf hD sc_lamp_needed (fun ds d h => by obtain ⟨_, _, _, _, _, _, rfl, _⟩ := h; rfl) fun ds d h => by
    obtain ⟨ls, back, W, A, F, L, rfl, s, rfl⟩ := h
    have C := s.cab
    have h1 := C.some
    have h2 := C.most
    have lenE : ((ls.map lnD).length : Int) - 1 = ((ls.length - 1 : Nat) : Int) := by rw [List.length_map]; omega
    have lenW : (((waysP (drg ls) W A F L (dragsOf ls)).map prD).length : Int) - 1 = ((waysP (drg ls) W A F L (dragsOf ls)).length : Int) - 1 := by rw [List.length_map]
    refine g_set 2 (v_call hA rfl (v_cons (v_var 0 rfl rfl) (v_cons (v_var 1 rfl rfl) v_nil)) ⟨ls, back, W, A, F, L, rfl, s, rfl⟩) ?_ sc_lamp_needed.nd
    refine g_m (m_ret (G := fun d => d = .int (lst (ls.length - 1) (waysP (drg ls) W A F L (dragsOf ls)))) (z_ix (G := fun d => ∃ x, d = .tup [.int (lst (ls.length - 1) (waysP (drg ls) W A F L (dragsOf ls))), x]) (z_dget (j := (0, ((waysP (drg ls) W A F L (dragsOf ls)).length : Int) - 1))
      (G := fun d => ∃ ks vs x, d = .dic ks vs ∧ lk ks vs (0, ((waysP (drg ls) W A F L (dragsOf ls)).length : Int) - 1) = some (.tup [.int (lst (ls.length - 1) (waysP (drg ls) W A F L (dragsOf ls))), x]))
      (z_callG hT rfl (zs_p (v_cons (v_var 2 rfl rfl) (v_cons (PV.to (v_sub (v_len rfl B.len (v_cons (v_ix (v_var 0 rfl rfl) v_int) v_nil)) v_int) (congrArg D.int lenE)) v_nil))) (fun ds e => by
        subst e
        exact ⟨_, _, rfl, s.chn, by omega, s.some_way, fun ks vs x h => ⟨ks, vs, x, rfl, h⟩⟩)) (v_ktup (v_cons v_int (v_cons (PV.to (v_sub (v_len rfl B.len (v_cons (v_var 2 rfl rfl) v_nil)) v_int) (congrArg D.int lenW)) v_nil))) (fun d ⟨ks, vs, x, e, h⟩ => ⟨ks, vs, _, e, h, x, rfl⟩)) v_int (fun d ⟨x, e⟩ => ⟨_, _, e, rfl, rfl⟩)) fun d hd => ⟨[], List.Sublist.refl _, hd⟩)
end
end Ee

/-! the law -/
namespace Ee
open PySem PySem.Spec PyProof.Rows L2
section
variable {S : Sx} {E E' : En} {m : Mem} {a b c e : Expr} {pos p p2 : Pos} {W : Ways} {many : Nat} {i j : Int}
theorem z_neI (ha : PV S E a (.int i)) (hb : ZM S E m b (· = .int j)) : ZB S E m (.Compare a [.NotEq] [b] pos) (· = !decide (i = j)) := fun H0 σ H e0 hE hm Q q =>
  ⟨_, fun X M => pt_cmpR op_ne (se_ok M) (se_ok M) (nomark _), ha σ H (hE.env e0) _ fun u H1 e1 i1 => hb H0 σ H1 (e0.trans e1) (hE.stay (Tst.of e1)) (hm.same e1) _ fun v H2 d2 e2 t2 m2 g2 i2 => by
    subst g2
    have i1 : u = .int i := i1
    have i2 : v = .int j := i2
    subst i1 i2
    exact ⟨rfl, _, rfl, q _ H2 e2 ((Tst.of e1).trans t2) m2 (by simp)⟩⟩
theorem z_least0 {n lv : Nat} (h : Ok S.P S.w S.K S.mg S.base lv "_law_least" p_L_least (PL S.P S.w S.K n)) (hg : GlS S "_law_least") (C : Chn W many) (hmany : many ≤ 100) (hn : W.length ≤ n) (ha : PV S E a (.ktup (W.map kD))) (hb : PV S E b (.int (many : Int))) (hk : lv ≤ S.k)
    (he : St1 a [b, .Dict [] [] p2] := by intro _; rfl) (hpl : NoSt [b, .Dict [] [] p2] pos := by intro _; rfl) (hs1 : ∀ env : PySem.Env, starEach [b, .Dict [] [] p2] env = (false, eval b env) :: starEach [.Dict [] [] p2] env := by intro _; rfl) (hs2 : ∀ env : PySem.Env, starEach [.Dict [] [] p2] env = (false, eval (.Dict [] [] p2) env) :: starEach [] env := by intro _; rfl) : ZM S E m (.Call (.Name "_law_least" p) [a, b, .Dict [] [] p2] [] pos) (· = .int (lst many W)) := fun H0 σ H e0 hE hm Q q => by
  obtain ⟨f, fd, h1, h2, h3, h4⟩ := h
  obtain ⟨P, w, K, mg, base, N, sc, fn, k'⟩ := S
  refine ⟨tCall (PL P w K n) [] E0 (tCons (SE ⟨P, w, K, mg, base, N, sc, fn, k'⟩ a) (tCons (SE ⟨P, w, K, mg, base, N, sc, fn, k'⟩ b) (tCons (tKnNew P w) tNil))), fun X M => ?_, ?_⟩
  · have M' := M
    obtain ⟨rfl, rfl, rfl, rfl, rfl, rfl, rfl, rfl, _, hr, _⟩ := M'
    exact pe_call h4 (hr.mono hk) hg h1 h2 h3 .nil pass0 (pa_cons (se_ok M) (pa_cons (se_ok M) (pa_cons pe_knnew pa_nil (hs2 _)) (hs1 _)) (he _)) (by decide) (he _) (hpl _)
  refine ha σ H (hE.env e0) _ fun u H1 e1 i1 => hb σ H1 ((hE.env e0).mono e1) _ fun v H2 e2 i2 => fun l hl => ?_
  have i2 : v = .int (many : Int) := i2
  subst i2
  have n1 : Same H2 (upd H2 l (KnO P w l [])) := Same.new hl
  refine ⟨W, W, many, u, l, rfl, (i1.mono e2).mono n1, C, hmany, ⟨0, W.length, by unfold sg; rw [List.drop_zero, List.take_length]⟩, hn, ⟨[], upd_same, (fun _ h => nomatch h), List.nodup_nil, (fun _ h => nomatch h)⟩, fun H3 k1 k2 => ?_⟩
  have s3 : Same H2 H3 := fun b o hb => k1 b o (ne_of_none hb hl) (n1 b o hb)
  have s := e1.trans (e2.trans s3)
  exact q _ H3 (.int (lst many W)) (e0.trans s) (Tst.of s) (hm.same s) rfl rfl
end
section
variable {P : Program} {w : World} {K : PySem.W.Frag} {mg : Str → Option Value} {base : Heap}
def R_law : List D → D → Prop := fun ds d => ∃ ns : List Int, ds = [.lst (ns.map D.int)] ∧ d = .bl true
theorem fn_pfm {x : Str} {st : Stmt} {N ps : List Str} {k : Nat} {R : List D → D → Prop} {f : Addr} {fd : FuncData} (F : Fun K x x st f fd) (S : FnScope N ps (defScope st)) (hl : ∀ ds d, R ds d → ds.length = ps.length)
    (hb : ∀ ds d, R ds d → GoM (sx P w K mg base N st k) [defBody st] (ini N ds) [] (fun _ _ => False) (fun d' _ => d' = d)) : FnOk P w K mg base CX0 (k + 1) f fd ps (PF K R) :=
  F.ok S (fun vs H Q E h => by
    obtain ⟨ds, d, h1, h2, _⟩ := h
    rw [← h1.len]
    exact hl ds d h2) fun cdv A outer s H vs Q E hr h => by
    refine ⟨SB (sx P w K mg base N st k) (defBody st), sb_ok ⟨rfl, rfl, rfl, rfl, rfl, rfl, rfl, rfl, rfl, hr, rfl⟩, ?_⟩
    obtain ⟨ds, d, h1, h2, h3⟩ := h
    have r : RK (sx P w K mg base N st k) [defBody st] { nx := fun _ H' => Q .non H', rt := Q } (L2.start N vs) H := hb ds d h2 H _ H _ (Same.refl H) (EnvM.of (env_start h1)) MOk.nil ⟨fun _ _ _ _ z => z.elim, fun d' m' v H' e s _ _ i => by
      subst e
      exact h3 v H' s i⟩
    exact r
theorem ok_law {fa : Addr} {fd : FuncData} (B : Bt mg) (hCell : Ok P w K mg base 1 "_law_cell" p_L_cell (PF K R_cell)) (hPu : Ok P w K mg base 1 "_law_purse" p_L_purse (PN K R_purse)) (hP : OkPick P w K mg base) (hCab : Ok P w K mg base 3 "_law_cable" p_L_cable (PP K R_mkcable)) (hTwo : Ok P w K mg base 3 "_law_two" p_L_two (PP K R_mktwo)) (hDay : Ok P w K mg base 7 "_law_day" p_L_day (PF K R_Lday)) (hStar : Ok P w K mg base 5 "_law_star" p_L_star (PF K R_four)) (hWays : Ok P w K mg base 7 "_law_ways" p_L_ways (PN K R_Lways)) (hLamp : Ok P w K mg base 9 "lamp_needed" p_lamp_needed (PF K R_lamp)) (hLeast : OkLst P w K mg base 24) (F : Fun K "law" "law" s_law fa fd) : FnOk P w K mg base CX0 27 fa fd p_law (PF K R_law) :=
  fn_pfm F sc_law (fun ds d h => by obtain ⟨_, rfl, _⟩ := h; rfl) fun ds d h => by
    obtain ⟨ns, rfl, rfl⟩ := h
    refine m_forR1 (g := fun n => 0 ≤ n ∧ n ≤ 4) (fun n i E m => E = [some (.lst (ns.map D.int)), none, none, none, none, none] ∧ m = []) rfl B.range
      ((zi_p (v_max2 rfl B.max (v_cons v_int (v_cons (v_min2 rfl B.min (v_cons v_int (v_cons (v_len (ds := ns.map D.int) rfl B.len (v_cons (v_var 0 rfl rfl) v_nil) rfl) v_nil))) v_nil)))).imp fun n e => by subst e; split <;> (try split) <;> omega) (fun n h => by omega) sc_law.nd (fun n hn => ⟨rfl, rfl⟩) (fun n hn i E m hi hI => ?_) (fun n hn E m hI => ?_)
    · obtain ⟨rfl, rfl⟩ := hI
      refine ⟨_, _, .name 1, ?_⟩
      refine m_newZ 2 (zn_p (n_call hPu rfl (v_cons (v_call hCell rfl (v_cons (v_var 0 rfl rfl) (v_cons (v_var 1 rfl rfl) v_nil)) ⟨ns, i, rfl, by omega, rfl⟩) v_nil) ⟨_, rfl, _, _, ?_, rfl, rfl, rfl⟩)) rfl (fun pu => ?_) sc_law.nd
      · split
        · rename_i h
          exact Int.le_trans (by decide) h
        · exact Int.le_refl _
      refine m_re 0 (c' := celP) rfl (celP_of (by
        split
        · rename_i h
          exact Int.le_trans (by decide) h
        · exact Int.le_refl _)) ?_
      refine m_set 3 (G := fun d => ∃ ls back, d = cabD ls back ∧ CabOk ls back) (z_callP 0 hCab rfl rfl (v_var 2 rfl rfl) (zs_one (z_menu (ds := [.int 5, .int 12]) (v_cons v_int (v_cons v_int v_nil)) (z_int1 rfl B.int (z_eqV (z_pick (g' := fun j => 0 ≤ j ∧ j < 3) 0 hP rfl rfl (v_var 2 rfl rfl) (zi_p v_int) (fun i e => by subst e; exact ⟨by decide, by decide, fun j a b => ⟨a, b⟩⟩)) (zi_p v_int))) (fun i h => ⟨h.1, h.2⟩) rfl (by decide)) (fun d hd => by
          have hd : d = .int 5 ∨ d = .int 12 := by simpa using hd
          rcases hd with rfl | rfl <;> rfl)) (fun ds ⟨d, e, hd⟩ => by
          have hd : d = .int 5 ∨ d = .int 12 := by simpa using hd
          subst e
          rcases hd with rfl | rfl <;> rfl) (fun ds ⟨d, e, hd⟩ => by
          have hd : d = .int 5 ∨ d = .int 12 := by simpa using hd
          subst e
          rcases hd with rfl | rfl
          · exact ⟨5, rfl, by decide, by decide, fun ls back C => ⟨ls, back, rfl, C⟩⟩
          · exact ⟨12, rfl, by decide, by decide, fun ls back C => ⟨ls, back, rfl, C⟩⟩)) (fun d hd => ?_) sc_law.nd
      obtain ⟨ls, back, rfl, C⟩ := hd
      have icab : imm (cabD ls back) = true := by
        show ((immA (ls.map lnD)) && (imm (qD back) && true)) = true
        rw [immA_of fun x hx => by obtain ⟨y, _, rfl⟩ := List.mem_map.mp hx; rfl]
        rfl
      refine ⟨icab, ?_⟩
      refine m_set 4 (G := fun d => ∃ l1 l2 p q, Leaks ls back l1 l2 p q ∧ d = dayS back (starW (dTo ls l1) (dTo ls l2) p q) (starA (drg ls) (dTo ls l1) (dTo ls l2) p q) (starF (dTo ls l1) (dTo ls l2) p q)) (z_call hDay rfl (zs_cons (z_p (v_var 3 rfl rfl)) (fun d e => by subst e; exact icab) (zs_one (z_callP (G := fun d => ∃ l1 l2 p q, Leaks ls back l1 l2 p q ∧ d = .tup [pqD (l1, p), pqD (l2, q)]) 0 hTwo rfl rfl (v_var 2 rfl rfl) (zs_one (z_p (v_var 3 rfl rfl)) (fun d e => by subst e; exact icab)) (fun ds ⟨d, e, e2⟩ => by
          subst e e2
          show (imm (cabD ls back) && true) = true
          rw [icab]
          rfl) (fun ds ⟨d, e, e2⟩ => by
          subst e e2
          exact ⟨ls, back, rfl, C, fun l1 l2 p q h => ⟨l1, l2, p, q, h, rfl⟩⟩)) (fun d ⟨l1, l2, p, q, _, e⟩ => by subst e; rfl))) (fun ds ⟨d, r, e, e2, d2, e3, l1, l2, p, q, h, e4⟩ => by
          subst e e2 e3 e4
          exact ⟨_, ⟨ls, back, l1, l2, p, q, rfl, h, rfl⟩, l1, l2, p, q, h, rfl⟩)) (fun d hd => ?_) sc_law.nd
      obtain ⟨l1, l2, p, q, lk, rfl⟩ := hd
      refine ⟨rfl, ?_⟩
      have s := lk.two.star
      generalize starW (dTo ls l1) (dTo ls l2) p q = W at *
      generalize starA (drg ls) (dTo ls l1) (dTo ls l2) p q = A at *
      generalize starF (dTo ls l1) (dTo ls l2) p q = F at *
      generalize starL (dTo ls l1) (dTo ls l2) p q = L at *
      have h1 := C.some
      have h2 := C.most
      have lenE : ((ls.map lnD).length : Int) - 1 = ((ls.length - 1 : Nat) : Int) := by rw [List.length_map]; omega
      refine m_setp 5 (d := .ktup ((waysL (drg ls) W A F L (dragsOf ls)).map kD)) (v_ktupleOf rfl B.tuple (v_cons (PVN.pv (n_call hWays rfl (v_cons (v_var 3 rfl rfl) (v_cons (v_call hStar rfl (v_cons (v_var 3 rfl rfl) (v_cons (v_var 4 rfl rfl) v_nil)) ⟨ls, back, W, A, F, L, rfl, s, rfl⟩) v_nil)) ⟨ls, back, W, A, F, L, rfl, s, rfl⟩)) v_nil)) (imm_ways _) ?_ sc_law.nd
      rw [← ways_eq s]
      refine m_if (z_neI (v_call hLamp rfl (v_cons (v_var 3 rfl rfl) (v_cons (v_var 4 rfl rfl) v_nil)) ⟨ls, back, W, A, F, L, rfl, s, rfl⟩) (z_least0 (n := 24) (lv := 26) (W := waysP (drg ls) W A F L (dragsOf ls)) (many := ls.length - 1) hLeast rfl s.chn (by omega) s.chn.few (v_var 5 rfl rfl) (PV.to (v_sub (v_len rfl B.len (v_cons (v_ix (v_var 3 rfl rfl) v_int) v_nil)) v_int) (congrArg D.int lenE)) (Nat.le_refl 26))) fun b hb => ?_
      have hb : b = false := by rw [hb]; simp
      subst hb
      exact m_pop (m_pop (m_end (E' := [some (.lst (ns.map D.int)), none, none, none, none, none]) (.cons (.inr rfl) (.cons (.inl rfl) (.cons (.inl rfl) (.cons (.inl rfl) (.cons (.inl rfl) (.cons (.inl rfl) .nil)))))) (List.nil_sublist _) ⟨rfl, rfl⟩))
    · obtain ⟨rfl, rfl⟩ := hI
      exact m_ret (z_p v_bl) fun d hd => ⟨[], List.Sublist.refl _, hd⟩
end
end Ee

/-! all defs together -/
namespace Ee
open PySem PySem.Spec PyProof.Rows L2
theorem law_pf {K : PySem.W.Frag} {H : Hp} {a : Addr} {ns : List Int} (hS : SqL K H a (ns.map V.int)) : PF K R_law [.ref a] H (fun v _ => v = .bl true) (fun _ _ _ => False) :=
  ⟨[.lst (ns.map D.int)], .bl true, ⟨_, _, rfl, ⟨a, _, rfl, hS, IsA.ints' ns⟩, rfl⟩, ⟨ns, rfl, rfl⟩, fun v H' _ i => i⟩
theorem df_mk {K : PySem.W.Frag} {h : Heap} {mg : Str → Option Value} (X : K.In h) (G : h.Ns mainGlobals mg) {x : Str} {st : Stmt} {ps : List Str} {f : Addr} {oc : Value} {od an : Option Addr} {osl : Array (Option Value)} {kV doc pm cdv ct : Value} (a : PySem.W.nsIn K mainGlobals x = some (some (.ref f))) (l : K.lookup f = some ⟨oc, od, .func (PySem.W.fnOf x x (defArgs st) (defBody st) (defScope st) .none kV doc pm an cdv ct), osl⟩)
    (c : PySem.W.codeIn K cdv x = true) (k : PySem.W.keepIn K (.ref f) = true) (hb : ∀ (kV doc pm : Value) (an : Option Addr) (cdv ct : Value) (us : List Value), us.length = ps.length → bindArgs (PySem.W.fnOf x x (defArgs st) (defBody st) (defScope st) .none kV doc pm an cdv ct) ⟨us, []⟩ = pure (ps.zip us)) : Df K mg x st ps :=
  ⟨f, _, fun_mk l c k, PySem.W.mg_of X G a, (fun_mk l c k).binds hb⟩
theorem fn_all {P : Program} {w : World} {K : PySem.W.Frag} {mg : Str → Option Value} {base : Heap} {fa : Addr} {fd : FuncData} (B : Bt mg) (C : Kc K mg) (d_L_cell : Df K mg "_law_cell" s_L_cell p_L_cell) (d_L_purse : Df K mg "_law_purse" s_L_purse p_L_purse) (d_L_pick : Df K mg "_law_pick" s_L_pick p_L_pick) (d_L_low : Df K mg "_law_low" s_L_low p_L_low) (d_L_cable : Df K mg "_law_cable" s_L_cable p_L_cable) (d_L_two : Df K mg "_law_two" s_L_two p_L_two) (d_L_plus : Df K mg "_law_plus" s_L_plus p_L_plus) (d_L_minus : Df K mg "_law_minus" s_L_minus p_L_minus) (d_L_times : Df K mg "_law_times" s_L_times p_L_times) (d_L_over : Df K mg "_law_over" s_L_over p_L_over) (d_L_below : Df K mg "_law_below" s_L_below p_L_below) (d_L_drag_to : Df K mg "_law_drag_to" s_L_drag_to p_L_drag_to) (d_L_all : Df K mg "_law_all" s_L_all p_L_all) (d_L_points : Df K mg "_law_points" s_L_points p_L_points) (d_L_steps_seen : Df K mg "_law_steps_seen" s_L_steps_seen p_L_steps_seen) (d_L_seen : Df K mg "_law_seen" s_L_seen p_L_seen) (d_L_day : Df K mg "_law_day" s_L_day p_L_day) (d_L_star : Df K mg "_law_star" s_L_star p_L_star) (d_L_splices : Df K mg "_law_splices" s_L_splices p_L_splices) (d_L_most_west : Df K mg "_law_most_west" s_L_most_west p_L_most_west) (d_L_west : Df K mg "_law_west" s_L_west p_L_west) (d_L_east : Df K mg "_law_east" s_L_east p_L_east) (d_L_way : Df K mg "_law_way" s_L_way p_L_way) (d_L_ways : Df K mg "_law_ways" s_L_ways p_L_ways) (d_is_whole : Df K mg "is_whole" s_is_whole p_is_whole) (d_share_of : Df K mg "share_of" s_share_of p_share_of) (d_is_fraction : Df K mg "is_fraction" s_is_fraction p_is_fraction) (d_is_above_zero : Df K mg "is_above_zero" s_is_above_zero p_is_above_zero) (d_is_small : Df K mg "is_small" s_is_small p_is_small) (d_is_length : Df K mg "is_length" s_is_length p_is_length) (d_is_from_zero : Df K mg "is_from_zero" s_is_from_zero p_is_from_zero) (d_is_cable : Df K mg "is_cable" s_is_cable p_is_cable) (d_check_cable : Df K mg "check_cable" s_check_cable p_check_cable) (d_is_less : Df K mg "is_less" s_is_less p_is_less) (d_low : Df K mg "low" s_low p_low) (d_add : Df K mg "add" s_add p_add) (d_mul : Df K mg "mul" s_mul p_mul) (d_all_drag : Df K mg "all_drag" s_all_drag p_all_drag) (d_splice_steps : Df K mg "splice_steps" s_splice_steps p_splice_steps) (d_less : Df K mg "less" s_less p_less) (d_drag_at : Df K mg "drag_at" s_drag_at p_drag_at) (d_div : Df K mg "div" s_div p_div) (d_east_drag : Df K mg "east_drag" s_east_drag p_east_drag) (d_west_drag : Df K mg "west_drag" s_west_drag p_west_drag) (d_marks_of : Df K mg "marks_of" s_marks_of p_marks_of) (d_ways_by : Df K mg "ways_by" s_ways_by p_ways_by) (d_is_day : Df K mg "is_day" s_is_day p_is_day) (d_check_day : Df K mg "check_day" s_check_day p_check_day) (d_half : Df K mg "half" s_half p_half) (d_four_of : Df K mg "four_of" s_four_of p_four_of) (d_fault_in : Df K mg "fault_in" s_fault_in p_fault_in) (d_kind_by : Df K mg "kind_by" s_kind_by p_kind_by) (d_check_two : Df K mg "check_two" s_check_two p_check_two) (d_all_ways : Df K mg "all_ways" s_all_ways p_all_ways) (d_answer_of : Df K mg "answer_of" s_answer_of p_answer_of) (d_stretches_left : Df K mg "stretches_left" s_stretches_left p_stretches_left) (d_needed_by : Df K mg "needed_by" s_needed_by p_needed_by) (d_table_by : Df K mg "table_by" s_table_by p_table_by) (d_lamp_needed : Df K mg "lamp_needed" s_lamp_needed p_lamp_needed) (d_L_answer : Df K mg "_law_answer" s_L_answer p_L_answer) (d_L_least : Df K mg "_law_least" s_L_least p_L_least) (F : Fun K "law" "law" s_law fa fd) : FnOk P w K mg base CX0 27 fa fd p_law (PF K R_law) := by
  have o_L_cell := ok_L_cell (P := P) (w := w) (base := base) B d_L_cell
  have o_L_purse := ok_L_purse (P := P) (w := w) (base := base) B d_L_purse
  have o_L_pick := ok_L_pick (P := P) (w := w) (base := base) d_L_pick
  have o_L_low := ok_L_low (P := P) (w := w) (base := base) B d_L_low
  have o_L_cable := ok_L_cable (P := P) (w := w) (base := base) B o_L_pick o_L_low d_L_cable
  have o_L_two := ok_L_two (P := P) (w := w) (base := base) B o_L_pick o_L_low d_L_two
  have o_L_plus := ok_L_plus (P := P) (w := w) (base := base) o_L_low d_L_plus
  have o_L_minus := ok_L_minus (P := P) (w := w) (base := base) o_L_low d_L_minus
  have o_L_times := ok_L_times (P := P) (w := w) (base := base) o_L_low d_L_times
  have o_L_over := ok_L_over (P := P) (w := w) (base := base) o_L_low d_L_over
  have o_L_below := ok_L_below (P := P) (w := w) (base := base) d_L_below
  have o_L_drag_to := ok_L_drag_to (P := P) (w := w) (base := base) o_L_plus o_L_minus o_L_times o_L_below d_L_drag_to
  have o_L_all := ok_L_all (P := P) (w := w) (base := base) o_L_plus o_L_times d_L_all
  have o_L_points := ok_L_points (P := P) (w := w) (base := base) o_L_drag_to o_L_minus o_L_all d_L_points
  have o_L_steps_seen := ok_L_steps_seen (P := P) (w := w) (base := base) o_L_plus o_L_minus o_L_times o_L_over d_L_steps_seen
  have o_L_seen := ok_L_seen (P := P) (w := w) (base := base) o_L_plus o_L_points o_L_all o_L_steps_seen d_L_seen
  have o_L_day := ok_L_day (P := P) (w := w) (base := base) o_L_plus o_L_minus o_L_times o_L_over B o_L_points o_L_all o_L_steps_seen o_L_seen d_L_day
  have o_L_star := ok_L_star (P := P) (w := w) (base := base) o_L_plus o_L_minus o_L_times o_L_all d_L_star
  have o_L_splices := ok_L_splices (P := P) (w := w) (base := base) o_L_drag_to d_L_splices
  have o_L_most_west := ok_L_most_west (P := P) (w := w) (base := base) o_L_minus o_L_times o_L_over d_L_most_west
  have o_L_west := ok_L_west (P := P) (w := w) (base := base) B o_L_minus o_L_times o_L_over o_L_all d_L_west
  have o_L_east := ok_L_east (P := P) (w := w) (base := base) o_L_plus o_L_minus o_L_times o_L_over o_L_all d_L_east
  have o_L_way := ok_L_way (P := P) (w := w) (base := base) B o_L_below o_L_east d_L_way
  have o_L_ways := ok_L_ways (P := P) (w := w) (base := base) B o_L_below o_L_splices o_L_most_west o_L_west o_L_way d_L_ways
  have o_is_whole := ok_is_whole (P := P) (w := w) (base := base) B d_is_whole
  have o_share_of := ok_share_of (P := P) (w := w) (base := base) d_share_of
  have o_is_fraction := ok_is_fraction (P := P) (w := w) (base := base) B o_is_whole o_share_of d_is_fraction
  have o_is_above_zero := ok_is_above_zero (P := P) (w := w) (base := base) o_is_fraction d_is_above_zero
  have o_is_small := ok_is_small (P := P) (w := w) (base := base) C d_is_small
  have o_is_length := ok_is_length (P := P) (w := w) (base := base) B C o_is_whole o_is_above_zero o_is_small d_is_length
  have o_is_from_zero := ok_is_from_zero (P := P) (w := w) (base := base) o_is_fraction d_is_from_zero
  have o_is_cable := ok_is_cable (P := P) (w := w) (base := base) B C o_is_length o_is_from_zero o_is_small d_is_cable
  have o_check_cable := ok_check_cable (P := P) (w := w) (base := base) o_is_cable d_check_cable
  have o_is_less := ok_is_less (P := P) (w := w) (base := base) d_is_less
  have o_low := ok_low (P := P) (w := w) (base := base) o_share_of B d_low
  have o_add := ok_add (P := P) (w := w) (base := base) o_low d_add
  have o_mul := ok_mul (P := P) (w := w) (base := base) o_low d_mul
  have o_all_drag := ok_all_drag (P := P) (w := w) (base := base) C o_add o_mul d_all_drag
  have o_splice_steps := ok_splice_steps (P := P) (w := w) (base := base) B d_splice_steps
  have o_less := ok_less (P := P) (w := w) (base := base) o_low d_less
  have o_drag_at := ok_drag_at (P := P) (w := w) (base := base) C o_add o_less o_mul o_is_less d_drag_at
  have o_div := ok_div (P := P) (w := w) (base := base) o_low d_div
  have o_east_drag := ok_east_drag (P := P) (w := w) (base := base) o_add o_less o_mul o_div d_east_drag
  have o_west_drag := ok_west_drag (P := P) (w := w) (base := base) o_is_above_zero o_less o_mul o_div d_west_drag
  have o_marks_of := ok_marks_of (P := P) (w := w) (base := base) C B o_less o_mul o_div o_is_less o_west_drag d_marks_of
  have o_ways_by := ok_ways_by (P := P) (w := w) (base := base) B o_is_less o_all_drag o_splice_steps o_drag_at o_east_drag o_marks_of d_ways_by
  have o_is_day := ok_is_day (P := P) (w := w) (base := base) B o_is_from_zero o_is_above_zero d_is_day
  have o_check_day := ok_check_day (P := P) (w := w) (base := base) o_is_day d_check_day
  have o_half := ok_half (P := P) (w := w) (base := base) o_low d_half
  have o_four_of := ok_four_of (P := P) (w := w) (base := base) o_add o_less o_half o_all_drag d_four_of
  have o_fault_in := ok_fault_in (P := P) (w := w) (base := base) C o_mul o_is_less d_fault_in
  have o_kind_by := ok_kind_by (P := P) (w := w) (base := base) C o_four_of o_fault_in d_kind_by
  have o_check_two := ok_check_two (P := P) (w := w) (base := base) o_check_day o_kind_by o_four_of d_check_two
  have o_all_ways := ok_all_ways (P := P) (w := w) (base := base) o_check_cable o_ways_by o_check_two d_all_ways
  have o_answer_of := ok_answer_of (P := P) (w := w) (base := base) B d_answer_of
  have o_stretches_left := ok_stretches_left (P := P) (w := w) (base := base) o_answer_of B d_stretches_left
  have o_needed_by := ok_needed_by (P := P) (w := w) (base := base) B d_needed_by
  have o_table_by := ok_table_by (P := P) (w := w) (base := base) B o_stretches_left o_needed_by d_table_by
  have o_lamp_needed := ok_lamp_needed (P := P) (w := w) (base := base) B o_all_ways o_table_by d_lamp_needed
  have o_L_answer := ok_L_answer (P := P) (w := w) (base := base) B d_L_answer
  have o_L_least := ok_L_least (P := P) (w := w) (base := base) B o_L_answer d_L_least 24
  exact ok_law B o_L_cell o_L_purse o_L_pick o_L_cable o_L_two o_L_day o_L_star o_L_ways o_lamp_needed o_L_least F
set_option maxHeartbeats 0 in
theorem all_mk {l : PySem.W.OpenLaw} {w : World} {K : PySem.W.Frag} {h : Heap} {mg : Str → Option Value} {fa f0 fz : Addr} (X : K.In h) (G : h.Ns mainGlobals mg) (hfa : mg "law" = some (.ref fa)) {oc0 kV0 dc0 pm0 cd0 ct0 : Value} {od0 an0 odz : Option Addr} {sl0 slz : Array (Option Value)} {nz : Nat} {tz0 tz1 tl tn : Tok}
    {oc1 kV1 dc1 pm1 cd1 ct1 : Value} {od1 an1 : Option Addr} {sl1 : Array (Option Value)} {f1 : Addr} {oc2 kV2 dc2 pm2 cd2 ct2 : Value} {od2 an2 : Option Addr} {sl2 : Array (Option Value)} {f2 : Addr} {oc3 kV3 dc3 pm3 cd3 ct3 : Value} {od3 an3 : Option Addr} {sl3 : Array (Option Value)} {f3 : Addr} {oc4 kV4 dc4 pm4 cd4 ct4 : Value} {od4 an4 : Option Addr} {sl4 : Array (Option Value)} {f4 : Addr} {oc5 kV5 dc5 pm5 cd5 ct5 : Value} {od5 an5 : Option Addr} {sl5 : Array (Option Value)} {f5 : Addr} {oc6 kV6 dc6 pm6 cd6 ct6 : Value} {od6 an6 : Option Addr} {sl6 : Array (Option Value)} {f6 : Addr} {oc7 kV7 dc7 pm7 cd7 ct7 : Value} {od7 an7 : Option Addr} {sl7 : Array (Option Value)} {f7 : Addr} {oc8 kV8 dc8 pm8 cd8 ct8 : Value} {od8 an8 : Option Addr} {sl8 : Array (Option Value)} {f8 : Addr} {oc9 kV9 dc9 pm9 cd9 ct9 : Value} {od9 an9 : Option Addr} {sl9 : Array (Option Value)} {f9 : Addr} {oc10 kV10 dc10 pm10 cd10 ct10 : Value} {od10 an10 : Option Addr} {sl10 : Array (Option Value)} {f10 : Addr} {oc11 kV11 dc11 pm11 cd11 ct11 : Value} {od11 an11 : Option Addr} {sl11 : Array (Option Value)} {f11 : Addr} {oc12 kV12 dc12 pm12 cd12 ct12 : Value} {od12 an12 : Option Addr} {sl12 : Array (Option Value)} {f12 : Addr} {oc13 kV13 dc13 pm13 cd13 ct13 : Value} {od13 an13 : Option Addr} {sl13 : Array (Option Value)} {f13 : Addr} {oc14 kV14 dc14 pm14 cd14 ct14 : Value} {od14 an14 : Option Addr} {sl14 : Array (Option Value)} {f14 : Addr} {oc15 kV15 dc15 pm15 cd15 ct15 : Value} {od15 an15 : Option Addr} {sl15 : Array (Option Value)} {f15 : Addr} {oc16 kV16 dc16 pm16 cd16 ct16 : Value} {od16 an16 : Option Addr} {sl16 : Array (Option Value)} {f16 : Addr} {oc17 kV17 dc17 pm17 cd17 ct17 : Value} {od17 an17 : Option Addr} {sl17 : Array (Option Value)} {f17 : Addr} {oc18 kV18 dc18 pm18 cd18 ct18 : Value} {od18 an18 : Option Addr} {sl18 : Array (Option Value)} {f18 : Addr} {oc19 kV19 dc19 pm19 cd19 ct19 : Value} {od19 an19 : Option Addr} {sl19 : Array (Option Value)} {f19 : Addr} {oc20 kV20 dc20 pm20 cd20 ct20 : Value} {od20 an20 : Option Addr} {sl20 : Array (Option Value)} {f20 : Addr} {oc21 kV21 dc21 pm21 cd21 ct21 : Value} {od21 an21 : Option Addr} {sl21 : Array (Option Value)} {f21 : Addr} {oc22 kV22 dc22 pm22 cd22 ct22 : Value} {od22 an22 : Option Addr} {sl22 : Array (Option Value)} {f22 : Addr} {oc23 kV23 dc23 pm23 cd23 ct23 : Value} {od23 an23 : Option Addr} {sl23 : Array (Option Value)} {f23 : Addr} {oc24 kV24 dc24 pm24 cd24 ct24 : Value} {od24 an24 : Option Addr} {sl24 : Array (Option Value)} {f24 : Addr} {oc25 kV25 dc25 pm25 cd25 ct25 : Value} {od25 an25 : Option Addr} {sl25 : Array (Option Value)} {f25 : Addr} {oc26 kV26 dc26 pm26 cd26 ct26 : Value} {od26 an26 : Option Addr} {sl26 : Array (Option Value)} {f26 : Addr} {oc27 kV27 dc27 pm27 cd27 ct27 : Value} {od27 an27 : Option Addr} {sl27 : Array (Option Value)} {f27 : Addr} {oc28 kV28 dc28 pm28 cd28 ct28 : Value} {od28 an28 : Option Addr} {sl28 : Array (Option Value)} {f28 : Addr} {oc29 kV29 dc29 pm29 cd29 ct29 : Value} {od29 an29 : Option Addr} {sl29 : Array (Option Value)} {f29 : Addr} {oc30 kV30 dc30 pm30 cd30 ct30 : Value} {od30 an30 : Option Addr} {sl30 : Array (Option Value)} {f30 : Addr} {oc31 kV31 dc31 pm31 cd31 ct31 : Value} {od31 an31 : Option Addr} {sl31 : Array (Option Value)} {f31 : Addr} {oc32 kV32 dc32 pm32 cd32 ct32 : Value} {od32 an32 : Option Addr} {sl32 : Array (Option Value)} {f32 : Addr} {oc33 kV33 dc33 pm33 cd33 ct33 : Value} {od33 an33 : Option Addr} {sl33 : Array (Option Value)} {f33 : Addr} {oc34 kV34 dc34 pm34 cd34 ct34 : Value} {od34 an34 : Option Addr} {sl34 : Array (Option Value)} {f34 : Addr} {oc35 kV35 dc35 pm35 cd35 ct35 : Value} {od35 an35 : Option Addr} {sl35 : Array (Option Value)} {f35 : Addr} {oc36 kV36 dc36 pm36 cd36 ct36 : Value} {od36 an36 : Option Addr} {sl36 : Array (Option Value)} {f36 : Addr} {oc37 kV37 dc37 pm37 cd37 ct37 : Value} {od37 an37 : Option Addr} {sl37 : Array (Option Value)} {f37 : Addr} {oc38 kV38 dc38 pm38 cd38 ct38 : Value} {od38 an38 : Option Addr} {sl38 : Array (Option Value)} {f38 : Addr} {oc39 kV39 dc39 pm39 cd39 ct39 : Value} {od39 an39 : Option Addr} {sl39 : Array (Option Value)} {f39 : Addr} {oc40 kV40 dc40 pm40 cd40 ct40 : Value} {od40 an40 : Option Addr} {sl40 : Array (Option Value)} {f40 : Addr} {oc41 kV41 dc41 pm41 cd41 ct41 : Value} {od41 an41 : Option Addr} {sl41 : Array (Option Value)} {f41 : Addr} {oc42 kV42 dc42 pm42 cd42 ct42 : Value} {od42 an42 : Option Addr} {sl42 : Array (Option Value)} {f42 : Addr} {oc43 kV43 dc43 pm43 cd43 ct43 : Value} {od43 an43 : Option Addr} {sl43 : Array (Option Value)} {f43 : Addr} {oc44 kV44 dc44 pm44 cd44 ct44 : Value} {od44 an44 : Option Addr} {sl44 : Array (Option Value)} {f44 : Addr} {oc45 kV45 dc45 pm45 cd45 ct45 : Value} {od45 an45 : Option Addr} {sl45 : Array (Option Value)} {f45 : Addr} {oc46 kV46 dc46 pm46 cd46 ct46 : Value} {od46 an46 : Option Addr} {sl46 : Array (Option Value)} {f46 : Addr} {oc47 kV47 dc47 pm47 cd47 ct47 : Value} {od47 an47 : Option Addr} {sl47 : Array (Option Value)} {f47 : Addr} {oc48 kV48 dc48 pm48 cd48 ct48 : Value} {od48 an48 : Option Addr} {sl48 : Array (Option Value)} {f48 : Addr} {oc49 kV49 dc49 pm49 cd49 ct49 : Value} {od49 an49 : Option Addr} {sl49 : Array (Option Value)} {f49 : Addr} {oc50 kV50 dc50 pm50 cd50 ct50 : Value} {od50 an50 : Option Addr} {sl50 : Array (Option Value)} {f50 : Addr} {oc51 kV51 dc51 pm51 cd51 ct51 : Value} {od51 an51 : Option Addr} {sl51 : Array (Option Value)} {f51 : Addr} {oc52 kV52 dc52 pm52 cd52 ct52 : Value} {od52 an52 : Option Addr} {sl52 : Array (Option Value)} {f52 : Addr} {oc53 kV53 dc53 pm53 cd53 ct53 : Value} {od53 an53 : Option Addr} {sl53 : Array (Option Value)} {f53 : Addr} {oc54 kV54 dc54 pm54 cd54 ct54 : Value} {od54 an54 : Option Addr} {sl54 : Array (Option Value)} {f54 : Addr} {oc55 kV55 dc55 pm55 cd55 ct55 : Value} {od55 an55 : Option Addr} {sl55 : Array (Option Value)} {f55 : Addr} {oc56 kV56 dc56 pm56 cd56 ct56 : Value} {od56 an56 : Option Addr} {sl56 : Array (Option Value)} {f56 : Addr} {oc57 kV57 dc57 pm57 cd57 ct57 : Value} {od57 an57 : Option Addr} {sl57 : Array (Option Value)} {f57 : Addr} {oc58 kV58 dc58 pm58 cd58 ct58 : Value} {od58 an58 : Option Addr} {sl58 : Array (Option Value)} {f58 : Addr} {oc59 kV59 dc59 pm59 cd59 ct59 : Value} {od59 an59 : Option Addr} {sl59 : Array (Option Value)} {f59 : Addr} {oc60 kV60 dc60 pm60 cd60 ct60 : Value} {od60 an60 : Option Addr} {sl60 : Array (Option Value)} {f60 : Addr} {oc61 kV61 dc61 pm61 cd61 ct61 : Value} {od61 an61 : Option Addr} {sl61 : Array (Option Value)} {f61 : Addr}
    (a0 : PySem.W.nsIn K mainGlobals "law" = some (some (.ref f0))) (l0 : K.lookup f0 = some ⟨oc0, od0, .func (PySem.W.fnOf "law" "law" (defArgs s_law) (defBody s_law) (defScope s_law) .none kV0 dc0 pm0 an0 cd0 ct0), sl0⟩) (c0 : PySem.W.codeIn K cd0 "law" = true) (k0 : PySem.W.keepIn K (.ref f0) = true)
    (a1 : PySem.W.nsIn K mainGlobals "_law_cell" = some (some (.ref f1))) (l1 : K.lookup f1 = some ⟨oc1, od1, .func (PySem.W.fnOf "_law_cell" "_law_cell" (defArgs s_L_cell) (defBody s_L_cell) (defScope s_L_cell) .none kV1 dc1 pm1 an1 cd1 ct1), sl1⟩) (c1 : PySem.W.codeIn K cd1 "_law_cell" = true) (k1 : PySem.W.keepIn K (.ref f1) = true)
    (a2 : PySem.W.nsIn K mainGlobals "_law_purse" = some (some (.ref f2))) (l2 : K.lookup f2 = some ⟨oc2, od2, .func (PySem.W.fnOf "_law_purse" "_law_purse" (defArgs s_L_purse) (defBody s_L_purse) (defScope s_L_purse) .none kV2 dc2 pm2 an2 cd2 ct2), sl2⟩) (c2 : PySem.W.codeIn K cd2 "_law_purse" = true) (k2 : PySem.W.keepIn K (.ref f2) = true)
    (a3 : PySem.W.nsIn K mainGlobals "_law_pick" = some (some (.ref f3))) (l3 : K.lookup f3 = some ⟨oc3, od3, .func (PySem.W.fnOf "_law_pick" "_law_pick" (defArgs s_L_pick) (defBody s_L_pick) (defScope s_L_pick) .none kV3 dc3 pm3 an3 cd3 ct3), sl3⟩) (c3 : PySem.W.codeIn K cd3 "_law_pick" = true) (k3 : PySem.W.keepIn K (.ref f3) = true)
    (a4 : PySem.W.nsIn K mainGlobals "_law_low" = some (some (.ref f4))) (l4 : K.lookup f4 = some ⟨oc4, od4, .func (PySem.W.fnOf "_law_low" "_law_low" (defArgs s_L_low) (defBody s_L_low) (defScope s_L_low) .none kV4 dc4 pm4 an4 cd4 ct4), sl4⟩) (c4 : PySem.W.codeIn K cd4 "_law_low" = true) (k4 : PySem.W.keepIn K (.ref f4) = true)
    (a5 : PySem.W.nsIn K mainGlobals "_law_cable" = some (some (.ref f5))) (l5 : K.lookup f5 = some ⟨oc5, od5, .func (PySem.W.fnOf "_law_cable" "_law_cable" (defArgs s_L_cable) (defBody s_L_cable) (defScope s_L_cable) .none kV5 dc5 pm5 an5 cd5 ct5), sl5⟩) (c5 : PySem.W.codeIn K cd5 "_law_cable" = true) (k5 : PySem.W.keepIn K (.ref f5) = true)
    (a6 : PySem.W.nsIn K mainGlobals "_law_two" = some (some (.ref f6))) (l6 : K.lookup f6 = some ⟨oc6, od6, .func (PySem.W.fnOf "_law_two" "_law_two" (defArgs s_L_two) (defBody s_L_two) (defScope s_L_two) .none kV6 dc6 pm6 an6 cd6 ct6), sl6⟩) (c6 : PySem.W.codeIn K cd6 "_law_two" = true) (k6 : PySem.W.keepIn K (.ref f6) = true)
    (a7 : PySem.W.nsIn K mainGlobals "_law_plus" = some (some (.ref f7))) (l7 : K.lookup f7 = some ⟨oc7, od7, .func (PySem.W.fnOf "_law_plus" "_law_plus" (defArgs s_L_plus) (defBody s_L_plus) (defScope s_L_plus) .none kV7 dc7 pm7 an7 cd7 ct7), sl7⟩) (c7 : PySem.W.codeIn K cd7 "_law_plus" = true) (k7 : PySem.W.keepIn K (.ref f7) = true)
    (a8 : PySem.W.nsIn K mainGlobals "_law_minus" = some (some (.ref f8))) (l8 : K.lookup f8 = some ⟨oc8, od8, .func (PySem.W.fnOf "_law_minus" "_law_minus" (defArgs s_L_minus) (defBody s_L_minus) (defScope s_L_minus) .none kV8 dc8 pm8 an8 cd8 ct8), sl8⟩) (c8 : PySem.W.codeIn K cd8 "_law_minus" = true) (k8 : PySem.W.keepIn K (.ref f8) = true)
    (a9 : PySem.W.nsIn K mainGlobals "_law_times" = some (some (.ref f9))) (l9 : K.lookup f9 = some ⟨oc9, od9, .func (PySem.W.fnOf "_law_times" "_law_times" (defArgs s_L_times) (defBody s_L_times) (defScope s_L_times) .none kV9 dc9 pm9 an9 cd9 ct9), sl9⟩) (c9 : PySem.W.codeIn K cd9 "_law_times" = true) (k9 : PySem.W.keepIn K (.ref f9) = true)
    (a10 : PySem.W.nsIn K mainGlobals "_law_over" = some (some (.ref f10))) (l10 : K.lookup f10 = some ⟨oc10, od10, .func (PySem.W.fnOf "_law_over" "_law_over" (defArgs s_L_over) (defBody s_L_over) (defScope s_L_over) .none kV10 dc10 pm10 an10 cd10 ct10), sl10⟩) (c10 : PySem.W.codeIn K cd10 "_law_over" = true) (k10 : PySem.W.keepIn K (.ref f10) = true)
    (a11 : PySem.W.nsIn K mainGlobals "_law_below" = some (some (.ref f11))) (l11 : K.lookup f11 = some ⟨oc11, od11, .func (PySem.W.fnOf "_law_below" "_law_below" (defArgs s_L_below) (defBody s_L_below) (defScope s_L_below) .none kV11 dc11 pm11 an11 cd11 ct11), sl11⟩) (c11 : PySem.W.codeIn K cd11 "_law_below" = true) (k11 : PySem.W.keepIn K (.ref f11) = true)
    (a12 : PySem.W.nsIn K mainGlobals "_law_drag_to" = some (some (.ref f12))) (l12 : K.lookup f12 = some ⟨oc12, od12, .func (PySem.W.fnOf "_law_drag_to" "_law_drag_to" (defArgs s_L_drag_to) (defBody s_L_drag_to) (defScope s_L_drag_to) .none kV12 dc12 pm12 an12 cd12 ct12), sl12⟩) (c12 : PySem.W.codeIn K cd12 "_law_drag_to" = true) (k12 : PySem.W.keepIn K (.ref f12) = true)
    (a13 : PySem.W.nsIn K mainGlobals "_law_all" = some (some (.ref f13))) (l13 : K.lookup f13 = some ⟨oc13, od13, .func (PySem.W.fnOf "_law_all" "_law_all" (defArgs s_L_all) (defBody s_L_all) (defScope s_L_all) .none kV13 dc13 pm13 an13 cd13 ct13), sl13⟩) (c13 : PySem.W.codeIn K cd13 "_law_all" = true) (k13 : PySem.W.keepIn K (.ref f13) = true)
    (a14 : PySem.W.nsIn K mainGlobals "_law_points" = some (some (.ref f14))) (l14 : K.lookup f14 = some ⟨oc14, od14, .func (PySem.W.fnOf "_law_points" "_law_points" (defArgs s_L_points) (defBody s_L_points) (defScope s_L_points) .none kV14 dc14 pm14 an14 cd14 ct14), sl14⟩) (c14 : PySem.W.codeIn K cd14 "_law_points" = true) (k14 : PySem.W.keepIn K (.ref f14) = true)
    (a15 : PySem.W.nsIn K mainGlobals "_law_steps_seen" = some (some (.ref f15))) (l15 : K.lookup f15 = some ⟨oc15, od15, .func (PySem.W.fnOf "_law_steps_seen" "_law_steps_seen" (defArgs s_L_steps_seen) (defBody s_L_steps_seen) (defScope s_L_steps_seen) .none kV15 dc15 pm15 an15 cd15 ct15), sl15⟩) (c15 : PySem.W.codeIn K cd15 "_law_steps_seen" = true) (k15 : PySem.W.keepIn K (.ref f15) = true)
    (a16 : PySem.W.nsIn K mainGlobals "_law_seen" = some (some (.ref f16))) (l16 : K.lookup f16 = some ⟨oc16, od16, .func (PySem.W.fnOf "_law_seen" "_law_seen" (defArgs s_L_seen) (defBody s_L_seen) (defScope s_L_seen) .none kV16 dc16 pm16 an16 cd16 ct16), sl16⟩) (c16 : PySem.W.codeIn K cd16 "_law_seen" = true) (k16 : PySem.W.keepIn K (.ref f16) = true)
    (a17 : PySem.W.nsIn K mainGlobals "_law_day" = some (some (.ref f17))) (l17 : K.lookup f17 = some ⟨oc17, od17, .func (PySem.W.fnOf "_law_day" "_law_day" (defArgs s_L_day) (defBody s_L_day) (defScope s_L_day) .none kV17 dc17 pm17 an17 cd17 ct17), sl17⟩) (c17 : PySem.W.codeIn K cd17 "_law_day" = true) (k17 : PySem.W.keepIn K (.ref f17) = true)
    (a18 : PySem.W.nsIn K mainGlobals "_law_star" = some (some (.ref f18))) (l18 : K.lookup f18 = some ⟨oc18, od18, .func (PySem.W.fnOf "_law_star" "_law_star" (defArgs s_L_star) (defBody s_L_star) (defScope s_L_star) .none kV18 dc18 pm18 an18 cd18 ct18), sl18⟩) (c18 : PySem.W.codeIn K cd18 "_law_star" = true) (k18 : PySem.W.keepIn K (.ref f18) = true)
    (a19 : PySem.W.nsIn K mainGlobals "_law_splices" = some (some (.ref f19))) (l19 : K.lookup f19 = some ⟨oc19, od19, .func (PySem.W.fnOf "_law_splices" "_law_splices" (defArgs s_L_splices) (defBody s_L_splices) (defScope s_L_splices) .none kV19 dc19 pm19 an19 cd19 ct19), sl19⟩) (c19 : PySem.W.codeIn K cd19 "_law_splices" = true) (k19 : PySem.W.keepIn K (.ref f19) = true)
    (a20 : PySem.W.nsIn K mainGlobals "_law_most_west" = some (some (.ref f20))) (l20 : K.lookup f20 = some ⟨oc20, od20, .func (PySem.W.fnOf "_law_most_west" "_law_most_west" (defArgs s_L_most_west) (defBody s_L_most_west) (defScope s_L_most_west) .none kV20 dc20 pm20 an20 cd20 ct20), sl20⟩) (c20 : PySem.W.codeIn K cd20 "_law_most_west" = true) (k20 : PySem.W.keepIn K (.ref f20) = true)
    (a21 : PySem.W.nsIn K mainGlobals "_law_west" = some (some (.ref f21))) (l21 : K.lookup f21 = some ⟨oc21, od21, .func (PySem.W.fnOf "_law_west" "_law_west" (defArgs s_L_west) (defBody s_L_west) (defScope s_L_west) .none kV21 dc21 pm21 an21 cd21 ct21), sl21⟩) (c21 : PySem.W.codeIn K cd21 "_law_west" = true) (k21 : PySem.W.keepIn K (.ref f21) = true)
    (a22 : PySem.W.nsIn K mainGlobals "_law_east" = some (some (.ref f22))) (l22 : K.lookup f22 = some ⟨oc22, od22, .func (PySem.W.fnOf "_law_east" "_law_east" (defArgs s_L_east) (defBody s_L_east) (defScope s_L_east) .none kV22 dc22 pm22 an22 cd22 ct22), sl22⟩) (c22 : PySem.W.codeIn K cd22 "_law_east" = true) (k22 : PySem.W.keepIn K (.ref f22) = true)
    (a23 : PySem.W.nsIn K mainGlobals "_law_way" = some (some (.ref f23))) (l23 : K.lookup f23 = some ⟨oc23, od23, .func (PySem.W.fnOf "_law_way" "_law_way" (defArgs s_L_way) (defBody s_L_way) (defScope s_L_way) .none kV23 dc23 pm23 an23 cd23 ct23), sl23⟩) (c23 : PySem.W.codeIn K cd23 "_law_way" = true) (k23 : PySem.W.keepIn K (.ref f23) = true)
    (a24 : PySem.W.nsIn K mainGlobals "_law_ways" = some (some (.ref f24))) (l24 : K.lookup f24 = some ⟨oc24, od24, .func (PySem.W.fnOf "_law_ways" "_law_ways" (defArgs s_L_ways) (defBody s_L_ways) (defScope s_L_ways) .none kV24 dc24 pm24 an24 cd24 ct24), sl24⟩) (c24 : PySem.W.codeIn K cd24 "_law_ways" = true) (k24 : PySem.W.keepIn K (.ref f24) = true)
    (a25 : PySem.W.nsIn K mainGlobals "is_whole" = some (some (.ref f25))) (l25 : K.lookup f25 = some ⟨oc25, od25, .func (PySem.W.fnOf "is_whole" "is_whole" (defArgs s_is_whole) (defBody s_is_whole) (defScope s_is_whole) .none kV25 dc25 pm25 an25 cd25 ct25), sl25⟩) (c25 : PySem.W.codeIn K cd25 "is_whole" = true) (k25 : PySem.W.keepIn K (.ref f25) = true)
    (a26 : PySem.W.nsIn K mainGlobals "share_of" = some (some (.ref f26))) (l26 : K.lookup f26 = some ⟨oc26, od26, .func (PySem.W.fnOf "share_of" "share_of" (defArgs s_share_of) (defBody s_share_of) (defScope s_share_of) .none kV26 dc26 pm26 an26 cd26 ct26), sl26⟩) (c26 : PySem.W.codeIn K cd26 "share_of" = true) (k26 : PySem.W.keepIn K (.ref f26) = true)
    (a27 : PySem.W.nsIn K mainGlobals "is_fraction" = some (some (.ref f27))) (l27 : K.lookup f27 = some ⟨oc27, od27, .func (PySem.W.fnOf "is_fraction" "is_fraction" (defArgs s_is_fraction) (defBody s_is_fraction) (defScope s_is_fraction) .none kV27 dc27 pm27 an27 cd27 ct27), sl27⟩) (c27 : PySem.W.codeIn K cd27 "is_fraction" = true) (k27 : PySem.W.keepIn K (.ref f27) = true)
    (a28 : PySem.W.nsIn K mainGlobals "is_above_zero" = some (some (.ref f28))) (l28 : K.lookup f28 = some ⟨oc28, od28, .func (PySem.W.fnOf "is_above_zero" "is_above_zero" (defArgs s_is_above_zero) (defBody s_is_above_zero) (defScope s_is_above_zero) .none kV28 dc28 pm28 an28 cd28 ct28), sl28⟩) (c28 : PySem.W.codeIn K cd28 "is_above_zero" = true) (k28 : PySem.W.keepIn K (.ref f28) = true)
    (a29 : PySem.W.nsIn K mainGlobals "is_small" = some (some (.ref f29))) (l29 : K.lookup f29 = some ⟨oc29, od29, .func (PySem.W.fnOf "is_small" "is_small" (defArgs s_is_small) (defBody s_is_small) (defScope s_is_small) .none kV29 dc29 pm29 an29 cd29 ct29), sl29⟩) (c29 : PySem.W.codeIn K cd29 "is_small" = true) (k29 : PySem.W.keepIn K (.ref f29) = true)
    (a30 : PySem.W.nsIn K mainGlobals "is_length" = some (some (.ref f30))) (l30 : K.lookup f30 = some ⟨oc30, od30, .func (PySem.W.fnOf "is_length" "is_length" (defArgs s_is_length) (defBody s_is_length) (defScope s_is_length) .none kV30 dc30 pm30 an30 cd30 ct30), sl30⟩) (c30 : PySem.W.codeIn K cd30 "is_length" = true) (k30 : PySem.W.keepIn K (.ref f30) = true)
    (a31 : PySem.W.nsIn K mainGlobals "is_from_zero" = some (some (.ref f31))) (l31 : K.lookup f31 = some ⟨oc31, od31, .func (PySem.W.fnOf "is_from_zero" "is_from_zero" (defArgs s_is_from_zero) (defBody s_is_from_zero) (defScope s_is_from_zero) .none kV31 dc31 pm31 an31 cd31 ct31), sl31⟩) (c31 : PySem.W.codeIn K cd31 "is_from_zero" = true) (k31 : PySem.W.keepIn K (.ref f31) = true)
    (a32 : PySem.W.nsIn K mainGlobals "is_cable" = some (some (.ref f32))) (l32 : K.lookup f32 = some ⟨oc32, od32, .func (PySem.W.fnOf "is_cable" "is_cable" (defArgs s_is_cable) (defBody s_is_cable) (defScope s_is_cable) .none kV32 dc32 pm32 an32 cd32 ct32), sl32⟩) (c32 : PySem.W.codeIn K cd32 "is_cable" = true) (k32 : PySem.W.keepIn K (.ref f32) = true)
    (a33 : PySem.W.nsIn K mainGlobals "check_cable" = some (some (.ref f33))) (l33 : K.lookup f33 = some ⟨oc33, od33, .func (PySem.W.fnOf "check_cable" "check_cable" (defArgs s_check_cable) (defBody s_check_cable) (defScope s_check_cable) .none kV33 dc33 pm33 an33 cd33 ct33), sl33⟩) (c33 : PySem.W.codeIn K cd33 "check_cable" = true) (k33 : PySem.W.keepIn K (.ref f33) = true)
    (a34 : PySem.W.nsIn K mainGlobals "is_less" = some (some (.ref f34))) (l34 : K.lookup f34 = some ⟨oc34, od34, .func (PySem.W.fnOf "is_less" "is_less" (defArgs s_is_less) (defBody s_is_less) (defScope s_is_less) .none kV34 dc34 pm34 an34 cd34 ct34), sl34⟩) (c34 : PySem.W.codeIn K cd34 "is_less" = true) (k34 : PySem.W.keepIn K (.ref f34) = true)
    (a35 : PySem.W.nsIn K mainGlobals "low" = some (some (.ref f35))) (l35 : K.lookup f35 = some ⟨oc35, od35, .func (PySem.W.fnOf "low" "low" (defArgs s_low) (defBody s_low) (defScope s_low) .none kV35 dc35 pm35 an35 cd35 ct35), sl35⟩) (c35 : PySem.W.codeIn K cd35 "low" = true) (k35 : PySem.W.keepIn K (.ref f35) = true)
    (a36 : PySem.W.nsIn K mainGlobals "add" = some (some (.ref f36))) (l36 : K.lookup f36 = some ⟨oc36, od36, .func (PySem.W.fnOf "add" "add" (defArgs s_add) (defBody s_add) (defScope s_add) .none kV36 dc36 pm36 an36 cd36 ct36), sl36⟩) (c36 : PySem.W.codeIn K cd36 "add" = true) (k36 : PySem.W.keepIn K (.ref f36) = true)
    (a37 : PySem.W.nsIn K mainGlobals "mul" = some (some (.ref f37))) (l37 : K.lookup f37 = some ⟨oc37, od37, .func (PySem.W.fnOf "mul" "mul" (defArgs s_mul) (defBody s_mul) (defScope s_mul) .none kV37 dc37 pm37 an37 cd37 ct37), sl37⟩) (c37 : PySem.W.codeIn K cd37 "mul" = true) (k37 : PySem.W.keepIn K (.ref f37) = true)
    (a38 : PySem.W.nsIn K mainGlobals "all_drag" = some (some (.ref f38))) (l38 : K.lookup f38 = some ⟨oc38, od38, .func (PySem.W.fnOf "all_drag" "all_drag" (defArgs s_all_drag) (defBody s_all_drag) (defScope s_all_drag) .none kV38 dc38 pm38 an38 cd38 ct38), sl38⟩) (c38 : PySem.W.codeIn K cd38 "all_drag" = true) (k38 : PySem.W.keepIn K (.ref f38) = true)
    (a39 : PySem.W.nsIn K mainGlobals "splice_steps" = some (some (.ref f39))) (l39 : K.lookup f39 = some ⟨oc39, od39, .func (PySem.W.fnOf "splice_steps" "splice_steps" (defArgs s_splice_steps) (defBody s_splice_steps) (defScope s_splice_steps) .none kV39 dc39 pm39 an39 cd39 ct39), sl39⟩) (c39 : PySem.W.codeIn K cd39 "splice_steps" = true) (k39 : PySem.W.keepIn K (.ref f39) = true)
    (a40 : PySem.W.nsIn K mainGlobals "less" = some (some (.ref f40))) (l40 : K.lookup f40 = some ⟨oc40, od40, .func (PySem.W.fnOf "less" "less" (defArgs s_less) (defBody s_less) (defScope s_less) .none kV40 dc40 pm40 an40 cd40 ct40), sl40⟩) (c40 : PySem.W.codeIn K cd40 "less" = true) (k40 : PySem.W.keepIn K (.ref f40) = true)
    (a41 : PySem.W.nsIn K mainGlobals "drag_at" = some (some (.ref f41))) (l41 : K.lookup f41 = some ⟨oc41, od41, .func (PySem.W.fnOf "drag_at" "drag_at" (defArgs s_drag_at) (defBody s_drag_at) (defScope s_drag_at) .none kV41 dc41 pm41 an41 cd41 ct41), sl41⟩) (c41 : PySem.W.codeIn K cd41 "drag_at" = true) (k41 : PySem.W.keepIn K (.ref f41) = true)
    (a42 : PySem.W.nsIn K mainGlobals "div" = some (some (.ref f42))) (l42 : K.lookup f42 = some ⟨oc42, od42, .func (PySem.W.fnOf "div" "div" (defArgs s_div) (defBody s_div) (defScope s_div) .none kV42 dc42 pm42 an42 cd42 ct42), sl42⟩) (c42 : PySem.W.codeIn K cd42 "div" = true) (k42 : PySem.W.keepIn K (.ref f42) = true)
    (a43 : PySem.W.nsIn K mainGlobals "east_drag" = some (some (.ref f43))) (l43 : K.lookup f43 = some ⟨oc43, od43, .func (PySem.W.fnOf "east_drag" "east_drag" (defArgs s_east_drag) (defBody s_east_drag) (defScope s_east_drag) .none kV43 dc43 pm43 an43 cd43 ct43), sl43⟩) (c43 : PySem.W.codeIn K cd43 "east_drag" = true) (k43 : PySem.W.keepIn K (.ref f43) = true)
    (a44 : PySem.W.nsIn K mainGlobals "west_drag" = some (some (.ref f44))) (l44 : K.lookup f44 = some ⟨oc44, od44, .func (PySem.W.fnOf "west_drag" "west_drag" (defArgs s_west_drag) (defBody s_west_drag) (defScope s_west_drag) .none kV44 dc44 pm44 an44 cd44 ct44), sl44⟩) (c44 : PySem.W.codeIn K cd44 "west_drag" = true) (k44 : PySem.W.keepIn K (.ref f44) = true)
    (a45 : PySem.W.nsIn K mainGlobals "marks_of" = some (some (.ref f45))) (l45 : K.lookup f45 = some ⟨oc45, od45, .func (PySem.W.fnOf "marks_of" "marks_of" (defArgs s_marks_of) (defBody s_marks_of) (defScope s_marks_of) .none kV45 dc45 pm45 an45 cd45 ct45), sl45⟩) (c45 : PySem.W.codeIn K cd45 "marks_of" = true) (k45 : PySem.W.keepIn K (.ref f45) = true)
    (a46 : PySem.W.nsIn K mainGlobals "ways_by" = some (some (.ref f46))) (l46 : K.lookup f46 = some ⟨oc46, od46, .func (PySem.W.fnOf "ways_by" "ways_by" (defArgs s_ways_by) (defBody s_ways_by) (defScope s_ways_by) .none kV46 dc46 pm46 an46 cd46 ct46), sl46⟩) (c46 : PySem.W.codeIn K cd46 "ways_by" = true) (k46 : PySem.W.keepIn K (.ref f46) = true)
    (a47 : PySem.W.nsIn K mainGlobals "is_day" = some (some (.ref f47))) (l47 : K.lookup f47 = some ⟨oc47, od47, .func (PySem.W.fnOf "is_day" "is_day" (defArgs s_is_day) (defBody s_is_day) (defScope s_is_day) .none kV47 dc47 pm47 an47 cd47 ct47), sl47⟩) (c47 : PySem.W.codeIn K cd47 "is_day" = true) (k47 : PySem.W.keepIn K (.ref f47) = true)
    (a48 : PySem.W.nsIn K mainGlobals "check_day" = some (some (.ref f48))) (l48 : K.lookup f48 = some ⟨oc48, od48, .func (PySem.W.fnOf "check_day" "check_day" (defArgs s_check_day) (defBody s_check_day) (defScope s_check_day) .none kV48 dc48 pm48 an48 cd48 ct48), sl48⟩) (c48 : PySem.W.codeIn K cd48 "check_day" = true) (k48 : PySem.W.keepIn K (.ref f48) = true)
    (a49 : PySem.W.nsIn K mainGlobals "half" = some (some (.ref f49))) (l49 : K.lookup f49 = some ⟨oc49, od49, .func (PySem.W.fnOf "half" "half" (defArgs s_half) (defBody s_half) (defScope s_half) .none kV49 dc49 pm49 an49 cd49 ct49), sl49⟩) (c49 : PySem.W.codeIn K cd49 "half" = true) (k49 : PySem.W.keepIn K (.ref f49) = true)
    (a50 : PySem.W.nsIn K mainGlobals "four_of" = some (some (.ref f50))) (l50 : K.lookup f50 = some ⟨oc50, od50, .func (PySem.W.fnOf "four_of" "four_of" (defArgs s_four_of) (defBody s_four_of) (defScope s_four_of) .none kV50 dc50 pm50 an50 cd50 ct50), sl50⟩) (c50 : PySem.W.codeIn K cd50 "four_of" = true) (k50 : PySem.W.keepIn K (.ref f50) = true)
    (a51 : PySem.W.nsIn K mainGlobals "fault_in" = some (some (.ref f51))) (l51 : K.lookup f51 = some ⟨oc51, od51, .func (PySem.W.fnOf "fault_in" "fault_in" (defArgs s_fault_in) (defBody s_fault_in) (defScope s_fault_in) .none kV51 dc51 pm51 an51 cd51 ct51), sl51⟩) (c51 : PySem.W.codeIn K cd51 "fault_in" = true) (k51 : PySem.W.keepIn K (.ref f51) = true)
    (a52 : PySem.W.nsIn K mainGlobals "kind_by" = some (some (.ref f52))) (l52 : K.lookup f52 = some ⟨oc52, od52, .func (PySem.W.fnOf "kind_by" "kind_by" (defArgs s_kind_by) (defBody s_kind_by) (defScope s_kind_by) .none kV52 dc52 pm52 an52 cd52 ct52), sl52⟩) (c52 : PySem.W.codeIn K cd52 "kind_by" = true) (k52 : PySem.W.keepIn K (.ref f52) = true)
    (a53 : PySem.W.nsIn K mainGlobals "check_two" = some (some (.ref f53))) (l53 : K.lookup f53 = some ⟨oc53, od53, .func (PySem.W.fnOf "check_two" "check_two" (defArgs s_check_two) (defBody s_check_two) (defScope s_check_two) .none kV53 dc53 pm53 an53 cd53 ct53), sl53⟩) (c53 : PySem.W.codeIn K cd53 "check_two" = true) (k53 : PySem.W.keepIn K (.ref f53) = true)
    (a54 : PySem.W.nsIn K mainGlobals "all_ways" = some (some (.ref f54))) (l54 : K.lookup f54 = some ⟨oc54, od54, .func (PySem.W.fnOf "all_ways" "all_ways" (defArgs s_all_ways) (defBody s_all_ways) (defScope s_all_ways) .none kV54 dc54 pm54 an54 cd54 ct54), sl54⟩) (c54 : PySem.W.codeIn K cd54 "all_ways" = true) (k54 : PySem.W.keepIn K (.ref f54) = true)
    (a55 : PySem.W.nsIn K mainGlobals "answer_of" = some (some (.ref f55))) (l55 : K.lookup f55 = some ⟨oc55, od55, .func (PySem.W.fnOf "answer_of" "answer_of" (defArgs s_answer_of) (defBody s_answer_of) (defScope s_answer_of) .none kV55 dc55 pm55 an55 cd55 ct55), sl55⟩) (c55 : PySem.W.codeIn K cd55 "answer_of" = true) (k55 : PySem.W.keepIn K (.ref f55) = true)
    (a56 : PySem.W.nsIn K mainGlobals "stretches_left" = some (some (.ref f56))) (l56 : K.lookup f56 = some ⟨oc56, od56, .func (PySem.W.fnOf "stretches_left" "stretches_left" (defArgs s_stretches_left) (defBody s_stretches_left) (defScope s_stretches_left) .none kV56 dc56 pm56 an56 cd56 ct56), sl56⟩) (c56 : PySem.W.codeIn K cd56 "stretches_left" = true) (k56 : PySem.W.keepIn K (.ref f56) = true)
    (a57 : PySem.W.nsIn K mainGlobals "needed_by" = some (some (.ref f57))) (l57 : K.lookup f57 = some ⟨oc57, od57, .func (PySem.W.fnOf "needed_by" "needed_by" (defArgs s_needed_by) (defBody s_needed_by) (defScope s_needed_by) .none kV57 dc57 pm57 an57 cd57 ct57), sl57⟩) (c57 : PySem.W.codeIn K cd57 "needed_by" = true) (k57 : PySem.W.keepIn K (.ref f57) = true)
    (a58 : PySem.W.nsIn K mainGlobals "table_by" = some (some (.ref f58))) (l58 : K.lookup f58 = some ⟨oc58, od58, .func (PySem.W.fnOf "table_by" "table_by" (defArgs s_table_by) (defBody s_table_by) (defScope s_table_by) .none kV58 dc58 pm58 an58 cd58 ct58), sl58⟩) (c58 : PySem.W.codeIn K cd58 "table_by" = true) (k58 : PySem.W.keepIn K (.ref f58) = true)
    (a59 : PySem.W.nsIn K mainGlobals "lamp_needed" = some (some (.ref f59))) (l59 : K.lookup f59 = some ⟨oc59, od59, .func (PySem.W.fnOf "lamp_needed" "lamp_needed" (defArgs s_lamp_needed) (defBody s_lamp_needed) (defScope s_lamp_needed) .none kV59 dc59 pm59 an59 cd59 ct59), sl59⟩) (c59 : PySem.W.codeIn K cd59 "lamp_needed" = true) (k59 : PySem.W.keepIn K (.ref f59) = true)
    (a60 : PySem.W.nsIn K mainGlobals "_law_answer" = some (some (.ref f60))) (l60 : K.lookup f60 = some ⟨oc60, od60, .func (PySem.W.fnOf "_law_answer" "_law_answer" (defArgs s_L_answer) (defBody s_L_answer) (defScope s_L_answer) .none kV60 dc60 pm60 an60 cd60 ct60), sl60⟩) (c60 : PySem.W.codeIn K cd60 "_law_answer" = true) (k60 : PySem.W.keepIn K (.ref f60) = true)
    (a61 : PySem.W.nsIn K mainGlobals "_law_least" = some (some (.ref f61))) (l61 : K.lookup f61 = some ⟨oc61, od61, .func (PySem.W.fnOf "_law_least" "_law_least" (defArgs s_L_least) (defBody s_L_least) (defScope s_L_least) .none kV61 dc61 pm61 an61 cd61 ct61), sl61⟩) (c61 : PySem.W.codeIn K cd61 "_law_least" = true) (k61 : PySem.W.keepIn K (.ref f61) = true)
    (az : PySem.W.nsIn K mainGlobals "ZERO" = some (some (.ref fz))) (lz : K.lookup fz = some ⟨.type "tuple", odz, .seq #[.int 0 tz0, .int 1 tz1] nz, slz⟩) (al : PySem.W.nsIn K mainGlobals "MOST_LENGTHS" = some (some (.int 12 tl))) (an : PySem.W.nsIn K mainGlobals "MOST_NUMBER" = some (some (.int 999 tn)))
    (z_isinstance : PySem.W.nsIn K mainGlobals "isinstance" = some none) (z_int : PySem.W.nsIn K mainGlobals "int" = some none) (z_bool : PySem.W.nsIn K mainGlobals "bool" = some none) (z_tuple : PySem.W.nsIn K mainGlobals "tuple" = some none) (z_abs : PySem.W.nsIn K mainGlobals "abs" = some none) (z_len : PySem.W.nsIn K mainGlobals "len" = some none) (z_all : PySem.W.nsIn K mainGlobals "all" = some none) (z_range : PySem.W.nsIn K mainGlobals "range" = some none) (z_list : PySem.W.nsIn K mainGlobals "list" = some none) (z_sorted : PySem.W.nsIn K mainGlobals "sorted" = some none) (z_max : PySem.W.nsIn K mainGlobals "max" = some none) (z_min : PySem.W.nsIn K mainGlobals "min" = some none) (z_sum : PySem.W.nsIn K mainGlobals "sum" = some none) :
    ∃ fd : FuncData, (∀ (s : Shared) (v : Value), BindsTo s fd ⟨[v], []⟩ [("_law_script", v)]) ∧ ∀ base : Heap, K.In base → base.Ns mainGlobals mg → FnOk l.prog w K mg base CX0 27 fa fd ["_law_script"] (PF K R_law) := by
  have e := hfa.symm.trans (PySem.W.mg_of X G a0)
  cases e
  refine ⟨_, fun s v => .of_eq (fd := PySem.W.fnOf "law" "law" (defArgs s_law) (defBody s_law) (defScope s_law) .none kV0 dc0 pm0 an0 cd0 ct0) rfl, fun base _ _ => fn_all ⟨PySem.W.mg_none_of X G z_isinstance, PySem.W.mg_none_of X G z_int, PySem.W.mg_none_of X G z_bool, PySem.W.mg_none_of X G z_tuple, PySem.W.mg_none_of X G z_abs, PySem.W.mg_none_of X G z_len, PySem.W.mg_none_of X G z_all, PySem.W.mg_none_of X G z_range, PySem.W.mg_none_of X G z_list, PySem.W.mg_none_of X G z_sorted, PySem.W.mg_none_of X G z_max, PySem.W.mg_none_of X G z_min, PySem.W.mg_none_of X G z_sum⟩ ⟨⟨fz, PySem.W.mg_of X G az, fun H => ⟨fz, [.int 0, .int 1], rfl, .inr ⟨_, _, nz, lz, rfl, rfl, (show 2 ≤ sizeLine by decide), .cons ⟨tz0, rfl⟩ (.cons ⟨tz1, rfl⟩ .nil)⟩, _, _, rfl, rfl, _, _, rfl, rfl, rfl⟩⟩, ⟨tl, PySem.W.mg_of X G al⟩, ⟨tn, PySem.W.mg_of X G an⟩⟩
    (df_mk X G a1 l1 c1 k1 fun _ _ _ _ _ _ us hl => match us, hl with | [_, _], _ => rfl)
    (df_mk X G a2 l2 c2 k2 fun _ _ _ _ _ _ us hl => match us, hl with | [_], _ => rfl)
    (df_mk X G a3 l3 c3 k3 fun _ _ _ _ _ _ us hl => match us, hl with | [_, _], _ => rfl)
    (df_mk X G a4 l4 c4 k4 fun _ _ _ _ _ _ us hl => match us, hl with | [_, _], _ => rfl)
    (df_mk X G a5 l5 c5 k5 fun _ _ _ _ _ _ us hl => match us, hl with | [_, _], _ => rfl)
    (df_mk X G a6 l6 c6 k6 fun _ _ _ _ _ _ us hl => match us, hl with | [_, _], _ => rfl)
    (df_mk X G a7 l7 c7 k7 fun _ _ _ _ _ _ us hl => match us, hl with | [_, _], _ => rfl)
    (df_mk X G a8 l8 c8 k8 fun _ _ _ _ _ _ us hl => match us, hl with | [_, _], _ => rfl)
    (df_mk X G a9 l9 c9 k9 fun _ _ _ _ _ _ us hl => match us, hl with | [_, _], _ => rfl)
    (df_mk X G a10 l10 c10 k10 fun _ _ _ _ _ _ us hl => match us, hl with | [_, _], _ => rfl)
    (df_mk X G a11 l11 c11 k11 fun _ _ _ _ _ _ us hl => match us, hl with | [_, _], _ => rfl)
    (df_mk X G a12 l12 c12 k12 fun _ _ _ _ _ _ us hl => match us, hl with | [_, _], _ => rfl)
    (df_mk X G a13 l13 c13 k13 fun _ _ _ _ _ _ us hl => match us, hl with | [_], _ => rfl)
    (df_mk X G a14 l14 c14 k14 fun _ _ _ _ _ _ us hl => match us, hl with | [_, _, _], _ => rfl)
    (df_mk X G a15 l15 c15 k15 fun _ _ _ _ _ _ us hl => match us, hl with | [_, _, _], _ => rfl)
    (df_mk X G a16 l16 c16 k16 fun _ _ _ _ _ _ us hl => match us, hl with | [_, _, _, _], _ => rfl)
    (df_mk X G a17 l17 c17 k17 fun _ _ _ _ _ _ us hl => match us, hl with | [_, _], _ => rfl)
    (df_mk X G a18 l18 c18 k18 fun _ _ _ _ _ _ us hl => match us, hl with | [_, _], _ => rfl)
    (df_mk X G a19 l19 c19 k19 fun _ _ _ _ _ _ us hl => match us, hl with | [_], _ => rfl)
    (df_mk X G a20 l20 c20 k20 fun _ _ _ _ _ _ us hl => match us, hl with | [_, _], _ => rfl)
    (df_mk X G a21 l21 c21 k21 fun _ _ _ _ _ _ us hl => match us, hl with | [_, _, _], _ => rfl)
    (df_mk X G a22 l22 c22 k22 fun _ _ _ _ _ _ us hl => match us, hl with | [_, _, _], _ => rfl)
    (df_mk X G a23 l23 c23 k23 fun _ _ _ _ _ _ us hl => match us, hl with | [_, _, _, _], _ => rfl)
    (df_mk X G a24 l24 c24 k24 fun _ _ _ _ _ _ us hl => match us, hl with | [_, _], _ => rfl)
    (df_mk X G a25 l25 c25 k25 fun _ _ _ _ _ _ us hl => match us, hl with | [_], _ => rfl)
    (df_mk X G a26 l26 c26 k26 fun _ _ _ _ _ _ us hl => match us, hl with | [_, _], _ => rfl)
    (df_mk X G a27 l27 c27 k27 fun _ _ _ _ _ _ us hl => match us, hl with | [_], _ => rfl)
    (df_mk X G a28 l28 c28 k28 fun _ _ _ _ _ _ us hl => match us, hl with | [_], _ => rfl)
    (df_mk X G a29 l29 c29 k29 fun _ _ _ _ _ _ us hl => match us, hl with | [_], _ => rfl)
    (df_mk X G a30 l30 c30 k30 fun _ _ _ _ _ _ us hl => match us, hl with | [_], _ => rfl)
    (df_mk X G a31 l31 c31 k31 fun _ _ _ _ _ _ us hl => match us, hl with | [_], _ => rfl)
    (df_mk X G a32 l32 c32 k32 fun _ _ _ _ _ _ us hl => match us, hl with | [_], _ => rfl)
    (df_mk X G a33 l33 c33 k33 fun _ _ _ _ _ _ us hl => match us, hl with | [_], _ => rfl)
    (df_mk X G a34 l34 c34 k34 fun _ _ _ _ _ _ us hl => match us, hl with | [_, _], _ => rfl)
    (df_mk X G a35 l35 c35 k35 fun _ _ _ _ _ _ us hl => match us, hl with | [_, _], _ => rfl)
    (df_mk X G a36 l36 c36 k36 fun _ _ _ _ _ _ us hl => match us, hl with | [_, _], _ => rfl)
    (df_mk X G a37 l37 c37 k37 fun _ _ _ _ _ _ us hl => match us, hl with | [_, _], _ => rfl)
    (df_mk X G a38 l38 c38 k38 fun _ _ _ _ _ _ us hl => match us, hl with | [_], _ => rfl)
    (df_mk X G a39 l39 c39 k39 fun _ _ _ _ _ _ us hl => match us, hl with | [_], _ => rfl)
    (df_mk X G a40 l40 c40 k40 fun _ _ _ _ _ _ us hl => match us, hl with | [_, _], _ => rfl)
    (df_mk X G a41 l41 c41 k41 fun _ _ _ _ _ _ us hl => match us, hl with | [_, _], _ => rfl)
    (df_mk X G a42 l42 c42 k42 fun _ _ _ _ _ _ us hl => match us, hl with | [_, _], _ => rfl)
    (df_mk X G a43 l43 c43 k43 fun _ _ _ _ _ _ us hl => match us, hl with | [_, _, _], _ => rfl)
    (df_mk X G a44 l44 c44 k44 fun _ _ _ _ _ _ us hl => match us, hl with | [_, _, _], _ => rfl)
    (df_mk X G a45 l45 c45 k45 fun _ _ _ _ _ _ us hl => match us, hl with | [_, _, _], _ => rfl)
    (df_mk X G a46 l46 c46 k46 fun _ _ _ _ _ _ us hl => match us, hl with | [_, _], _ => rfl)
    (df_mk X G a47 l47 c47 k47 fun _ _ _ _ _ _ us hl => match us, hl with | [_], _ => rfl)
    (df_mk X G a48 l48 c48 k48 fun _ _ _ _ _ _ us hl => match us, hl with | [_], _ => rfl)
    (df_mk X G a49 l49 c49 k49 fun _ _ _ _ _ _ us hl => match us, hl with | [_], _ => rfl)
    (df_mk X G a50 l50 c50 k50 fun _ _ _ _ _ _ us hl => match us, hl with | [_, _], _ => rfl)
    (df_mk X G a51 l51 c51 k51 fun _ _ _ _ _ _ us hl => match us, hl with | [_], _ => rfl)
    (df_mk X G a52 l52 c52 k52 fun _ _ _ _ _ _ us hl => match us, hl with | [_, _], _ => rfl)
    (df_mk X G a53 l53 c53 k53 fun _ _ _ _ _ _ us hl => match us, hl with | [_, _], _ => rfl)
    (df_mk X G a54 l54 c54 k54 fun _ _ _ _ _ _ us hl => match us, hl with | [_, _], _ => rfl)
    (df_mk X G a55 l55 c55 k55 fun _ _ _ _ _ _ us hl => match us, hl with | [_, _], _ => rfl)
    (df_mk X G a56 l56 c56 k56 fun _ _ _ _ _ _ us hl => match us, hl with | [_, _, _, _], _ => rfl)
    (df_mk X G a57 l57 c57 k57 fun _ _ _ _ _ _ us hl => match us, hl with | [_, _], _ => rfl)
    (df_mk X G a58 l58 c58 k58 fun _ _ _ _ _ _ us hl => match us, hl with | [_, _], _ => rfl)
    (df_mk X G a59 l59 c59 k59 fun _ _ _ _ _ _ us hl => match us, hl with | [_, _], _ => rfl)
    (df_mk X G a60 l60 c60 k60 fun _ _ _ _ _ _ us hl => match us, hl with | [_, _], _ => rfl)
    (df_mk X G a61 l61 c61 k61 fun _ _ _ _ _ _ us hl => match us, hl with | [_, _, _], _ => rfl)
    (fun_mk l0 c0 k0)⟩
end Ee

open PySem PySem.W PyProof.Rows
set_option maxHeartbeats 0 in
theorem PySem.Challenge.cw_earthends_k63_whole_no_plan_shallower_holds : PySem.Challenge.rw_earthends_k63_whole_no_plan_shallower.Holds := by
  w_on; o_law; k_head; (case hw => w_witness2)
  k_fill
  refine L2.walk_of (l := PySem.Challenge.rw_earthends_k63_whole_no_plan_shallower) (n := 63) (k := 27) (x := "_law_script") (CX := fun _ => L2.CX0) (sp := fun w => Ee.PF _ Ee.R_law) rfl (by decide) rfl ⟨rfl, by decide, by decide⟩ (fun w h Y => PySem.W.kIn_of Y) ?F (fun _ H a ns hl _ hS => Ee.law_pf hS) (fun _ _ _ _ _ h => h)
  case F =>
    intro w mg fa h KX G hmg
    refine' Ee.all_mk KX G hmg ?a0 ?l0 ?c0 ?k0 ?a1 ?l1 ?c1 ?k1 ?a2 ?l2 ?c2 ?k2 ?a3 ?l3 ?c3 ?k3 ?a4 ?l4 ?c4 ?k4 ?a5 ?l5 ?c5 ?k5 ?a6 ?l6 ?c6 ?k6 ?a7 ?l7 ?c7 ?k7 ?a8 ?l8 ?c8 ?k8 ?a9 ?l9 ?c9 ?k9 ?a10 ?l10 ?c10 ?k10 ?a11 ?l11 ?c11 ?k11 ?a12 ?l12 ?c12 ?k12 ?a13 ?l13 ?c13 ?k13 ?a14 ?l14 ?c14 ?k14 ?a15 ?l15 ?c15 ?k15 ?a16 ?l16 ?c16 ?k16 ?a17 ?l17 ?c17 ?k17 ?a18 ?l18 ?c18 ?k18 ?a19 ?l19 ?c19 ?k19 ?a20 ?l20 ?c20 ?k20 ?a21 ?l21 ?c21 ?k21 ?a22 ?l22 ?c22 ?k22 ?a23 ?l23 ?c23 ?k23 ?a24 ?l24 ?c24 ?k24 ?a25 ?l25 ?c25 ?k25 ?a26 ?l26 ?c26 ?k26 ?a27 ?l27 ?c27 ?k27 ?a28 ?l28 ?c28 ?k28 ?a29 ?l29 ?c29 ?k29 ?a30 ?l30 ?c30 ?k30 ?a31 ?l31 ?c31 ?k31 ?a32 ?l32 ?c32 ?k32 ?a33 ?l33 ?c33 ?k33 ?a34 ?l34 ?c34 ?k34 ?a35 ?l35 ?c35 ?k35 ?a36 ?l36 ?c36 ?k36 ?a37 ?l37 ?c37 ?k37 ?a38 ?l38 ?c38 ?k38 ?a39 ?l39 ?c39 ?k39 ?a40 ?l40 ?c40 ?k40 ?a41 ?l41 ?c41 ?k41 ?a42 ?l42 ?c42 ?k42 ?a43 ?l43 ?c43 ?k43 ?a44 ?l44 ?c44 ?k44 ?a45 ?l45 ?c45 ?k45 ?a46 ?l46 ?c46 ?k46 ?a47 ?l47 ?c47 ?k47 ?a48 ?l48 ?c48 ?k48 ?a49 ?l49 ?c49 ?k49 ?a50 ?l50 ?c50 ?k50 ?a51 ?l51 ?c51 ?k51 ?a52 ?l52 ?c52 ?k52 ?a53 ?l53 ?c53 ?k53 ?a54 ?l54 ?c54 ?k54 ?a55 ?l55 ?c55 ?k55 ?a56 ?l56 ?c56 ?k56 ?a57 ?l57 ?c57 ?k57 ?a58 ?l58 ?c58 ?k58 ?a59 ?l59 ?c59 ?k59 ?a60 ?l60 ?c60 ?k60 ?a61 ?l61 ?c61 ?k61 ?az ?lz ?al ?an ?z_isinstance ?z_int ?z_bool ?z_tuple ?z_abs ?z_len ?z_all ?z_range ?z_list ?z_sorted ?z_max ?z_min ?z_sum
    (case a0 => k_is)
    (case l0 => k_is)
    (case c0 => k_is)
    (case k0 => k_is)
    (case a1 => k_is)
    (case l1 => k_is)
    (case c1 => k_is)
    (case k1 => k_is)
    (case a2 => k_is)
    (case l2 => k_is)
    (case c2 => k_is)
    (case k2 => k_is)
    (case a3 => k_is)
    (case l3 => k_is)
    (case c3 => k_is)
    (case k3 => k_is)
    (case a4 => k_is)
    (case l4 => k_is)
    (case c4 => k_is)
    (case k4 => k_is)
    (case a5 => k_is)
    (case l5 => k_is)
    (case c5 => k_is)
    (case k5 => k_is)
    (case a6 => k_is)
    (case l6 => k_is)
    (case c6 => k_is)
    (case k6 => k_is)
    (case a7 => k_is)
    (case l7 => k_is)
    (case c7 => k_is)
    (case k7 => k_is)
    (case a8 => k_is)
    (case l8 => k_is)
    (case c8 => k_is)
    (case k8 => k_is)
    (case a9 => k_is)
    (case l9 => k_is)
    (case c9 => k_is)
    (case k9 => k_is)
    (case a10 => k_is)
    (case l10 => k_is)
    (case c10 => k_is)
    (case k10 => k_is)
    (case a11 => k_is)
    (case l11 => k_is)
    (case c11 => k_is)
    (case k11 => k_is)
    (case a12 => k_is)
    (case l12 => k_is)
    (case c12 => k_is)
    (case k12 => k_is)
    (case a13 => k_is)
    (case l13 => k_is)
    (case c13 => k_is)
    (case k13 => k_is)
    (case a14 => k_is)
    (case l14 => k_is)
    (case c14 => k_is)
    (case k14 => k_is)
    (case a15 => k_is)
    (case l15 => k_is)
    (case c15 => k_is)
    (case k15 => k_is)
    (case a16 => k_is)
    (case l16 => k_is)
    (case c16 => k_is)
    (case k16 => k_is)
    (case a17 => k_is)
    (case l17 => k_is)
    (case c17 => k_is)
    (case k17 => k_is)
    (case a18 => k_is)
    (case l18 => k_is)
    (case c18 => k_is)
    (case k18 => k_is)
    (case a19 => k_is)
    (case l19 => k_is)
    (case c19 => k_is)
    (case k19 => k_is)
    (case a20 => k_is)
    (case l20 => k_is)
    (case c20 => k_is)
    (case k20 => k_is)
    (case a21 => k_is)
    (case l21 => k_is)
    (case c21 => k_is)
    (case k21 => k_is)
    (case a22 => k_is)
    (case l22 => k_is)
    (case c22 => k_is)
    (case k22 => k_is)
    (case a23 => k_is)
    (case l23 => k_is)
    (case c23 => k_is)
    (case k23 => k_is)
    (case a24 => k_is)
    (case l24 => k_is)
    (case c24 => k_is)
    (case k24 => k_is)
    (case a25 => k_is)
    (case l25 => k_is)
    (case c25 => k_is)
    (case k25 => k_is)
    (case a26 => k_is)
    (case l26 => k_is)
    (case c26 => k_is)
    (case k26 => k_is)
    (case a27 => k_is)
    (case l27 => k_is)
    (case c27 => k_is)
    (case k27 => k_is)
    (case a28 => k_is)
    (case l28 => k_is)
    (case c28 => k_is)
    (case k28 => k_is)
    (case a29 => k_is)
    (case l29 => k_is)
    (case c29 => k_is)
    (case k29 => k_is)
    (case a30 => k_is)
    (case l30 => k_is)
    (case c30 => k_is)
    (case k30 => k_is)
    (case a31 => k_is)
    (case l31 => k_is)
    (case c31 => k_is)
    (case k31 => k_is)
    (case a32 => k_is)
    (case l32 => k_is)
    (case c32 => k_is)
    (case k32 => k_is)
    (case a33 => k_is)
    (case l33 => k_is)
    (case c33 => k_is)
    (case k33 => k_is)
    (case a34 => k_is)
    (case l34 => k_is)
    (case c34 => k_is)
    (case k34 => k_is)
    (case a35 => k_is)
    (case l35 => k_is)
    (case c35 => k_is)
    (case k35 => k_is)
    (case a36 => k_is)
    (case l36 => k_is)
    (case c36 => k_is)
    (case k36 => k_is)
    (case a37 => k_is)
    (case l37 => k_is)
    (case c37 => k_is)
    (case k37 => k_is)
    (case a38 => k_is)
    (case l38 => k_is)
    (case c38 => k_is)
    (case k38 => k_is)
    (case a39 => k_is)
    (case l39 => k_is)
    (case c39 => k_is)
    (case k39 => k_is)
    (case a40 => k_is)
    (case l40 => k_is)
    (case c40 => k_is)
    (case k40 => k_is)
    (case a41 => k_is)
    (case l41 => k_is)
    (case c41 => k_is)
    (case k41 => k_is)
    (case a42 => k_is)
    (case l42 => k_is)
    (case c42 => k_is)
    (case k42 => k_is)
    (case a43 => k_is)
    (case l43 => k_is)
    (case c43 => k_is)
    (case k43 => k_is)
    (case a44 => k_is)
    (case l44 => k_is)
    (case c44 => k_is)
    (case k44 => k_is)
    (case a45 => k_is)
    (case l45 => k_is)
    (case c45 => k_is)
    (case k45 => k_is)
    (case a46 => k_is)
    (case l46 => k_is)
    (case c46 => k_is)
    (case k46 => k_is)
    (case a47 => k_is)
    (case l47 => k_is)
    (case c47 => k_is)
    (case k47 => k_is)
    (case a48 => k_is)
    (case l48 => k_is)
    (case c48 => k_is)
    (case k48 => k_is)
    (case a49 => k_is)
    (case l49 => k_is)
    (case c49 => k_is)
    (case k49 => k_is)
    (case a50 => k_is)
    (case l50 => k_is)
    (case c50 => k_is)
    (case k50 => k_is)
    (case a51 => k_is)
    (case l51 => k_is)
    (case c51 => k_is)
    (case k51 => k_is)
    (case a52 => k_is)
    (case l52 => k_is)
    (case c52 => k_is)
    (case k52 => k_is)
    (case a53 => k_is)
    (case l53 => k_is)
    (case c53 => k_is)
    (case k53 => k_is)
    (case a54 => k_is)
    (case l54 => k_is)
    (case c54 => k_is)
    (case k54 => k_is)
    (case a55 => k_is)
    (case l55 => k_is)
    (case c55 => k_is)
    (case k55 => k_is)
    (case a56 => k_is)
    (case l56 => k_is)
    (case c56 => k_is)
    (case k56 => k_is)
    (case a57 => k_is)
    (case l57 => k_is)
    (case c57 => k_is)
    (case k57 => k_is)
    (case a58 => k_is)
    (case l58 => k_is)
    (case c58 => k_is)
    (case k58 => k_is)
    (case a59 => k_is)
    (case l59 => k_is)
    (case c59 => k_is)
    (case k59 => k_is)
    (case a60 => k_is)
    (case l60 => k_is)
    (case c60 => k_is)
    (case k60 => k_is)
    (case a61 => k_is)
    (case l61 => k_is)
    (case c61 => k_is)
    (case k61 => k_is)
    (case az => k_is)
    (case lz => k_is)
    (case al => k_is)
    (case an => k_is)
    (case z_isinstance => k_is)
    (case z_int => k_is)
    (case z_bool => k_is)
    (case z_tuple => k_is)
    (case z_abs => k_is)
    (case z_len => k_is)
    (case z_all => k_is)
    (case z_range => k_is)
    (case z_list => k_is)
    (case z_sorted => k_is)
    (case z_max => k_is)
    (case z_min => k_is)
    (case z_sum => k_is)

