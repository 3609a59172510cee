import PyProof.Rows.All
import Wide.All
import OpenK.AllK
import Wide.FinOn
import HandS.ForMost
import HandS.ForExc
import HandS.Deep
import HandS.DictComp
import HandS.IsInst
import HandS.Conv
import HandS.Defaults
import HandS.Wide
import HandS.SortInts
import HandS.More
import HandS.Style
import HandS.Strs
import HandS.Walk
import HandS.Zip
import HandS.TupAny
import HandS.TupLe
import KE.GoesEnum
import KE.GoesMore
import HandS.ExcIs
import HandS.TryOnly
import PyProof.DictUpdate
import PyProof.Rows.TmSorted
import HandS.WordsExc
import HandS.Ends
import HandS.Small
import PyProof.ReprRoads
import PyProof.Rows.SeqMore
import HandS.Words
import KE.LtData
import HandS.SortOrd
import KE.KDictSum
import HandS.ExcValue
import HandS.DictSubView
import HandS.RevTup
import HandS.SetTxt0
import HandS.SetFor
import PyProof.Rows.SortShellK
import HandS.Text
import PySem.Challenge.RW_guardedways_k05_what_is_left_of_programs
set_option Elab.async false
set_option linter.all false
set_option maxRecDepth 100000
set_option maxHeartbeats 4000000
/-! Pu, part A: data without addresses, how a frozen part of the heap bears them, the state of a body by cells. -/
namespace Pu
open PySem L2

/-- data: values, tuples, lists, dicts (keys and values side by side), instances (class, names, values) -/
inductive PV where
  | non | bl (b : Bool) | int (i : Int) | str (s : Str) | tup (xs : List PV) | ktup (xs : List PV) | lst (xs : List PV)
  | dic (ks : List Key) (vs : List PV) | ins (c : Str) (ns : List Str) (vs : List PV)

/-- a key that can be read as data -/
def keyOk : Key → Bool
  | .inl _ => true
  | .inr s => PyData.strOk s
structure G where
  K : PySem.W.Frag
  mg : Str → Option Value
abbrev gOf (X : Cx) : G := ⟨X.K, X.mg⟩
/-- a tuple whose object is known to have no dict of its own (its methods are the built-in type's) -/
def TupAt (K : PySem.W.Frag) (Z : Hp) (a : Addr) (vs : List V) : Prop :=
  (∃ o, Z a = some (.frz o (.tup vs)) ∧ o.dict = none) ∨
    ∃ (o : Obj) (its : Array Value) (n : Nat), K.lookup a = some o ∧ o.cls = .type "tuple" ∧ o.dict = none ∧ o.data = .seq its n ∧ its.size ≤ sizeLine ∧ Vals vs its.toList
theorem TupAt.sqt {K : PySem.W.Frag} {Z : Hp} {a : Addr} {vs : List V} (h : TupAt K Z a vs) : SqT K Z a vs := by
  rcases h with ⟨o, h, _⟩ | ⟨o, its, n, h1, h2, _, h3⟩
  · exact .inl (.inr ⟨o, h⟩)
  · exact .inr ⟨o, its, n, h1, h2, h3⟩
theorem TupAt.mono {K : PySem.W.Frag} {Z Z' : Hp} {a : Addr} {vs : List V} (h : TupAt K Z a vs) (e : Same Z Z') : TupAt K Z' a vs := by
  rcases h with ⟨o, h, d⟩ | h
  · exact .inl ⟨o, e _ _ h, d⟩
  · exact .inr h

mutual
/-- the frozen heap Z bears the data x at the value v -/
inductive Rep (g : G) (Z : Hp) : V → PV → Prop
  | non : Rep g Z .non .non
  | bl (b : Bool) : Rep g Z (.bl b) (.bl b)
  | int (i : Int) : Rep g Z (.int i) (.int i)
  | str (s : Str) : PyData.strOk s = true → Rep g Z (.str s) (.str s)
  | tup {a : Addr} {vs : List V} {xs : List PV} : TupAt g.K Z a vs → vs.length ≤ sizeLine → Reps g Z vs xs → Rep g Z (.ref a) (.tup xs)
  | ktup {a : Addr} {vs : List V} {xs : List PV} : Z a = some (.tup vs) → vs.length ≤ sizeLine → Reps g Z vs xs → Rep g Z (.ref a) (.ktup xs)
  | lst {a : Addr} {vs : List V} {xs : List PV} : SqL g.K Z a vs → vs.length ≤ sizeLine → Reps g Z vs xs → Rep g Z (.ref a) (.lst xs)
  | dic {a : Addr} {kvs : List (Key × V)} {vs : List PV} : Rd Z a (.dK kvs) → kvs.length ≤ sizeLine → (kvs.map (·.1)).all keyOk = true → Reps g Z (kvs.map (·.2)) vs → Rep g Z (.ref a) (.dic (kvs.map (·.1)) vs)
  | ins {a C dx : Addr} {c : Str} {fs : List (Str × V)} {vs : List PV} : Z a = some (.ins C dx fs) → g.mg c = some (.ref C) → Reps g Z (fs.map (·.2)) vs → Rep g Z (.ref a) (.ins c (fs.map (·.1)) vs)
inductive Reps (g : G) (Z : Hp) : List V → List PV → Prop
  | nil : Reps g Z [] []
  | cons {v : V} {vs : List V} {x : PV} {xs : List PV} : Rep g Z v x → Reps g Z vs xs → Reps g Z (v :: vs) (x :: xs)
end

theorem Same.rd {Z Z' : Hp} {a : Addr} {u : HO} (e : Same Z Z') (h : Rd Z a u) : Rd Z' a u := by
  rcases h with h | ⟨o, h⟩
  · exact .inl (e _ _ h)
  · exact .inr ⟨o, e _ _ h⟩
theorem Same.sqt {K : PySem.W.Frag} {H H' : Hp} {a : Addr} {xs : List V} (e : Same H H') (h : SqT K H a xs) : SqT K H' a xs := by
  rcases h with h | h
  · exact .inl (Same.rd e h)
  · exact .inr h
theorem Same.sql {K : PySem.W.Frag} {H H' : Hp} {a : Addr} {xs : List V} (e : Same H H') (h : SqL K H a xs) : SqL K H' a xs := by
  rcases h with h | h
  · exact .inl (Same.rd e h)
  · exact .inr h

section
variable {g : G} {Z Z' H : Hp}
mutual
theorem Rep.mono (e : Same Z Z') : ∀ {x : PV} {v : V}, Rep g Z v x → Rep g Z' v x
  | .non, _, h => by cases h; exact .non
  | .bl _, _, h => by cases h; exact .bl _
  | .int _, _, h => by cases h; exact .int _
  | .str _, _, h => by cases h with | str _ q => exact .str _ q
  | .tup _, _, h => by cases h with | tup h l r => exact .tup (h.mono e) l (Reps.mono e r)
  | .ktup _, _, h => by cases h with | ktup h l r => exact .ktup (e _ _ h) l (Reps.mono e r)
  | .lst _, _, h => by cases h with | lst h l r => exact .lst (Same.sql e h) l (Reps.mono e r)
  | .dic _ _, _, h => by cases h with | dic h l r q => exact .dic (Same.rd e h) l r (Reps.mono e q)
  | .ins _ _ _, _, h => by cases h with | ins h l r => exact .ins (e _ _ h) l (Reps.mono e r)
theorem Reps.mono (e : Same Z Z') : ∀ {xs : List PV} {vs : List V}, Reps g Z vs xs → Reps g Z' vs xs
  | [], _, h => by cases h; exact .nil
  | _ :: _, _, h => by cases h with | cons a b => exact .cons (Rep.mono e a) (Reps.mono e b)
end
theorem Reps.length : ∀ {vs : List V} {xs : List PV}, Reps g Z vs xs → vs.length = xs.length
  | _, _, .nil => rfl
  | _, _, .cons _ r => by rw [List.length_cons, List.length_cons, r.length]
theorem Reps.get : ∀ {vs : List V} {xs : List PV} {i : Nat} {v : V}, Reps g Z vs xs → vs[i]? = some v → ∃ x, xs[i]? = some x ∧ Rep g Z v x
  | _, _, _, _, .nil, e => by simp at e
  | _, _, 0, _, .cons r _, e => by simp at e; subst e; exact ⟨_, rfl, r⟩
  | _, _, i + 1, v, .cons _ t, e => by
    obtain ⟨u, h1, h2⟩ := Reps.get (i := i) (v := v) t (by simpa using e)
    exact ⟨u, by simpa using h1, h2⟩
theorem Reps.get' : ∀ {vs : List V} {xs : List PV} {i : Nat} {x : PV}, Reps g Z vs xs → xs[i]? = some x → ∃ v, vs[i]? = some v ∧ Rep g Z v x
  | _, _, _, _, .nil, e => by simp at e
  | _, _, 0, _, .cons r _, e => by simp at e; subst e; exact ⟨_, rfl, r⟩
  | _, _, i + 1, v, .cons _ t, e => by
    obtain ⟨u, h1, h2⟩ := Reps.get' (i := i) (x := v) t (by simpa using e)
    exact ⟨u, by simpa using h1, h2⟩
theorem Reps.append : ∀ {vs : List V} {xs : List PV} {us : List V} {ys : List PV}, Reps g Z vs xs → Reps g Z us ys → Reps g Z (vs ++ us) (xs ++ ys)
  | _, _, _, _, .nil, h => h
  | _, _, _, _, .cons a b, h => .cons a (b.append h)
theorem Reps.take : ∀ {vs : List V} {xs : List PV} (n : Nat), Reps g Z vs xs → Reps g Z (vs.take n) (xs.take n)
  | _, _, 0, _ => .nil
  | _, _, _ + 1, .nil => .nil
  | _, _, n + 1, .cons r t => .cons r (t.take n)
theorem Reps.drop : ∀ {vs : List V} {xs : List PV} (n : Nat), Reps g Z vs xs → Reps g Z (vs.drop n) (xs.drop n)
  | _, _, 0, r => r
  | _, _, _ + 1, .nil => .nil
  | _, _, n + 1, .cons _ t => t.drop n
theorem Reps.set {v : V} {x : PV} (r : Rep g Z v x) : ∀ {vs : List V} {xs : List PV} (i : Nat), Reps g Z vs xs → Reps g Z (vs.set i v) (xs.set i x)
  | _, _, _, .nil => .nil
  | _, _, 0, .cons _ t => .cons r t
  | _, _, i + 1, .cons q t => .cons q (Reps.set r i t)
theorem Reps.reverse {vs : List V} {xs : List PV} (h : Reps g Z vs xs) : Reps g Z vs.reverse xs.reverse := by
  induction vs generalizing xs with
  | nil => cases h; exact .nil
  | cons v vs ih =>
    cases h with
    | cons a b =>
      rw [List.reverse_cons, List.reverse_cons]
      exact (ih b).append (.cons a .nil)
end

/-! ### the cells of a body's names -/
/-- a name's content: not known, data, a list or dict that may be changed (the body's own: true; handed in: false) -/
inductive Cell where
  | un | v (x : PV) | m (own : Bool) (xs : List PV) | d (own : Bool) (ks : List Key) (vs : List PV) | o (own : Bool) (c : Str) (ns : List Str) (vs : List PV)
abbrev Cells := List Cell
/-- an exception: its class's name, the attributes of its own dict -/
structure Exn where
  c : Str
  ns : List Str := []
  vs : List PV := []

structure Frm where
  Z : Hp
  H : Hp
  M : Addr → Prop

def OwnM (f : Frm) (own : Bool) (a : Addr) : Prop := match own with
  | true => f.H a = none
  | false => f.M a
theorem OwnM.or {f : Frm} {own : Bool} {a : Addr} (h : OwnM f own a) : f.H a = none ∨ f.M a := by
  cases own with
  | true => exact .inl h
  | false => exact .inr h
def Slot (g : G) (f : Frm) (Z H : Hp) (σ : L2.St) (i : Nat) : Cell → Prop
  | .un => True
  | .v x => ∃ v, σ[i]? = some (some v) ∧ Rep g Z v x
  | .m own xs => ∃ a vs, σ[i]? = some (some (.ref a)) ∧ Z a = none ∧ H a = some (.lst vs) ∧ vs.length ≤ sizeLine ∧ Reps g Z vs xs ∧ OwnM f own a
  | .d own ks vs => ∃ a kvs, σ[i]? = some (some (.ref a)) ∧ Z a = none ∧ H a = some (.dK kvs) ∧ kvs.length ≤ sizeLine ∧ kvs.map (·.1) = ks ∧ ks.all keyOk = true ∧ Reps g Z (kvs.map (·.2)) vs ∧ OwnM f own a
  | .o own c ns vs => ∃ a fs, σ[i]? = some (some (.ref a)) ∧ Z a = none ∧ (∃ C dx, H a = some (.ins C dx fs) ∧ g.mg c = some (.ref C)) ∧ fs.map (·.1) = ns ∧ Reps g Z (fs.map (·.2)) vs ∧ OwnM f own a
def Cell.mut : Cell → Bool
  | .m _ _ => true
  | .d _ _ _ => true
  | .o _ _ _ _ => true
  | _ => false

structure StOk (g : G) (f : Frm) (Z H : Hp) (σ : L2.St) (env : Cells) : Prop where
  z0 : Same f.Z Z
  zh : Same Z H
  fr : ∀ a o, f.H a = some o → ¬ f.M a → H a = some o
  nz : ∀ a o, f.H a = some o → ¬ f.M a → f.Z a = none → Z a = none
  pr : ∀ a o, f.H a = some o → ∃ o', H a = some o'
  mh : ∀ a, f.M a → ∃ o, f.H a = some o
  ln : env.length = σ.length
  sl : ∀ (i : Nat) (c : Cell), env[i]? = some c → Slot g f Z H σ i c
  sep : ∀ (i j : Nat) (x y : Cell) (a : Addr), env[i]? = some x → env[j]? = some y → x.mut = true → y.mut = true → σ[i]? = some (some (.ref a)) → σ[j]? = some (some (.ref a)) → i = j

section
variable {g : G} {f : Frm} {Z H Z' H' : Hp} {σ : L2.St} {env : Cells}
/-- the addresses of the changing cells -/
def Muts (σ : L2.St) (env : Cells) (a : Addr) : Prop := ∃ (i : Nat) (c : Cell), env[i]? = some c ∧ c.mut = true ∧ σ[i]? = some (some (.ref a))
theorem StOk.muts (st : StOk g f Z H σ env) {a : Addr} (h : Muts σ env a) : Z a = none ∧ (∃ o, H a = some o) ∧ (f.H a = none ∨ f.M a) := by
  obtain ⟨i, c, e, m, s⟩ := h
  have q := st.sl i c e
  cases c with
  | un => cases m
  | v _ => cases m
  | m xs =>
    obtain ⟨b, vs, e1, e2, e3, _, _, e4⟩ := q
    rw [s] at e1; cases e1
    exact ⟨e2, ⟨_, e3⟩, e4.or⟩
  | d ks vs =>
    obtain ⟨b, kvs, e1, e2, e3, _, _, _, _, e4⟩ := q
    rw [s] at e1; cases e1
    exact ⟨e2, ⟨_, e3⟩, e4.or⟩
  | o own c ns vs =>
    obtain ⟨b, fs, e1, e2, ⟨C, dx, e3, _⟩, _, _, e4⟩ := q
    rw [s] at e1; cases e1
    exact ⟨e2, ⟨_, e3⟩, e4.or⟩
/-- the state goes on: the frozen part and the heap have grown, nothing that stood has changed -/
theorem StOk.grow (st : StOk g f Z H σ env) (zz : Same Z Z') (hh : Same H H') (zh : Same Z' H') (nz : ∀ a o, H a = some o → Z a = none → Z' a = none) : StOk g f Z' H' σ env where
  z0 := st.z0.trans zz
  zh := zh
  fr := fun a o e m => hh _ _ (st.fr a o e m)
  nz := fun a o e m z => nz a o (st.fr a o e m) (st.nz a o e m z)
  pr := fun a o e => by obtain ⟨o', q⟩ := st.pr a o e; exact ⟨o', hh _ _ q⟩
  mh := st.mh
  ln := st.ln
  sl := fun i c e => by
    have q := st.sl i c e
    cases c with
    | un => trivial
    | v x => obtain ⟨v, e1, r⟩ := q; exact ⟨v, e1, r.mono zz⟩
    | m own xs => obtain ⟨b, vs, e1, e2, e3, l, r, e4⟩ := q; exact ⟨b, vs, e1, nz _ _ e3 e2, hh _ _ e3, l, r.mono zz, e4⟩
    | d own ks vs => obtain ⟨b, kvs, e1, e2, e3, l, hk, ho, r, e4⟩ := q; exact ⟨b, kvs, e1, nz _ _ e3 e2, hh _ _ e3, l, hk, ho, r.mono zz, e4⟩
    | o own c ns vs => obtain ⟨b, fs, e1, e2, ⟨C, dx, e3, hc⟩, hk, r, e4⟩ := q; exact ⟨b, fs, e1, nz _ _ e3 e2, ⟨C, dx, hh _ _ e3, hc⟩, hk, r.mono zz, e4⟩
  sep := st.sep
theorem same_upd {p : Addr} {o : HO} (n : H p = none) : Same H (upd H p o) := fun b u e => by rw [upd_ne (ne_of_none e n)]; exact e
/-- a new thing, frozen at once -/
theorem StOk.lay (st : StOk g f Z H σ env) {p : Addr} {o : HO} (n : H p = none) : StOk g f (upd Z p o) (upd H p o) σ env := by
  have nZ : Z p = none := by
    cases e : Z p with
    | none => rfl
    | some u => rw [st.zh _ _ e] at n; cases n
  refine st.grow (same_upd nZ) (same_upd n) (fun b u e => ?_) fun a u e z => ?_
  · by_cases hb : b = p
    · subst hb; rw [upd_same] at e ⊢; exact e
    · rw [upd_ne hb] at e ⊢; exact st.zh _ _ e
  · rw [upd_ne (ne_of_none e n)]; exact z
/-- a new thing, not frozen -/
theorem StOk.new (st : StOk g f Z H σ env) {p : Addr} {o : HO} (n : H p = none) : StOk g f Z (upd H p o) σ env :=
  st.grow (Same.refl _) (same_upd n) (st.zh.trans (same_upd n)) fun _ _ _ z => z
theorem StOk.zn (st : StOk g f Z H σ env) {p : Addr} (n : H p = none) : Z p = none := by
  cases e : Z p with
  | none => rfl
  | some u => rw [st.zh _ _ e] at n; cases n
/-- a name is given data -/
theorem StOk.setV (st : StOk g f Z H σ env) {i : Nat} {v : V} {x : PV} (r : Rep g Z v x) (hi : i < σ.length) : StOk g f Z H (σ.set i (some v)) (env.set i (.v x)) where
  z0 := st.z0
  zh := st.zh
  fr := st.fr
  nz := st.nz
  pr := st.pr
  mh := st.mh
  ln := by rw [List.length_set, List.length_set]; exact st.ln
  sl := fun j c e => by
    by_cases hj : i = j
    · subst hj
      rw [List.getElem?_set_self (by rw [st.ln]; exact hi)] at e
      cases e
      exact ⟨v, List.getElem?_set_self hi, r⟩
    · rw [List.getElem?_set_ne hj] at e
      have q := st.sl j c e
      unfold Slot at q ⊢
      rw [List.getElem?_set_ne hj]
      exact q
  sep := fun j k c1 c2 a ej ek mx my sj sk => by
    have nj : ∀ {j : Nat} {c : Cell}, (env.set i (.v x))[j]? = some c → c.mut = true → i ≠ j := fun {j c} e m h => by
      subst h
      rw [List.getElem?_set_self (by rw [st.ln]; exact hi)] at e
      cases e
      cases m
    have h1 := nj ej mx
    have h2 := nj ek my
    rw [List.getElem?_set_ne h1] at ej sj
    rw [List.getElem?_set_ne h2] at ek sk
    exact st.sep j k c1 c2 a ej ek mx my sj sk
/-- a name forgotten -/
theorem StOk.wipe1 (st : StOk g f Z H σ env) {i : Nat} {v : Option V} : StOk g f Z H (σ.set i v) (env.set i .un) where
  z0 := st.z0
  zh := st.zh
  fr := st.fr
  nz := st.nz
  pr := st.pr
  mh := st.mh
  ln := by rw [List.length_set, List.length_set]; exact st.ln
  sl := fun j c e => by
    by_cases hj : i = j
    · subst hj
      by_cases hi : i < env.length
      · rw [List.getElem?_set_self hi] at e
        cases e
        trivial
      · rw [List.getElem?_eq_none (by rw [List.length_set]; omega)] at e; cases e
    · rw [List.getElem?_set_ne hj] at e
      have q := st.sl j c e
      unfold Slot at q ⊢
      rw [List.getElem?_set_ne hj]
      exact q
  sep := fun j k x y a ej ek mx my sj sk => by
    have nj : ∀ {j : Nat} {x : Cell}, (env.set i .un)[j]? = some x → x.mut = true → i ≠ j := fun {j x} e m h => by
      subst h
      by_cases hi : i < env.length
      · rw [List.getElem?_set_self hi] at e
        cases e
        cases m
      · rw [List.getElem?_eq_none (by rw [List.length_set]; omega)] at e; cases e
    have h1 := nj ej mx
    have h2 := nj ek my
    rw [List.getElem?_set_ne h1] at ej sj
    rw [List.getElem?_set_ne h2] at ek sk
    exact st.sep j k x y a ej ek mx my sj sk
/-- only the env forgets -/
theorem StOk.forget (st : StOk g f Z H σ env) {i : Nat} : StOk g f Z H σ (env.set i .un) where
  z0 := st.z0
  zh := st.zh
  fr := st.fr
  nz := st.nz
  pr := st.pr
  mh := st.mh
  ln := by rw [List.length_set]; exact st.ln
  sl := fun j c e => by
    by_cases hj : i = j
    · subst hj
      by_cases hi : i < env.length
      · rw [List.getElem?_set_self hi] at e
        cases e
        trivial
      · rw [List.getElem?_eq_none (by rw [List.length_set]; omega)] at e; cases e
    · rw [List.getElem?_set_ne hj] at e
      exact st.sl j c e
  sep := fun j k x y a ej ek mx my sj sk => by
    have nj : ∀ {j : Nat} {x : Cell}, (env.set i .un)[j]? = some x → x.mut = true → i ≠ j := fun {j x} e m h => by
      subst h
      by_cases hi : i < env.length
      · rw [List.getElem?_set_self hi] at e
        cases e
        cases m
      · rw [List.getElem?_eq_none (by rw [List.length_set]; omega)] at e; cases e
    rw [List.getElem?_set_ne (nj ej mx)] at ej
    rw [List.getElem?_set_ne (nj ek my)] at ek
    exact st.sep j k x y a ej ek mx my sj sk
/-- a changing list's name: its content is changed in place (the heap at a) -/
theorem StOk.putM (st : StOk g f Z H σ env) {i : Nat} {a : Addr} {us vs : List V} {own : Bool} {xs ys : List PV} (e : env[i]? = some (.m own xs)) (s : σ[i]? = some (some (.ref a))) (hH : H a = some (.lst us)) (l : vs.length ≤ sizeLine) (r : Reps g Z vs ys) :
    StOk g f Z (upd H a (.lst vs)) σ (env.set i (.m own ys)) := by
  have hm := st.muts (a := a) ⟨i, _, e, rfl, s⟩
  have hi : i < env.length := (List.getElem?_eq_some_iff.mp e).1
  refine ⟨st.z0, fun b u q => ?_, fun b o q m => ?_, st.nz, fun b o q => ?_, st.mh, by rw [List.length_set]; exact st.ln, fun j c ej => ?_, fun j k x y b ej ek mx my sj sk => ?_⟩
  · have : b ≠ a := fun z => by rw [z, hm.1] at q; cases q
    rw [upd_ne this]; exact st.zh _ _ q
  · have : b ≠ a := fun z => by
      subst z
      rcases hm.2.2 with z | z
      · rw [z] at q; cases q
      · exact m z
    rw [upd_ne this]; exact st.fr _ _ q m
  · by_cases hb : b = a
    · exact ⟨_, by rw [hb, upd_same]⟩
    · obtain ⟨o', z⟩ := st.pr b o q
      exact ⟨o', by rw [upd_ne hb]; exact z⟩
  · by_cases hj : i = j
    · subst hj
      rw [List.getElem?_set_self hi] at ej
      cases ej
      obtain ⟨a', _, s', _, _, _, _, ow⟩ := st.sl i _ e
      rw [s] at s'; cases s'
      exact ⟨a, vs, s, hm.1, upd_same, l, r, ow⟩
    · rw [List.getElem?_set_ne hj] at ej
      have q := st.sl j c ej
      cases c with
      | un => trivial
      | v x => exact q
      | m own' zs =>
        obtain ⟨b, ws, e1, e2, e3, l', r', e4⟩ := q
        have : b ≠ a := fun z => by subst z; exact hj (st.sep i j _ _ b e ej rfl rfl s e1)
        exact ⟨b, ws, e1, e2, by rw [upd_ne this]; exact e3, l', r', e4⟩
      | d own' ks ws =>
        obtain ⟨b, kvs, e1, e2, e3, l', hk, ho, r', e4⟩ := q
        have : b ≠ a := fun z => by subst z; exact hj (st.sep i j _ _ b e ej rfl rfl s e1)
        exact ⟨b, kvs, e1, e2, by rw [upd_ne this]; exact e3, l', hk, ho, r', e4⟩
      | o own' c ns ws =>
        obtain ⟨b, fs, e1, e2, ⟨C, dx, e3, hc⟩, hk, r', e4⟩ := q
        have : b ≠ a := fun z => by subst z; exact hj (st.sep i j _ _ b e ej rfl rfl s e1)
        exact ⟨b, fs, e1, e2, ⟨C, dx, by rw [upd_ne this]; exact e3, hc⟩, hk, r', e4⟩
  · have back : ∀ {j : Nat} {x : Cell}, (env.set i (.m own ys))[j]? = some x → x.mut = true → ∃ x', env[j]? = some x' ∧ x'.mut = true := fun {j x} ej mx => by
      by_cases hj : i = j
      · subst hj; exact ⟨_, e, rfl⟩
      · rw [List.getElem?_set_ne hj] at ej; exact ⟨x, ej, mx⟩
    obtain ⟨x', e1, m1⟩ := back ej mx
    obtain ⟨y', e2, m2⟩ := back ek my
    exact st.sep j k x' y' b e1 e2 m1 m2 sj sk
/-- a name is given a new changing list -/
theorem StOk.setM (st : StOk g f Z H σ env) {i : Nat} {a : Addr} {vs : List V} {xs : List PV} (n : Z a = none) (hH : H a = some (.lst vs)) (l : vs.length ≤ sizeLine) (r : Reps g Z vs xs) (hf : f.H a = none) (own : ¬ Muts σ env a) (hi : i < σ.length) :
    StOk g f Z H (σ.set i (some (.ref a))) (env.set i (.m true xs)) := by
  have hi' : i < env.length := by rw [st.ln]; exact hi
  refine ⟨st.z0, st.zh, st.fr, st.nz, st.pr, st.mh, by rw [List.length_set, List.length_set]; exact st.ln, fun j c ej => ?_, fun j k x y b ej ek mx my sj sk => ?_⟩
  · by_cases hj : i = j
    · subst hj
      rw [List.getElem?_set_self hi'] at ej
      cases ej
      exact ⟨a, vs, List.getElem?_set_self hi, n, hH, l, r, hf⟩
    · rw [List.getElem?_set_ne hj] at ej
      have q := st.sl j c ej
      unfold Slot at q ⊢
      rw [List.getElem?_set_ne hj]
      exact q
  · by_cases hj : i = j
    · by_cases hk : i = k
      · exact hj.symm.trans hk
      · subst hj
        rw [List.getElem?_set_self hi] at sj
        cases sj
        rw [List.getElem?_set_ne hk] at ek sk
        exact absurd ⟨k, y, ek, my, sk⟩ own
    · by_cases hk : i = k
      · subst hk
        rw [List.getElem?_set_self hi] at sk
        cases sk
        rw [List.getElem?_set_ne hj] at ej sj
        exact absurd ⟨j, x, ej, mx, sj⟩ own
      · rw [List.getElem?_set_ne hj] at ej sj
        rw [List.getElem?_set_ne hk] at ek sk
        exact st.sep j k x y b ej ek mx my sj sk
/-- a changing list is frozen (it is handed on as data) -/
theorem StOk.freeze (st : StOk g f Z H σ env) {i : Nat} {a : Addr} {vs : List V} {xs : List PV} (e : env[i]? = some (.m true xs)) (s : σ[i]? = some (some (.ref a))) (hH : H a = some (.lst vs)) (l : vs.length ≤ sizeLine) (r : Reps g Z vs xs) :
    StOk g f (upd Z a (.lst vs)) H σ (env.set i (.v (.lst xs))) ∧ Rep g (upd Z a (.lst vs)) (.ref a) (.lst xs) ∧ Same Z (upd Z a (.lst vs)) := by
  have hm := st.muts (a := a) ⟨i, _, e, rfl, s⟩
  have hi : i < env.length := (List.getElem?_eq_some_iff.mp e).1
  have zz : Same Z (upd Z a (.lst vs)) := same_upd hm.1
  have rp : Rep g (upd Z a (.lst vs)) (.ref a) (.lst xs) := .lst (.inl (.inl upd_same)) l (r.mono zz)
  refine ⟨⟨st.z0.trans zz, fun b u q => ?_, st.fr, fun b o q m z => ?_, st.pr, st.mh, by rw [List.length_set]; exact st.ln, fun j c ej => ?_, fun j k x y b ej ek mx my sj sk => ?_⟩, rp, zz⟩
  · by_cases hb : b = a
    · subst hb; rw [upd_same] at q; cases q; exact hH
    · rw [upd_ne hb] at q; exact st.zh _ _ q
  · have : b ≠ a := fun z => by
      subst z
      rcases hm.2.2 with z | z
      · rw [z] at q; cases q
      · exact m z
    rw [upd_ne this]; exact st.nz b o q m z
  · by_cases hj : i = j
    · subst hj
      rw [List.getElem?_set_self hi] at ej
      cases ej
      exact ⟨.ref a, s, rp⟩
    · rw [List.getElem?_set_ne hj] at ej
      have q := st.sl j c ej
      cases c with
      | un => trivial
      | v x => obtain ⟨v, e1, r1⟩ := q; exact ⟨v, e1, r1.mono zz⟩
      | m own' zs =>
        obtain ⟨b, ws, e1, e2, e3, l', r', e4⟩ := q
        have : b ≠ a := fun z => by subst z; exact hj (st.sep i j _ _ b e ej rfl rfl s e1)
        exact ⟨b, ws, e1, by rw [upd_ne this]; exact e2, e3, l', r'.mono zz, e4⟩
      | d own' ks ws =>
        obtain ⟨b, kvs, e1, e2, e3, l', hk, ho, r', e4⟩ := q
        have : b ≠ a := fun z => by subst z; exact hj (st.sep i j _ _ b e ej rfl rfl s e1)
        exact ⟨b, kvs, e1, by rw [upd_ne this]; exact e2, e3, l', hk, ho, r'.mono zz, e4⟩
      | o own' c ns ws =>
        obtain ⟨b, fs, e1, e2, ⟨C, dx, e3, hc⟩, hk, r', e4⟩ := q
        have : b ≠ a := fun z => by subst z; exact hj (st.sep i j _ _ b e ej rfl rfl s e1)
        exact ⟨b, fs, e1, by rw [upd_ne this]; exact e2, ⟨C, dx, e3, hc⟩, hk, r'.mono zz, e4⟩
  · have back : ∀ {j : Nat} {x : Cell}, (env.set i (.v (.lst xs)))[j]? = some x → x.mut = true → ∃ x', env[j]? = some x' ∧ x'.mut = true := fun {j x} ej mx => by
      by_cases hj : i = j
      · subst hj; exact ⟨_, e, rfl⟩
      · rw [List.getElem?_set_ne hj] at ej; exact ⟨x, ej, mx⟩
    obtain ⟨x', e1, m1⟩ := back ej mx
    obtain ⟨y', e2, m2⟩ := back ek my
    exact st.sep j k x' y' b e1 e2 m1 m2 sj sk
/-- the frame holds one more thing: what stands at D, outside of the frozen part and of all cells -/
def Frm.plus (f : Frm) (D : Addr) (o : HO) : Frm := ⟨f.Z, upd f.H D o, f.M⟩
theorem StOk.plus (st : StOk g f Z H σ env) {D : Addr} {o : HO} (n : f.H D = none) (hD : H D = some o) (zD : Z D = none) (nm : ¬ Muts σ env D) : StOk g (f.plus D o) Z H σ env where
  z0 := st.z0
  zh := st.zh
  fr := fun a u e m => by
    by_cases ha : a = D
    · subst ha; rw [show (f.plus a o).H a = some o from upd_same] at e; cases e; exact hD
    · rw [show (f.plus D o).H a = f.H a from upd_ne ha] at e; exact st.fr a u e m
  nz := fun a u e m z => by
    by_cases ha : a = D
    · subst ha; exact zD
    · rw [show (f.plus D o).H a = f.H a from upd_ne ha] at e; exact st.nz a u e m z
  pr := fun a u e => by
    by_cases ha : a = D
    · subst ha; exact ⟨_, hD⟩
    · rw [show (f.plus D o).H a = f.H a from upd_ne ha] at e; exact st.pr a u e
  mh := fun a m => by
    by_cases ha : a = D
    · subst ha; exact ⟨_, upd_same⟩
    · obtain ⟨u, e⟩ := st.mh a m; exact ⟨u, (upd_ne ha).trans e⟩
  ln := st.ln
  sl := fun i c e => by
    have q := st.sl i c e
    have ow : ∀ {own : Bool} {b : Addr}, b ≠ D → OwnM f own b → OwnM (f.plus D o) own b := fun {own b} hb h => by
      cases own with
      | true => exact (upd_ne hb).trans h
      | false => exact h
    cases c with
    | un => trivial
    | v x => exact q
    | m own xs =>
      obtain ⟨b, vs, e1, e2, e3, l, r, e4⟩ := q
      exact ⟨b, vs, e1, e2, e3, l, r, ow (fun z => by subst z; exact nm ⟨i, _, e, rfl, e1⟩) e4⟩
    | d own ks vs =>
      obtain ⟨b, kvs, e1, e2, e3, l, hk, ho, r, e4⟩ := q
      exact ⟨b, kvs, e1, e2, e3, l, hk, ho, r, ow (fun z => by subst z; exact nm ⟨i, _, e, rfl, e1⟩) e4⟩
    | o own c ns vs =>
      obtain ⟨b, fs, e1, e2, e3, hk, r, e4⟩ := q
      exact ⟨b, fs, e1, e2, e3, hk, r, ow (fun z => by subst z; exact nm ⟨i, _, e, rfl, e1⟩) e4⟩
  sep := st.sep
theorem StOk.minus {D : Addr} {o : HO} {env' : Cells} {σ' : L2.St} (mh : ∀ a, f.M a → ∃ o, f.H a = some o) (fZ : f.Z D = none) (st' : StOk g (f.plus D o) Z' H' σ' env') (n : f.H D = none) : StOk g f Z' H' σ' env' ∧ H' D = some o ∧ Z' D = none ∧ ¬ Muts σ' env' D := by
  have nM : ¬ f.M D := fun m => by obtain ⟨u, e⟩ := mh D m; rw [n] at e; cases e
  have ne : ∀ {a u}, f.H a = some u → a ≠ D := fun {a u} e z => by subst z; rw [n] at e; cases e
  have zD : Z' D = none := st'.nz D o upd_same nM fZ
  have hD : H' D = some o := st'.fr D o upd_same nM
  refine ⟨⟨st'.z0, st'.zh, fun a u e m => st'.fr a u ((upd_ne (ne e)).trans e) m, fun a u e m z => st'.nz a u ((upd_ne (ne e)).trans e) m z, fun a u e => st'.pr a u ((upd_ne (ne e)).trans e), mh, st'.ln, fun i c e => ?_, st'.sep⟩, hD, zD, fun m => ?_⟩
  · have q := st'.sl i c e
    have ow : ∀ {own : Bool} {b : Addr}, OwnM (f.plus D o) own b → OwnM f own b := fun {own b} h => by
      cases own with
      | true =>
        have h : upd f.H D o b = none := h
        by_cases hb : b = D
        · subst hb; exact n
        · exact (upd_ne hb).symm.trans h
      | false => exact h
    cases c with
    | un => trivial
    | v x => exact q
    | m own xs => obtain ⟨b, vs, e1, e2, e3, l, r, e4⟩ := q; exact ⟨b, vs, e1, e2, e3, l, r, ow e4⟩
    | d own ks vs => obtain ⟨b, kvs, e1, e2, e3, l, hk, ho, r, e4⟩ := q; exact ⟨b, kvs, e1, e2, e3, l, hk, ho, r, ow e4⟩
    | o own c ns vs => obtain ⟨b, fs, e1, e2, e3, hk, r, e4⟩ := q; exact ⟨b, fs, e1, e2, e3, hk, r, ow e4⟩
  · rcases (st'.muts m).2.2 with z | z
    · rw [show (f.plus D o).H D = some o from upd_same] at z; cases z
    · exact nM z
end
end Pu
set_option Elab.async false
set_option linter.all false
set_option maxRecDepth 100000
set_option maxHeartbeats 4000000
/-! Pu, part B: what an expression yields by data alone; the first rules. -/
namespace Pu
open PySem L2

/-- room, and no repr under way -/
structure RoomG (k : Nat) (A : Around) : Prop extends Room k A where
  gd : A.guards = some []
theorem RoomG.mono {j k : Nat} {A : Around} (r : RoomG k A) (h : j ≤ k) : RoomG j A := ⟨r.toRoom.mono h, r.gd⟩
theorem RoomG.deeper {k : Nat} {A : Around} (r : RoomG (k + 1) A) (env : PySem.Env) : RoomG k (A.deeper env) := ⟨r.toRoom.deeper env, r.gd⟩

inductive Out (α : Type) where
  | ok (a : α) (e : Cells) | ex (c : Exn) (e : Cells)
abbrev Den (α : Type) := Cells → Option (Out α)
def Den.bind {α β : Type} (d : Den α) (k : α → Den β) : Den β := fun e => match d e with
  | none => none
  | some (.ex c e') => some (.ex c e')
  | some (.ok a e') => k a e'
def Den.lift {α : Type} (o : Option α) : Den α := fun e => match o with
  | none => none
  | some a => some (.ok a e)
def Den.ret {α : Type} (a : α) : Den α := fun e => some (.ok a e)

def ExRep (g : G) (c : Exn) (cls : Value) (dd : Option Addr) (Z H : Hp) : Prop :=
  ∃ C, g.mg c.c = some (.ref C) ∧ cls = .ref C ∧ ((c.ns = [] ∧ c.vs = [] ∧ dd = none) ∨ ∃ d fs, c.ns ≠ [] ∧ dd = some d ∧ H d = some (.xd fs) ∧ fs.map (·.1) = c.ns ∧ Reps g Z (fs.map (·.2)) c.vs)

section
variable {α β : Type}
def Post (g : G) (W : WX) (f : Frm) (Z : Hp) (σ : L2.St) (R : Hp → Hp → Cells → β → α → Prop) (Q : β → Hp → Prop) : Out α → Prop
  | .ok a e => ∀ b Z' H', Same Z Z' → StOk g f Z' H' σ e → R Z' H' e b a → Q b H'
  | .ex c e => ∀ cls dd Z' H', Same Z Z' → StOk g f Z' H' σ e → ExRep g c cls dd Z' H' → W cls dd σ H'
structure At (g : G) (W : WX) (f : Frm) (Z : Hp) (env : Cells) (d : Den α) (R : Hp → Hp → Cells → β → α → Prop) (Q : β → Hp → Prop) (σ : L2.St) (H : Hp) : Prop where
  st : StOk g f Z H σ env
  to : ∃ o, d env = some o ∧ Post g W f Z σ R Q o
end

abbrev RV (g : G) : Hp → Hp → Cells → V → PV → Prop := fun Z _ _ v x => Rep g Z v x
abbrev RVs (g : G) : Hp → Hp → Cells → List V → List PV → Prop := fun Z _ _ v x => Reps g Z v x
def tP (g : G) (W : WX) (d : Den PV) : TE := fun σ H Q => ∃ f Z env, At g W f Z env d (RV g) Q σ H
def tPs (g : G) (W : WX) (d : Den (List PV)) : TA := fun σ H Q => ∃ f Z env, At g W f Z env d (RVs g) Q σ H
abbrev PX (X : Cx) (W : WX) (e : Expr) (d : Den PV) : Prop := PE X e (tP (gOf X) W d)
abbrev PTX (X : Cx) (W : WX) (e : Expr) (d : Den PV) : Prop := PT X e (tB (tP (gOf X) W d))
abbrev PWX (X : Cx) (W : WX) (e : Expr) (d : Den PV) : Prop := PW X e (tB (tP (gOf X) W d))
abbrev PAX (X : Cx) (W : WX) (es : List Expr) (d : Den (List PV)) : Prop := PA X es (tPs (gOf X) W d)

section
variable {α β γ δ : Type} {g : G} {W : WX} {f : Frm} {Z H : Hp} {σ : L2.St} {env : Cells}
theorem Post.imp {R R' : Hp → Hp → Cells → β → α → Prop} {Q Q' : β → Hp → Prop} {o : Out α} {Z1 : Hp} (p : Post g W f Z σ R Q o) (s : Same Z Z1) (hr : ∀ Z' H' e b a, R' Z' H' e b a → R Z' H' e b a) (h : ∀ b H', Q b H' → Q' b H') : Post g W f Z1 σ R' Q' o := by
  cases o with
  | ok a e => exact fun b Z' H' s' st r => h _ _ (p b Z' H' (s.trans s') st (hr _ _ _ _ _ r))
  | ex c e => exact fun cls dd Z' H' s' st r => p cls dd Z' H' (s.trans s') st r
theorem At.imp {d : Den α} {R : Hp → Hp → Cells → β → α → Prop} {Q Q' : β → Hp → Prop} (h : At g W f Z env d R Q σ H) (hq : ∀ b H', Q b H' → Q' b H') : At g W f Z env d R Q' σ H :=
  ⟨h.st, let ⟨o, e, p⟩ := h.to; ⟨o, e, p.imp (Same.refl _) (fun _ _ _ _ _ r => r) hq⟩⟩
/-- what comes first; what follows stands at its end -/
theorem At.bind {d : Den α} {k : α → Den γ} {R : Hp → Hp → Cells → β → α → Prop} {R2 : Hp → Hp → Cells → δ → γ → Prop} {Q : δ → Hp → Prop} (h : At g W f Z env (d.bind k) R2 Q σ H) :
    At g W f Z env d R (fun b H1 => ∃ Z1 env1 a, Same Z Z1 ∧ R Z1 H1 env1 b a ∧ At g W f Z1 env1 (k a) R2 Q σ H1) σ H := by
  obtain ⟨st, o, e, p⟩ := h
  refine ⟨st, ?_⟩
  unfold Den.bind at e
  cases hd : d env with
  | none => rw [hd] at e; cases e
  | some o1 =>
    rw [hd] at e
    cases o1 with
    | ex c e1 =>
      have e : some (Out.ex c e1) = some o := e
      cases e
      exact ⟨_, rfl, p⟩
    | ok a e1 =>
      have e : k a e1 = some o := e
      exact ⟨_, rfl, fun b Z1 H1 s1 st1 r1 => ⟨Z1, e1, a, s1, r1, st1, o, e, p.imp s1 (fun _ _ _ _ _ r => r) fun _ _ q => q⟩⟩
theorem At.lift {o : Option α} {R : Hp → Hp → Cells → β → α → Prop} {Q : β → Hp → Prop} (h : At g W f Z env (Den.lift o) R Q σ H) :
    ∃ a, o = some a ∧ ∀ b Z' H', Same Z Z' → StOk g f Z' H' σ env → R Z' H' env b a → Q b H' := by
  obtain ⟨st, o', e, p⟩ := h
  cases o with
  | none => cases e
  | some a => cases e; exact ⟨a, rfl, p⟩
theorem At.ret {a : α} {R : Hp → Hp → Cells → β → α → Prop} {Q : β → Hp → Prop} (h : At g W f Z env (Den.ret a) R Q σ H) :
    ∀ b Z' H', Same Z Z' → StOk g f Z' H' σ env → R Z' H' env b a → Q b H' := by
  obtain ⟨st, o', e, p⟩ := h
  cases e
  exact p
theorem At.here {d : Den PV} {Q : VK} (h : At g W f Z env d (RV g) Q σ H) : tP g W d σ H Q := ⟨f, Z, env, h⟩
theorem At.heres {d : Den (List PV)} {Q : List V → Hp → Prop} (h : At g W f Z env d (RVs g) Q σ H) : tPs g W d σ H Q := ⟨f, Z, env, h⟩
end

/-- a weaker reading -/
theorem peimp {X : Cx} {e : Expr} {t t' : TE} (h : PE X e t) (w : ∀ σ H Q, t' σ H Q → t σ H Q) : PE X e t' := ⟨fun pins s σ H Q I q => h.run pins s σ H Q I (w σ H Q q)⟩
theorem ptimp {X : Cx} {e : Expr} {t t' : TT} (h : PT X e t) (w : ∀ σ H Q, t' σ H Q → t σ H Q) : PT X e t' := ⟨fun pins s σ H Q I q => h.run pins s σ H Q I (w σ H Q q)⟩
theorem pwimp {X : Cx} {e : Expr} {t t' : TT} (h : PW X e t) (w : ∀ σ H Q, t' σ H Q → t σ H Q) : PW X e t' := ⟨fun wh pins s σ H Q I q => h.run wh pins s σ H Q I (w σ H Q q)⟩
theorem paimp {X : Cx} {e : List Expr} {t t' : TA} (h : PA X e t) (w : ∀ σ H Q, t' σ H Q → t σ H Q) : PA X e t' := ⟨fun p pins s σ H Q I q => h.run p pins s σ H Q I (w σ H Q q)⟩
theorem psimp {X : Cx} {st : Stmt} {t t' : TS} (h : PS X st t) (w : ∀ D σ H, t' D σ H → t D σ H) : PS X st t' := ⟨fun pins s σ H D I q => h.run pins s σ H D I (w D σ H q)⟩
theorem pssimp {X : Cx} {st : List Stmt} {t t' : TS} (h : PSs X st t) (w : ∀ D σ H, t' D σ H → t D σ H) : PSs X st t' := ⟨fun pins s σ H D I q => h.run pins s σ H D I (w D σ H q)⟩
theorem piimp {X : Cx} {tg it : Expr} {t t' : TI} (h : PI X tg it t) (w : ∀ σ H R, t' σ H R → t σ H R) : PI X tg it t' := ⟨fun pins s σ H R I q => h.run pins s σ H R I (w σ H R q)⟩

/-! ### names and constants -/
def dVar (i : Nat) : Den PV := fun e => match e[i]? with
  | some (.v x) => some (.ok x e)
  | _ => none
section
variable {X : Cx} {W : WX}
theorem px_var {i : Nat} {x : Str} {pos : Pos} (h : PE X (.Name x pos) (tVar i)) : PX X W (.Name x pos) (dVar i) := peimp h fun σ H Q ⟨f, Z, env, st, o, e, p⟩ => by
  unfold dVar at e
  split at e
  · rename_i x hx
    cases e
    obtain ⟨v, e1, r⟩ := st.sl i _ hx
    exact ⟨v, e1, p v Z H (Same.refl _) st r⟩
  · cases e
theorem px_c {e : Expr} {v : V} {x : PV} (h : PE X e (tC v)) (r : ∀ Z, Rep (gOf X) Z v x) : PX X W e (Den.ret x) := peimp h fun σ H Q ⟨f, Z, env, a⟩ => a.ret v Z H (Same.refl _) a.st (r Z)
theorem px_int {i j pos} : PX X W (.Constant (.int i) j pos) (Den.ret (.int i)) := px_c pe_int fun _ => .int _
theorem px_bl {b j pos} : PX X W (.Constant (.bool b) j pos) (Den.ret (.bl b)) := px_c pe_bl fun _ => .bl _
theorem px_non {j pos} : PX X W (.Constant .none j pos) (Den.ret .non) := px_c pe_non fun _ => .non
theorem px_str {x j pos} (h : PyData.strOk x = true := by decide +kernel) : PX X W (.Constant (.str x) j pos) (Den.ret (.str x)) := px_c pe_str fun _ => .str _ h

/-! ### operators -/
/-- what an operator yields of two data: nothing new is laid -/
def OpP (g : G) (r : R2) (q : PV → PV → Option PV) : Prop := ∀ (Z H : Hp) (u w : V) (x y v : PV) (Q : VK), Same Z H → Rep g Z u x → Rep g Z w y → q x y = some v → (∀ z, Rep g Z z v → Q z H) → r u w H Q
def dOp (q : PV → PV → Option PV) (da db : Den PV) : Den PV := da.bind fun x => db.bind fun y => Den.lift (q x y)
variable {a b : Expr} {da db : Den PV} {pos : Pos} {r : R2} {q : PV → PV → Option PV}
theorem t_op (hp : OpP (gOf X) r q) {σ : L2.St} {H : Hp} {Q : VK} (h : tP (gOf X) W (dOp q da db) σ H Q) : tOp r (tP (gOf X) W da) (tP (gOf X) W db) σ H Q := by
  obtain ⟨f, Z, env, a⟩ := h
  refine (a.bind.imp fun u H1 ⟨Z1, env1, x, s1, r1, a1⟩ => ?_).here
  refine (a1.bind.imp fun w H2 ⟨Z2, env2, y, s2, r2, a2⟩ => ?_).here
  obtain ⟨v, e, k⟩ := a2.lift
  exact hp Z2 H2 u w x y v Q a2.st.zh (r1.mono s2) r2 e fun z rz => k z Z2 H2 (Same.refl _) a2.st rz
theorem px_op {op : Operator} (ho : OpR X (binaryOp op) r) (hp : OpP (gOf X) r q) (ha : PX X W a da) (hb : PX X W b db) : PX X W (.BinOp a op b pos) (dOp q da db) := peimp (pe_op ho ha hb) fun _ _ _ h => t_op hp h
def qI (k : Int → Int → Option Int) : PV → PV → Option PV
  | .int i, .int j => (k i j).map .int
  | _, _ => none
theorem opP_I {g : G} {C : Int → Int → Prop} {k : Int → Int → Int} {k' : Int → Int → Option Int} (h : ∀ i j v, k' i j = some v → C i j ∧ v = k i j) : OpP g (rI C fun i j => .int (k i j)) (qI k') := fun Z H u w x y v Q _ r1 r2 e hq => by
  unfold qI at e
  split at e
  · cases r1
    cases r2
    rename_i i j
    cases hk : k' i j with
    | none => rw [hk] at e; cases e
    | some n =>
      rw [hk] at e
      cases e
      obtain ⟨c, rfl⟩ := h i j n hk
      exact ⟨i, j, rfl, rfl, c, hq _ (.int _)⟩
  · cases e
theorem opP_I0 {g : G} {k : Int → Int → Int} : OpP g (rI0 fun i j => .int (k i j)) (qI fun i j => some (k i j)) := fun Z H u w x y v Q _ r1 r2 e hq => by
  unfold qI at e
  split at e
  · cases r1
    cases r2
    cases e
    exact ⟨_, _, rfl, rfl, hq _ (.int _)⟩
  · cases e
abbrev qAdd := qI fun i j => some (i + j)
abbrev qSub := qI fun i j => some (i - j)
abbrev qMul := qI fun i j => if (-(2 ^ 64) < i ∧ i < 2 ^ 64) ∨ (-(2 ^ 64) < j ∧ j < 2 ^ 64) then some (i * j) else none
abbrev qDiv := qI fun i j => if 0 < j ∧ j < 1073741824 then some (i / j) else none
abbrev qMod := qI fun i j => if 0 < j then some (i % j) else none
abbrev qShl := qI fun i j => if 0 ≤ j ∧ j ≤ 1000000 ∧ i.natAbs < 2 ^ 64 then some (i * 2 ^ j.toNat) else none
abbrev qShr := qI fun i j => if 0 ≤ j then some (i / 2 ^ j.toNat) else none
abbrev qPow := qI fun i j => if 0 ≤ j ∧ j ≤ 1000000 ∧ i.natAbs < 2 ^ 64 then some (i ^ j.toNat) else none
abbrev qAnd := qI fun i j => some (Builtin.bitAnd i j)
abbrev qOr := qI fun i j => some (Builtin.bitOr i j)
abbrev qXor := qI fun i j => some (Builtin.bitXor i j)
theorem of_ite {α : Type} {c : Prop} [Decidable c] {x v : α} (h : (if c then some x else none) = some v) : c ∧ v = x := by
  split at h
  · cases h; exact ⟨by assumption, rfl⟩
  · cases h
theorem px_addI (ha : PX X W a da) (hb : PX X W b db) : PX X W (.BinOp a .Add b pos) (dOp qAdd da db) := px_op op_add opP_I0 ha hb
theorem px_sub (ha : PX X W a da) (hb : PX X W b db) : PX X W (.BinOp a .Sub b pos) (dOp qSub da db) := px_op op_sub opP_I0 ha hb
theorem px_mul (ha : PX X W a da) (hb : PX X W b db) : PX X W (.BinOp a .Mult b pos) (dOp qMul da db) := px_op op_mul (opP_I fun _ _ _ h => by have q := of_ite h; exact ⟨q.1, q.2⟩) ha hb
theorem px_div (ha : PX X W a da) (hb : PX X W b db) : PX X W (.BinOp a .FloorDiv b pos) (dOp qDiv da db) := px_op op_fdiv (opP_I fun _ _ _ h => by have q := of_ite h; exact ⟨q.1, q.2⟩) ha hb
theorem px_mod (ha : PX X W a da) (hb : PX X W b db) : PX X W (.BinOp a .Mod b pos) (dOp qMod da db) := px_op op_mod (opP_I fun _ _ _ h => by have q := of_ite h; exact ⟨q.1, q.2⟩) ha hb
theorem px_shl (ha : PX X W a da) (hb : PX X W b db) : PX X W (.BinOp a .LShift b pos) (dOp qShl da db) := px_op op_shl (opP_I fun _ _ _ h => by have q := of_ite h; exact ⟨q.1, q.2⟩) ha hb
theorem px_shr (ha : PX X W a da) (hb : PX X W b db) : PX X W (.BinOp a .RShift b pos) (dOp qShr da db) := px_op op_shr (opP_I fun _ _ _ h => by have q := of_ite h; exact ⟨q.1, q.2⟩) ha hb
theorem px_pow (ha : PX X W a da) (hb : PX X W b db) : PX X W (.BinOp a .Pow b pos) (dOp qPow da db) := px_op op_pow (opP_I fun _ _ _ h => by have q := of_ite h; exact ⟨q.1, q.2⟩) ha hb
theorem px_band (ha : PX X W a da) (hb : PX X W b db) : PX X W (.BinOp a .BitAnd b pos) (dOp qAnd da db) := px_op op_and opP_I0 ha hb
theorem px_bor (ha : PX X W a da) (hb : PX X W b db) : PX X W (.BinOp a .BitOr b pos) (dOp qOr da db) := px_op op_or opP_I0 ha hb
theorem px_bxor (ha : PX X W a da) (hb : PX X W b db) : PX X W (.BinOp a .BitXor b pos) (dOp qXor da db) := px_op op_xor opP_I0 ha hb
def qNeg : PV → Option PV
  | .int i => some (.int (-i))
  | _ => none
def dUn (q : PV → Option PV) (da : Den PV) : Den PV := da.bind fun x => Den.lift (q x)
theorem px_neg (ha : PX X W a da) : PX X W (.UnaryOp .USub a pos) (dUn qNeg da) := peimp (pe_un un_neg ha) fun σ H Q ⟨f, Z, env, a⟩ => by
  refine (a.bind.imp fun u H1 ⟨Z1, env1, x, s1, r1, a1⟩ => ?_).here
  obtain ⟨v, e, k⟩ := a1.lift
  cases x with
  | int i => cases e; cases r1; exact ⟨i, rfl, k _ Z1 H1 (Same.refl _) a1.st (.int _)⟩
  | _ => cases e
end

/-! ### equal data -/
mutual
def PV.toD : PV → PyData
  | .non => .none
  | .bl b => .bool b
  | .int i => .int i
  | .str s => .str s
  | .tup xs => .tuple (PV.toDs xs)
  | .ktup xs => .tuple (PV.toDs xs)
  | .lst xs => .list (PV.toDs xs)
  | .dic _ _ => .dict []
  | .ins _ _ _ => .dict []
def PV.toDs : List PV → List PyData
  | [] => []
  | x :: xs => x.toD :: PV.toDs xs
end
mutual
/-- no dict, no instance within -/
def PV.plain : PV → Bool
  | .tup xs => PV.plains xs
  | .ktup xs => PV.plains xs
  | .lst xs => PV.plains xs
  | .dic _ _ => false
  | .ins _ _ _ => false
  | _ => true
def PV.plains : List PV → Bool
  | [] => true
  | x :: xs => x.plain && PV.plains xs
end
mutual
def PV.depth : PV → Nat
  | .tup xs => PV.depths xs + 1
  | .ktup xs => PV.depths xs + 1
  | .lst xs => PV.depths xs + 1
  | _ => 0
def PV.depths : List PV → Nat
  | [] => 0
  | x :: xs => max x.depth (PV.depths xs)
end
/-- fit for a comparison -/
def PV.fit (x : PV) : Bool := x.plain && decide (x.depth ≤ 190)
abbrev pvEq (x y : PV) : Bool := PyData.eqv x.toD y.toD
mutual
theorem toD_depth : ∀ x : PV, x.plain = true → x.toD.depth = x.depth
  | .non, _ => rfl
  | .bl _, _ => rfl
  | .int _, _ => rfl
  | .str _, _ => rfl
  | .tup xs, h => by
    show PyData.depthAll (PV.toDs xs) + 1 = PV.depths xs + 1
    rw [toDs_depth xs h]
  | .ktup xs, h => by
    show PyData.depthAll (PV.toDs xs) + 1 = PV.depths xs + 1
    rw [toDs_depth xs h]
  | .lst xs, h => by
    show PyData.depthAll (PV.toDs xs) + 1 = PV.depths xs + 1
    rw [toDs_depth xs h]
  | .dic _ _, h => by cases h
  | .ins _ _ _, h => by cases h
theorem toDs_depth : ∀ xs : List PV, PV.plains xs = true → PyData.depthAll (PV.toDs xs) = PV.depths xs
  | [], _ => rfl
  | x :: xs, h => by
    have h := Bool.and_eq_true_iff.mp (show (x.plain && PV.plains xs) = true from h)
    show max x.toD.depth (PyData.depthAll (PV.toDs xs)) = max x.depth (PV.depths xs)
    rw [toD_depth x h.1, toDs_depth xs h.2]
end
section
variable {K : PySem.W.Frag} {g : G} {Z H : Hp}
mutual
theorem Rep.dp (e : Same Z H) : ∀ {x : PV} {v : V}, x.plain = true → Rep g Z v x → Dp g.K H v x.toD ∧ x.toD.canLay0 = true
  | .non, _, _, h => by cases h; exact ⟨.non, rfl⟩
  | .bl _, _, _, h => by cases h; exact ⟨.bl _, rfl⟩
  | .int _, _, _, h => by cases h; exact ⟨.int _, rfl⟩
  | .str _, _, _, h => by cases h with | str _ q => exact ⟨.str _, q⟩
  | .tup _, _, p, h => by cases h with | tup h l r => exact ⟨.tup (Same.sqt e h.sqt) (Reps.dp e p r).1, (Reps.dp e p r).2⟩
  | .ktup _, _, p, h => by cases h with | ktup h l r => exact ⟨.tup (.inl (.inl (e _ _ h))) (Reps.dp e p r).1, (Reps.dp e p r).2⟩
  | .lst _, _, p, h => by cases h with | lst h l r => exact ⟨.lst (Same.sql e h) (Reps.dp e p r).1, (Reps.dp e p r).2⟩
  | .dic _ _, _, p, h => by cases p
  | .ins _ _ _, _, p, h => by cases p
theorem Reps.dp (e : Same Z H) : ∀ {xs : List PV} {vs : List V}, PV.plains xs = true → Reps g Z vs xs → DpAll g.K H vs (PV.toDs xs) ∧ PyData.canLayAll0 (PV.toDs xs) = true
  | [], _, _, h => by cases h; exact ⟨.nil, rfl⟩
  | x :: xs, _, p, h => by
    have p := Bool.and_eq_true_iff.mp (show (x.plain && PV.plains xs) = true from p)
    cases h with
    | cons a b =>
      have h1 := Rep.dp e p.1 a
      have h2 := Reps.dp e p.2 b
      exact ⟨.cons h1.1 h2.1, Bool.and_eq_true_iff.mpr ⟨h1.2, h2.2⟩⟩
end
end
section
variable {X : Cx} {W : WX} {a b c : Expr} {da db dc : Den PV} {pos : Pos} {r : R2} {q : PV → PV → Option PV} {k : Nat}
/-- data under a comparison -/
def rDD (K : PySem.W.Frag) (n : Nat) (F : PyData → PyData → Bool) : R2 := fun x y H Q => ∃ d e, Dp K H x d ∧ Dp K H y e ∧ d.canLay0 = true ∧ e.canLay0 = true ∧ d.depth ≤ n ∧ e.depth ≤ n ∧ Q (.bl (F d e)) H
theorem op_eqP (hr : RoomG k X.A) : OpR X (compareOp .Eq) (rDD X.K 190 PyData.eqv) := by
  intro pins s σ H x y v u Q I rx ry h
  obtain ⟨d, e, hd, he, sd, se, l1, l2, q⟩ := h
  obtain ⟨as, r1⟩ := Dp.reads I d x v hd rx
  obtain ⟨bs, r2⟩ := Dp.reads I e y u he ry
  exact SeqAt.compareEq_reads r1 r2 sd se (by have := hr.un; have : min d.depth e.depth ≤ d.depth := Nat.min_le_left _ _; omega) ⟨.bl _, H, I, rfl, q⟩
theorem op_neP (hr : RoomG k X.A) : OpR X (compareOp .NotEq) (rDD X.K 190 fun d e => !PyData.eqv d e) := by
  intro pins s σ H x y v u Q I rx ry h
  obtain ⟨d, e, hd, he, sd, se, l1, l2, q⟩ := h
  obtain ⟨as, r1⟩ := Dp.reads I d x v hd rx
  obtain ⟨bs, r2⟩ := Dp.reads I e y u he ry
  exact SeqAt.compareNe_reads r1 r2 sd se (by have := hr.un; have : min d.depth e.depth ≤ d.depth := Nat.min_le_left _ _; omega) ⟨.bl _, H, I, rfl, q⟩
def qEq : PV → PV → Option PV := fun x y => if x.fit = true ∧ y.fit = true then some (.bl (pvEq x y)) else none
def qNe : PV → PV → Option PV := fun x y => if x.fit = true ∧ y.fit = true then some (.bl (!pvEq x y)) else none
theorem opP_DD {g : G} {F : PyData → PyData → Bool} : OpP g (rDD g.K 190 F) (fun x y => if x.fit = true ∧ y.fit = true then some (.bl (F x.toD y.toD)) else none) := fun Z H u w x y v Q s r1 r2 e hq => by
  obtain ⟨⟨f1, f2⟩, rfl⟩ := of_ite e
  obtain ⟨p1, l1⟩ := Bool.and_eq_true_iff.mp f1
  obtain ⟨p2, l2⟩ := Bool.and_eq_true_iff.mp f2
  obtain ⟨d1, c1⟩ := r1.dp s p1
  obtain ⟨d2, c2⟩ := r2.dp s p2
  exact ⟨_, _, d1, d2, c1, c2, by rw [toD_depth x p1]; exact of_decide_eq_true l1, by rw [toD_depth y p2]; exact of_decide_eq_true l2, hq _ (.bl _)⟩
theorem pe_cmpRx {op : CmpOp} {ta tb : TE} (ho : OpR X (compareOp op) r) (ha : PE X a ta) (hb : PE X b tb) (hm : behindInMarks op b = false) : PE X (.Compare a [op] [b] pos) (tOp r ta tb) := pe_cmpR ho ha hb hm
theorem px_cmp {op : CmpOp} (ho : OpR X (compareOp op) r) (hp : OpP (gOf X) r q) (ha : PX X W a da) (hb : PX X W b db) (hm : behindInMarks op b = false) : PX X W (.Compare a [op] [b] pos) (dOp q da db) := peimp (pe_cmpR ho ha hb hm) fun _ _ _ h => t_op hp h
/-- as a test -/
theorem tB_imp {t t' : TE} {σ : L2.St} {H : Hp} {Q : Bool → Hp → Prop} (w : ∀ Q, t' σ H Q → t σ H Q) (h : tB t' σ H Q) : tB t σ H Q := w _ h
theorem ptx_cmp {op : CmpOp} (ho : OpR X (compareOp op) r) (hp : OpP (gOf X) r q) (ha : PX X W a da) (hb : PX X W b db) (hm : behindInMarks op b = false) : PTX X W (.Compare a [op] [b] pos) (dOp q da db) :=
  ptimp (pt_cmpR ho ha hb hm) fun _ _ _ h => tB_imp (fun _ h => t_op hp h) h
theorem px_eq (hr : RoomG k X.A) (ha : PX X W a da) (hb : PX X W b db) : PX X W (.Compare a [.Eq] [b] pos) (dOp qEq da db) := px_cmp (op_eqP hr) opP_DD ha hb (nomark _)
theorem px_ne (hr : RoomG k X.A) (ha : PX X W a da) (hb : PX X W b db) : PX X W (.Compare a [.NotEq] [b] pos) (dOp qNe da db) := px_cmp (op_neP hr) opP_DD ha hb (nomark _)
theorem ptx_eq (hr : RoomG k X.A) (ha : PX X W a da) (hb : PX X W b db) : PTX X W (.Compare a [.Eq] [b] pos) (dOp qEq da db) := ptx_cmp (op_eqP hr) opP_DD ha hb (nomark _)
theorem ptx_ne (hr : RoomG k X.A) (ha : PX X W a da) (hb : PX X W b db) : PTX X W (.Compare a [.NotEq] [b] pos) (dOp qNe da db) := ptx_cmp (op_neP hr) opP_DD ha hb (nomark _)
end
end Pu
set_option Elab.async false
set_option linter.all false
set_option maxRecDepth 100000
set_option maxHeartbeats 4000000
/-! Pu, part C: tuples whose object is known; displays, items, slices, and, or, not, if. -/
namespace Pu
open PySem PySem.Spec PyProof.Rows L2

/-! ### tuples, laid as known objects -/
section
variable {X : Cx} {pins : List (Addr × Obj)} {σ : L2.St} {H : Hp} {s : Shared}
/-- a new tuple's object -/
theorem lay_tup {xs : List V} {us : List Value} {t' : Nat} (I : Inv X pins σ H s) (z : xs.length ≤ sizeLine) (r : Vals xs us) {Q : VK} (q : ∀ p o, H p = none → o.dict = none → Q (.ref p) (upd H p (.frz o (.tup xs)))) :
    EP X pins σ Q (.ref s.heap.objs.size) { s with heap := s.heap.push { cls := .type "tuple", data := .seq us.toArray }, toks := t' } := by
  have hf : H s.heap.objs.size = none := I.hok.fresh (Nat.le_refl _)
  refine ⟨.ref s.heap.objs.size, upd H s.heap.objs.size (.frz { cls := .type "tuple", data := .seq us.toArray } (.tup xs)), I.laid (t' := t') (fun b u e => Heap.get?_push_of_some _ e) (Nat.le_refl _) ?_, rfl, q _ _ hf rfl⟩
  exact ⟨Heap.get?_push_size _ rfl, z, us, r, ⟨_, Heap.get?_push_size _ rfl, rfl, _, rfl⟩⟩
def tTupF (t : TA) : TE := fun σ H Q => t σ H fun xs H1 => xs.length ≤ sizeLine ∧ ∀ p o, H1 p = none → o.dict = none → Q (.ref p) (upd H1 p (.frz o (.tup xs)))
theorem pe_tupF {es : List Expr} {t : TA} {pos : Pos} {x1} (h : PA X es t) : PE X (.Tuple es x1 pos) (tTupF t) := by
  refine ⟨fun pins s σ H Q I hq => ?_⟩
  refine wpAny_Tuple_spliced (thn (h.run pos pins s σ H _ I hq) fun us s1 ⟨xs, H1, I1, r, z, q⟩ => ⟨by rw [← r.length]; exact z, ?_⟩)
  exact lay_tup (t' := s1.toks) I1 z r q
def rSlF (K : PySem.W.Frag) : V → Option Int → Option Int → Hp → VK → Prop := fun x lo hi H Q => ∃ a xs, x = .ref a ∧ SqT K H a xs ∧
  (HT.sIx xs.length 0 lo = 0 ∧ HT.sIx xs.length xs.length hi = xs.length → Q (.ref a) H) ∧ (¬ (HT.sIx xs.length 0 lo = 0 ∧ HT.sIx xs.length xs.length hi = xs.length) → ∀ p o, H p = none → o.dict = none → Q (.ref p) (upd H p (.frz o (.tup (cutV xs lo hi)))))
theorem sl_tupF : SlR X (rSlF X.K) := by
  intro pins s σ H x v vl vu lo hi sl Q I rx hs pl pu h
  obtain ⟨a, xs, rfl, hx, q1, q2⟩ := h
  cases rx
  obtain ⟨its, r, ht, hz⟩ := I.tuple hx
  have hlen : its.toArray.size = xs.length := by rw [List.size_toArray]; exact r.length.symm
  refine ⟨"tuple", _, PyProof.Rows.slot_tuple_getitem.lookup, ht.typeIs, ?_⟩
  by_cases hw : HT.sIx xs.length 0 lo = 0 ∧ HT.sIx xs.length xs.length hi = xs.length
  · exact getItem_tuple_whole ht hs pl pu (by rw [hlen]; exact hw) ⟨.ref a, H, I, rfl, q1 hw⟩
  · refine HT.getItem_tuple_cut ht hs pl pu (by rw [hlen]; exact hw) ?_ (by rw [hlen]; exact hz)
    rw [hlen]
    exact lay_tup (t' := s.toks) I (Nat.le_trans (cutV_length xs lo hi) hz) ((r.drop (HT.sIx xs.length 0 lo)).take (HT.sIx xs.length xs.length hi - HT.sIx xs.length 0 lo)) (q2 hw)
def rCatF (K : PySem.W.Frag) : R2 := fun x y H Q => ∃ a b xs ys, x = .ref a ∧ y = .ref b ∧ SqT K H a xs ∧ SqT K H b ys ∧ xs.length + ys.length ≤ sizeLine ∧
  (xs = [] → Q (.ref b) H) ∧ (xs ≠ [] → ys = [] → Q (.ref a) H) ∧ (xs ≠ [] → ys ≠ [] → ∀ p o, H p = none → o.dict = none → Q (.ref p) (upd H p (.frz o (.tup (xs ++ ys)))))
theorem op_catF : OpR X (binaryOp .Add) (rCatF X.K) := by
  intro pins s σ H x y v u Q I rx ry h
  obtain ⟨a, b, xs, ys, rfl, rfl, ha, hb, hz, q0, q1, q2⟩ := h
  cases rx
  cases ry
  obtain ⟨its, r1, p1, _⟩ := I.tuple ha
  obtain ⟨its2, r2, p2, _⟩ := I.tuple hb
  by_cases hx : xs = []
  · subst hx
    cases r1
    exact cat_tup0 p1 p2 ⟨.ref b, H, I, rfl, q0 rfl⟩
  · refine HT.cat_tup p1 p2 (fun z => hx (r1.nil_iff.mp z)) (fun z => ⟨.ref a, H, I, rfl, q1 hx (r2.nil_iff.mp z)⟩) (fun z => ?_) (by rw [← r1.length, ← r2.length]; exact hz)
    exact lay_tup (t' := s.toks) I (by rw [List.length_append]; exact hz) (r1.append r2) (q2 hx fun w => z (r2.nil_iff.mpr w))
/-- tuple(list), tuple(tuple) -/
theorem call_tupF : CallR X (.type "tuple") (fun xs H Q => ∃ p ys, xs = [.ref p] ∧ ((SqL X.K H p ys ∧ ∀ l o, H l = none → o.dict = none → Q (.ref l) (upd H l (.frz o (.tup ys)))) ∨ (SqT X.K H p ys ∧ Q (.ref p) H))) := by
  intro pins s σ H xs us Q I r h
  obtain ⟨p, ys, rfl, h⟩ := h
  obtain ⟨u, rfl, rx⟩ := vals1 r
  cases rx
  rcases h with ⟨hq, q⟩ | ⟨hq, q⟩
  · obtain ⟨its, r', pl, hz⟩ := I.list hq
    have hlen := r'.length
    refine call_tuple_list pl.isList (fun h' kp => ?_) (by simp only [List.size_toArray] <;> omega)
    have I1 : Inv X pins σ H { s with heap := h' } := I.kept (t' := s.toks) kp
    exact lay_tup (s := { s with heap := h' }) (t' := s.toks) I1 hz r' q
  · obtain ⟨its, r', pl, hz⟩ := I.tuple hq
    exact call_tuple_same pl ⟨.ref p, H, I, rfl, q⟩
def tTupRgF (te : L2.St → Hp → (Int → Int → Hp → Prop) → Prop) : TE := fun σ H Q => te σ H fun a b H1 => RgOk a b ∧ ∀ q o, H1 q = none → o.dict = none → Q (.ref q) (upd H1 q (.frz o (.tup (rgV a b))))
theorem pe_tupRgF {e : Expr} {te : L2.St → Hp → (Int → Int → Hp → Prop) → Prop} {p pos : Pos} (hc : X.calm = true) (hg : Gl X "tuple") (hm : X.mg "tuple" = none) (he : PRg X e te) (na : starEach [e] X.env = (false, eval e X.env) :: starEach [] X.env := by rfl) : PE X (.Call (.Name "tuple" p) [e] [] pos) (tTupRgF te) := by
  refine ⟨fun pins s σ H Q I h => ?_⟩
  refine Call_ (ld_blt I hg hm boot_tuple (PyProof.Rows.callWith_type1 (args_cons (thn (he pins s σ H _ I h) fun x s1 ⟨r, a, b, t, u, v, H1, ex, hr, I1, ok, q⟩ => args_nil ?_) na) na))
  subst ex
  obtain ⟨b1, b2, b3, b4, b5⟩ := ok
  refine call_tuple_range (n := (b - a).toNat) (I1.ok.hd hc) hr (small_one b1 b2 b3 b4) (rangeSize_nat a b) b5 fun h' tk acc hk hi => ?_
  have I2 : Inv X pins σ H1 { s1 with heap := h', toks := tk } := I1.kept hk
  have z : (rgV a b).length ≤ sizeLine := by rw [rgV_length, sizeLine_eq]; omega
  have q := lay_tup (s := { s1 with heap := h', toks := tk }) (t' := tk) I2 z (vals_rg hi) q
  rw [Array.toArray_toList] at q
  exact q
end

/-! ### representing new tuples and lists -/
section
variable {g : G} {f : Frm} {Z H Z' H' : Hp} {σ : L2.St} {env : Cells}
/-- a new tuple of represented data is represented -/
theorem StOk.tupF (st : StOk g f Z H σ env) {p : Addr} {o : Obj} {vs : List V} {xs : List PV} (n : H p = none) (d : o.dict = none) (l : vs.length ≤ sizeLine) (r : Reps g Z vs xs) :
    ∃ Z', Same Z Z' ∧ StOk g f Z' (upd H p (.frz o (.tup vs))) σ env ∧ Rep g Z' (.ref p) (.tup xs) :=
  ⟨upd Z p (.frz o (.tup vs)), same_upd (st.zn n), st.lay n, .tup (.inl ⟨o, upd_same, d⟩) l (r.mono (same_upd (st.zn n)))⟩
/-- a new list, frozen at once -/
theorem StOk.lstF (st : StOk g f Z H σ env) {p : Addr} {vs : List V} {xs : List PV} (n : H p = none) (l : vs.length ≤ sizeLine) (r : Reps g Z vs xs) :
    ∃ Z', Same Z Z' ∧ StOk g f Z' (upd H p (.lst vs)) σ env ∧ Rep g Z' (.ref p) (.lst xs) :=
  ⟨upd Z p (.lst vs), same_upd (st.zn n), st.lay n, .lst (.inl (.inl upd_same)) l (r.mono (same_upd (st.zn n)))⟩
/-- an own list: not frozen, no cell's -/
def RO (g : G) (f : Frm) (σ : L2.St) : Hp → Hp → Cells → V → List PV → Prop := fun Z H e b xs =>
  ∃ p vs, b = .ref p ∧ Z p = none ∧ H p = some (.lst vs) ∧ vs.length ≤ sizeLine ∧ Reps g Z vs xs ∧ f.H p = none ∧ ¬ Muts σ e p
theorem StOk.fH (st : StOk g f Z H σ env) {p : Addr} (n : H p = none) : f.H p = none := by
  cases e : f.H p with
  | none => rfl
  | some o => obtain ⟨o', q⟩ := st.pr p o e; rw [n] at q; cases q
theorem StOk.own (st : StOk g f Z H σ env) {p : Addr} {vs : List V} {xs : List PV} (n : H p = none) (l : vs.length ≤ sizeLine) (r : Reps g Z vs xs) :
    StOk g f Z (upd H p (.lst vs)) σ env ∧ RO g f σ Z (upd H p (.lst vs)) env (.ref p) xs :=
  ⟨st.new n, p, vs, rfl, st.zn n, upd_same, l, r, st.fH n, fun m => by obtain ⟨_, ⟨o, q⟩, _⟩ := st.muts m; rw [n] at q; cases q⟩
/-- an own list is frozen -/
theorem StOk.ownF (st : StOk g f Z H σ env) {b : V} {xs : List PV} (r : RO g f σ Z H env b xs) : ∃ Z', Same Z Z' ∧ StOk g f Z' H σ env ∧ Rep g Z' b (.lst xs) := by
  obtain ⟨p, vs, rfl, n, hH, l, r, fn, nm⟩ := r
  have zz : Same Z (upd Z p (.lst vs)) := same_upd n
  refine ⟨upd Z p (.lst vs), zz, ⟨st.z0.trans zz, fun b u q => ?_, st.fr, fun b o q m z => ?_, st.pr, st.mh, st.ln, fun j c ej => ?_, st.sep⟩, .lst (.inl (.inl upd_same)) l (r.mono zz)⟩
  · by_cases hb : b = p
    · subst hb; rw [upd_same] at q; cases q; exact hH
    · rw [upd_ne hb] at q; exact st.zh _ _ q
  · have : b ≠ p := fun z => by subst z; rw [fn] at q; cases q
    rw [upd_ne this]; exact st.nz b o q m z
  · have q := st.sl j c ej
    cases c with
    | un => trivial
    | v x => obtain ⟨v, e1, r1⟩ := q; exact ⟨v, e1, r1.mono zz⟩
    | m own zs =>
      obtain ⟨b, ws, e1, e2, e3, l', r', e4⟩ := q
      have : b ≠ p := fun z => by subst z; exact nm ⟨j, _, ej, rfl, e1⟩
      exact ⟨b, ws, e1, by rw [upd_ne this]; exact e2, e3, l', r'.mono zz, e4⟩
    | d own ks ws =>
      obtain ⟨b, kvs, e1, e2, e3, l', hk, ho, r', e4⟩ := q
      have : b ≠ p := fun z => by subst z; exact nm ⟨j, _, ej, rfl, e1⟩
      exact ⟨b, kvs, e1, by rw [upd_ne this]; exact e2, e3, l', hk, ho, r'.mono zz, e4⟩
    | o own c ns ws =>
      obtain ⟨b, fs, e1, e2, e3, hk, r', e4⟩ := q
      have : b ≠ p := fun z => by subst z; exact nm ⟨j, _, ej, rfl, e1⟩
      exact ⟨b, fs, e1, by rw [upd_ne this]; exact e2, e3, hk, r'.mono zz, e4⟩
end

/-- an expression that makes a list of its own -/
def tO (g : G) (W : WX) (d : Den (List PV)) : TE := fun σ H Q => ∃ f Z env, At g W f Z env d (RO g f σ) Q σ H
abbrev PO' (X : Cx) (W : WX) (e : Expr) (d : Den (List PV)) : Prop := PE X e (tO (gOf X) W d)
def dLstOf (d : Den (List PV)) : Den PV := d.bind fun xs => Den.ret (.lst xs)
section
variable {X : Cx} {W : WX} {a b c e : Expr} {es : List Expr} {da db dc : Den PV} {ds : Den (List PV)} {pos : Pos} {k : Nat}
/-- .. handed on as data -/
theorem px_own {d : Den (List PV)} (h : PO' X W e d) : PX X W e (dLstOf d) := peimp h fun σ H Q ⟨f, Z, env, a⟩ =>
  ⟨f, Z, env, a.bind.imp fun u H1 ⟨Z1, env1, xs, s1, r1, a1⟩ => by
    obtain ⟨Z2, s2, st2, r2⟩ := a1.st.ownF r1
    exact a1.ret u Z2 H1 s2 st2 r2⟩

/-! ### arguments, displays -/
def dNil : Den (List PV) := Den.ret []
def dCons (d : Den PV) (ds : Den (List PV)) : Den (List PV) := d.bind fun x => ds.bind fun xs => Den.ret (x :: xs)
theorem pax_nil : PAX X W [] dNil := paimp pa_nil fun σ H Q ⟨f, Z, env, a⟩ => a.ret [] Z H (Same.refl _) a.st .nil
theorem pax_cons (ha : PX X W a da) (hr : PAX X W es ds) (hs : starEach (a :: es) X.env = (false, eval a X.env) :: starEach es X.env := by rfl) : PAX X W (a :: es) (dCons da ds) := paimp (pa_cons ha hr hs) fun σ H Q ⟨f, Z, env, a⟩ => by
  refine (a.bind.imp fun u H1 ⟨Z1, env1, x, s1, r1, a1⟩ => ?_).here
  refine (a1.bind.imp fun us H2 ⟨Z2, env2, xs, s2, r2, a2⟩ => ?_).heres
  exact a2.ret (u :: us) Z2 H2 (Same.refl _) a2.st (.cons (r1.mono s2) r2)
def dTup (d : Den (List PV)) : Den PV := d.bind fun xs => Den.lift (if xs.length ≤ 1000 then some (.tup xs) else none)
theorem le1000 {n : Nat} (h : n ≤ 1000) : n ≤ sizeLine := Nat.le_trans h (by decide)
theorem px_tup {x1} (h : PAX X W es ds) : PX X W (.Tuple es x1 pos) (dTup ds) := peimp (pe_tupF h) fun σ H Q ⟨f, Z, env, a⟩ => by
  refine (a.bind.imp fun us H1 ⟨Z1, env1, xs, s1, r1, a1⟩ => ?_).heres
  obtain ⟨v, e, k⟩ := a1.lift
  obtain ⟨l, rfl⟩ := of_ite e
  have l' : us.length ≤ sizeLine := le1000 (by rw [r1.length]; exact l)
  refine ⟨l', fun p o n d => ?_⟩
  obtain ⟨Z2, s2, st2, r2⟩ := a1.st.tupF n d l' r1
  exact k _ Z2 _ s2 st2 r2
def dShort (d : Den (List PV)) : Den (List PV) := d.bind fun xs => Den.lift (if xs.length ≤ 1000 then some xs else none)
theorem po_lst (h : PAX X W es ds) : PO' X W (.List es pos) (dShort ds) := peimp (pe_lst h) fun σ H Q ⟨f, Z, env, a⟩ => by
  refine (a.bind.imp fun us H1 ⟨Z1, env1, xs, s1, r1, a1⟩ => ?_).heres
  obtain ⟨v, e, k⟩ := a1.lift
  obtain ⟨l, rfl⟩ := of_ite e
  have l' : us.length ≤ sizeLine := le1000 (by rw [r1.length]; exact l)
  refine ⟨l', fun p n => ?_⟩
  obtain ⟨st2, r2⟩ := a1.st.own n l' r1
  exact k _ Z1 _ (Same.refl _) st2 r2

/-! ### and, or, not, if -/
def dBool {α : Type} (d : Den PV) (k : Bool → Den α) : Den α := d.bind fun x => match x with
  | .bl b => k b
  | _ => fun _ => none
def dAnd (da db : Den PV) : Den PV := dBool da fun b => if b then db else Den.ret (.bl false)
def dOr (da db : Den PV) : Den PV := dBool da fun b => if b then Den.ret (.bl true) else db
def dNot (da : Den PV) : Den PV := dBool da fun b => Den.ret (.bl (!b))
def dIf (dc da db : Den PV) : Den PV := dBool dc fun b => if b then da else db
theorem At.bool {α β : Type} {g : G} {f : Frm} {Z H : Hp} {σ : L2.St} {env : Cells} {d : Den PV} {k : Bool → Den α} {R2 : Hp → Hp → Cells → β → α → Prop} {Q : β → Hp → Prop} (h : At g W f Z env (dBool d k) R2 Q σ H) :
    At g W f Z env d (RV g) (fun u H1 => ∃ Z1 env1 b, Same Z Z1 ∧ u = .bl b ∧ At g W f Z1 env1 (k b) R2 Q σ H1) σ H :=
  h.bind.imp fun u H1 ⟨Z1, env1, x, s1, r1, a1⟩ => by
    cases x with
    | bl b => cases r1; exact ⟨Z1, env1, b, s1, rfl, a1⟩
    | _ => obtain ⟨_, _, e, _⟩ := a1; cases e
theorem At.tB {g : G} {f : Frm} {Z H : Hp} {σ : L2.St} {env : Cells} {d : Den PV} {Q : Bool → Hp → Prop} (h : At g W f Z env d (RV g) (fun x H1 => ∃ c, x = .bl c ∧ Q c H1) σ H) : L2.tB (tP g W d) σ H Q := ⟨f, Z, env, h⟩
theorem px_one {op} (h : PX X W a da) : PX X W (.BoolOp op [a] pos) da := pe_one h
theorem px_and {rest : List Expr} (ha : PX X W a da) (hb : PX X W (.BoolOp .And (b :: rest) pos) db) : PX X W (.BoolOp .And (a :: b :: rest) pos) (dAnd da db) := peimp (pe_and ha hb) fun σ H Q ⟨f, Z, env, a⟩ => by
  refine (a.bool.imp fun u H1 ⟨Z1, env1, c, s1, e, a1⟩ => ⟨c, e, ?_⟩).here
  cases c with
  | true => exact a1.here
  | false => exact a1.ret _ Z1 H1 (Same.refl _) a1.st (.bl _)
theorem px_or {rest : List Expr} (ha : PX X W a da) (hb : PX X W (.BoolOp .Or (b :: rest) pos) db) : PX X W (.BoolOp .Or (a :: b :: rest) pos) (dOr da db) := peimp (pe_or ha hb) fun σ H Q ⟨f, Z, env, a⟩ => by
  refine (a.bool.imp fun u H1 ⟨Z1, env1, c, s1, e, a1⟩ => ⟨c, e, ?_⟩).here
  cases c with
  | false => exact a1.here
  | true => exact a1.ret _ Z1 H1 (Same.refl _) a1.st (.bl _)
theorem px_not (ha : PX X W a da) : PX X W (.UnaryOp .Not a pos) (dNot da) := peimp (pe_not ha) fun σ H Q ⟨f, Z, env, a⟩ => by
  refine (a.bool.imp fun u H1 ⟨Z1, env1, c, s1, e, a1⟩ => ⟨c, e, ?_⟩).here
  exact a1.ret _ Z1 H1 (Same.refl _) a1.st (.bl _)
/-- tests -/
theorem ptx_val (h : PX X W e da) (he : ∀ whole, isTrue e X.env whole = (do let v ← whole; standAt e.pos; holding [v] (truthy v)) := by intro _; rfl) : PTX X W e da := pt_val h he
theorem ptx_not (ha : PTX X W a da) : PTX X W (.UnaryOp .Not a pos) (dNot da) := ptimp (pt_not ha) fun σ H Q ⟨f, Z, env, a⟩ => by
  refine (a.bool.imp fun u H1 ⟨Z1, env1, c, s1, e, a1⟩ => ⟨c, e, ?_⟩).tB
  obtain ⟨d, e2, q⟩ := a1.ret _ Z1 H1 (Same.refl _) a1.st (.bl _)
  cases e2
  exact q
theorem pwx_and1 (ha : PTX X W a da) : PWX X W (.BoolOp .And [a] pos) da := pw_and1 ha
theorem pwx_or1 (ha : PTX X W a da) : PWX X W (.BoolOp .Or [a] pos) da := pw_or1 ha
theorem pwx_and {rest : List Expr} (ha : PTX X W a da) (hb : PWX X W (.BoolOp .And (b :: rest) pos) db) : PWX X W (.BoolOp .And (a :: b :: rest) pos) (dAnd da db) := pwimp (pw_and ha hb) fun σ H Q ⟨f, Z, env, a⟩ => by
  refine (a.bool.imp fun u H1 ⟨Z1, env1, c, s1, e, a1⟩ => ⟨c, e, ?_⟩).tB
  cases c with
  | true => exact (show At (gOf X) W f Z1 env1 db (RV (gOf X)) _ σ H1 from a1).tB
  | false =>
    obtain ⟨d, e2, q⟩ := a1.ret _ Z1 H1 (Same.refl _) a1.st (.bl _)
    cases e2
    exact q
theorem pwx_or {rest : List Expr} (ha : PTX X W a da) (hb : PWX X W (.BoolOp .Or (b :: rest) pos) db) : PWX X W (.BoolOp .Or (a :: b :: rest) pos) (dOr da db) := pwimp (pw_or ha hb) fun σ H Q ⟨f, Z, env, a⟩ => by
  refine (a.bool.imp fun u H1 ⟨Z1, env1, c, s1, e, a1⟩ => ⟨c, e, ?_⟩).tB
  cases c with
  | false => exact (show At (gOf X) W f Z1 env1 db (RV (gOf X)) _ σ H1 from a1).tB
  | true =>
    obtain ⟨d, e2, q⟩ := a1.ret _ Z1 H1 (Same.refl _) a1.st (.bl _)
    cases e2
    exact q
theorem ptx_w (h : PWX X W e da) : PTX X W e da := h.pt
theorem px_if {t : Expr} {dt : Den PV} (ht : PTX X W t dt) (ha : PX X W a da) (hb : PX X W b db) : PX X W (.IfExp t a b pos) (dIf dt da db) := peimp (pe_ifExp ht ha hb) fun σ H Q ⟨f, Z, env, a⟩ => by
  refine (a.bool.imp fun u H1 ⟨Z1, env1, c, s1, e, a1⟩ => ⟨c, e, ?_⟩).tB
  cases c with
  | true => exact (show At (gOf X) W f Z1 env1 da (RV (gOf X)) Q σ H1 from a1).here
  | false => exact (show At (gOf X) W f Z1 env1 db (RV (gOf X)) Q σ H1 from a1).here
end
end Pu
set_option Elab.async false
set_option linter.all false
set_option maxRecDepth 100000
set_option maxHeartbeats 4000000
/-! Pu, part D: calls of built-ins and of own defs; items, slices; order; in. -/
namespace Pu
open PySem PySem.Spec PyProof.Rows L2

/-! ### built-ins by values -/
section
variable {X : Cx} {W : WX} {a b c e : Expr} {es : List Expr} {da db dc : Den PV} {ds : Den (List PV)} {p pos : Pos} {x : Str} {k : Nat}
/-- what a built-in yields of data -/
def CallP (g : G) (W : WX) (r : List V → Hp → VK → Prop) (q : List PV → Option PV) : Prop :=
  ∀ (f : Frm) (Z : Hp) (env : Cells) (σ : L2.St) (H : Hp) (us : List V) (xs : List PV) (v : PV) (Q : VK), StOk g f Z H σ env → Reps g Z us xs → q xs = some v →
    (∀ u Z' H', Same Z Z' → StOk g f Z' H' σ env → Rep g Z' u v → Q u H') → r us H Q
/-- .. a list of its own -/
def CallO (g : G) (W : WX) (r : List V → Hp → VK → Prop) (q : List PV → Option (List PV)) : Prop :=
  ∀ (f : Frm) (Z : Hp) (env : Cells) (σ : L2.St) (H : Hp) (us : List V) (xs : List PV) (v : List PV) (Q : VK), StOk g f Z H σ env → Reps g Z us xs → q xs = some v →
    (∀ u Z' H', Same Z Z' → StOk g f Z' H' σ env → RO g f σ Z' H' env u v → Q u H') → r us H Q
def dArgs {α : Type} (q : List PV → Option α) (ds : Den (List PV)) : Den α := ds.bind fun xs => Den.lift (q xs)
theorem px_callB {id : String} {r : List V → Hp → VK → Prop} {q : List PV → Option PV} (hc : CallR X (.builtin id) r) (hp : CallP (gOf X) W r q) (hg : Gl X x) (hm : X.mg x = none) (hv : bootBuiltins x = some (.builtin id)) (ha : PAX X W (e :: es) ds)
    (hn : x ≠ "__name__" := by decide) (hdb : (x == ("__debug__" : Str)) = false := by decide)
    (he : starEach (e :: es) X.env = (false, eval e X.env) :: starEach es X.env := by rfl) (hpl : (backTo pos (starEach es X.env)).any (·.1) = false := by rfl) : PX X W (.Call (.Name x p) (e :: es) [] pos) (dArgs q ds) :=
  peimp (pe_callB hc hg hm hv ha hn hdb he hpl) fun σ H Q ⟨f, Z, env, a⟩ => (a.bind.imp fun us H1 ⟨Z1, env1, xs, s1, r1, a1⟩ => by
    obtain ⟨v, e, k⟩ := a1.lift
    exact hp f Z1 env1 σ H1 us xs v Q a1.st r1 e k).heres
theorem px_callTy {T : String} {r : List V → Hp → VK → Prop} {q : List PV → Option PV} (hc : CallR X (.type T) r) (hp : CallP (gOf X) W r q) (hg : Gl X x) (hm : X.mg x = none) (hv : bootBuiltins x = some (.type T)) (ha : PAX X W (e :: es) ds)
    (hn : x ≠ "__name__" := by decide) (hdb : (x == ("__debug__" : Str)) = false := by decide)
    (he : starEach (e :: es) X.env = (false, eval e X.env) :: starEach es X.env := by rfl) (hpl : (backTo pos (starEach es X.env)).any (·.1) = false := by rfl) : PX X W (.Call (.Name x p) (e :: es) [] pos) (dArgs q ds) :=
  peimp (pe_callTy hc hg hm hv ha hn hdb he hpl) fun σ H Q ⟨f, Z, env, a⟩ => (a.bind.imp fun us H1 ⟨Z1, env1, xs, s1, r1, a1⟩ => by
    obtain ⟨v, e, k⟩ := a1.lift
    exact hp f Z1 env1 σ H1 us xs v Q a1.st r1 e k).heres
theorem po_callB {id : String} {r : List V → Hp → VK → Prop} {q : List PV → Option (List PV)} (hc : CallR X (.builtin id) r) (hp : CallO (gOf X) W r q) (hg : Gl X x) (hm : X.mg x = none) (hv : bootBuiltins x = some (.builtin id)) (ha : PAX X W (e :: es) ds)
    (hn : x ≠ "__name__" := by decide) (hdb : (x == ("__debug__" : Str)) = false := by decide)
    (he : starEach (e :: es) X.env = (false, eval e X.env) :: starEach es X.env := by rfl) (hpl : (backTo pos (starEach es X.env)).any (·.1) = false := by rfl) : PO' X W (.Call (.Name x p) (e :: es) [] pos) (dArgs q ds) :=
  peimp (pe_callB hc hg hm hv ha hn hdb he hpl) fun σ H Q ⟨f, Z, env, a⟩ => (a.bind.imp fun us H1 ⟨Z1, env1, xs, s1, r1, a1⟩ => by
    obtain ⟨v, e, k⟩ := a1.lift
    exact hp f Z1 env1 σ H1 us xs v Q a1.st r1 e k).heres
theorem po_callTy {T : String} {r : List V → Hp → VK → Prop} {q : List PV → Option (List PV)} (hc : CallR X (.type T) r) (hp : CallO (gOf X) W r q) (hg : Gl X x) (hm : X.mg x = none) (hv : bootBuiltins x = some (.type T)) (ha : PAX X W (e :: es) ds)
    (hn : x ≠ "__name__" := by decide) (hdb : (x == ("__debug__" : Str)) = false := by decide)
    (he : starEach (e :: es) X.env = (false, eval e X.env) :: starEach es X.env := by rfl) (hpl : (backTo pos (starEach es X.env)).any (·.1) = false := by rfl) : PO' X W (.Call (.Name x p) (e :: es) [] pos) (dArgs q ds) :=
  peimp (pe_callTy hc hg hm hv ha hn hdb he hpl) fun σ H Q ⟨f, Z, env, a⟩ => (a.bind.imp fun us H1 ⟨Z1, env1, xs, s1, r1, a1⟩ => by
    obtain ⟨v, e, k⟩ := a1.lift
    exact hp f Z1 env1 σ H1 us xs v Q a1.st r1 e k).heres
end
/-- one argument -/
def one {α : Type} (q : PV → Option α) : List PV → Option α
  | [x] => q x
  | _ => none
theorem Reps.one {g : G} {Z : Hp} {us : List V} {x : PV} (h : Reps g Z us [x]) : ∃ u, us = [u] ∧ Rep g Z u x := by
  cases h with | cons a b => cases b; exact ⟨_, rfl, a⟩
theorem Reps.two {g : G} {Z : Hp} {us : List V} {x y : PV} (h : Reps g Z us [x, y]) : ∃ u w, us = [u, w] ∧ Rep g Z u x ∧ Rep g Z w y := by
  cases h with
  | cons a b => cases b with | cons c d => cases d; exact ⟨_, _, rfl, a, c⟩
theorem callP_one {g : G} {W : WX} {r : List V → Hp → VK → Prop} {q : PV → Option PV} (h : ∀ (f : Frm) (Z : Hp) (env : Cells) (σ : L2.St) (H : Hp) (u : V) (x v : PV) (Q : VK), StOk g f Z H σ env → Rep g Z u x → q x = some v →
    (∀ u Z' H', Same Z Z' → StOk g f Z' H' σ env → Rep g Z' u v → Q u H') → r [u] H Q) : CallP g W r (one q) := by
  intro f Z env σ H us xs v Q st rr e k
  unfold Pu.one at e
  split at e
  · obtain ⟨u, rfl, ru⟩ := rr.one
    exact h f Z env σ H u _ v Q st ru e k
  · cases e
theorem callO_one {g : G} {W : WX} {r : List V → Hp → VK → Prop} {q : PV → Option (List PV)} (h : ∀ (f : Frm) (Z : Hp) (env : Cells) (σ : L2.St) (H : Hp) (u : V) (x : PV) (v : List PV) (Q : VK), StOk g f Z H σ env → Rep g Z u x → q x = some v →
    (∀ u Z' H', Same Z Z' → StOk g f Z' H' σ env → RO g f σ Z' H' env u v → Q u H') → r [u] H Q) : CallO g W r (one q) := by
  intro f Z env σ H us xs v Q st rr e k
  unfold Pu.one at e
  split at e
  · obtain ⟨u, rfl, ru⟩ := rr.one
    exact h f Z env σ H u _ v Q st ru e k
  · cases e
/-- the items of a list or tuple, as they are read -/
theorem Rep.seq {g : G} {Z H : Hp} {u : V} {x : PV} {xs : List PV} (e : Same Z H) (r : Rep g Z u x) (hx : x = .tup xs ∨ x = .ktup xs ∨ x = .lst xs) :
    ∃ a vs, u = .ref a ∧ vs.length ≤ sizeLine ∧ Reps g Z vs xs ∧ ((x = .lst xs ∧ SqL g.K H a vs) ∨ (x ≠ .lst xs ∧ SqT g.K H a vs)) := by
  rcases hx with rfl | rfl | rfl
  · cases r with | tup h l r => exact ⟨_, _, rfl, l, r, .inr ⟨(by intro q; cases q), Same.sqt e h.sqt⟩⟩
  · cases r with | ktup h l r => exact ⟨_, _, rfl, l, r, .inr ⟨(by intro q; cases q), .inl (.inl (e _ _ h))⟩⟩
  · cases r with | lst h l r => exact ⟨_, _, rfl, l, r, .inl ⟨rfl, Same.sql e h⟩⟩
/-- the items of a list or tuple -/
def PV.items : PV → Option (List PV)
  | .tup xs => some xs
  | .ktup xs => some xs
  | .lst xs => some xs
  | _ => none
theorem PV.items_of {x : PV} {xs : List PV} (h : x.items = some xs) : x = .tup xs ∨ x = .ktup xs ∨ x = .lst xs := by
  cases x <;> cases h
  · exact .inl rfl
  · exact .inr (.inl rfl)
  · exact .inr (.inr rfl)

section
variable {X : Cx} {W : WX} {a b c e : Expr} {es : List Expr} {da db dc : Den PV} {ds : Den (List PV)} {p pos : Pos} {k : Nat} {g : G}
/-! ### len -/
def qLen1 : PV → Option PV
  | .str s => if s.length ≤ sizeLine then some (.int s.length) else none
  | x => x.items.map fun xs => .int xs.length
abbrev qLen := one qLen1
theorem call_lenP : CallR X (.builtin "len") (fun xs H Q => (∃ p ys, xs = [.ref p] ∧ (SqL X.K H p ys ∨ SqT X.K H p ys) ∧ Q (.int ys.length) H) ∨ ∃ z, xs = [.str z] ∧ z.length ≤ sizeLine ∧ Q (.int z.length) H) := call_len_seq.or call_len_str
theorem lenP : CallP (gOf X) W (fun xs H Q => (∃ p ys, xs = [.ref p] ∧ (SqL X.K H p ys ∨ SqT X.K H p ys) ∧ Q (.int ys.length) H) ∨ ∃ z, xs = [.str z] ∧ z.length ≤ sizeLine ∧ Q (.int z.length) H) qLen := by
  refine callP_one fun f Z env σ H u x v Q st ru e k => ?_
  unfold qLen1 at e
  split at e
  · cases ru
    obtain ⟨l, rfl⟩ := of_ite e
    exact .inr ⟨_, rfl, l, k _ Z H (Same.refl _) st (.int _)⟩
  · cases hi : x.items with
    | none => rw [hi] at e; cases e
    | some ys =>
      rw [hi] at e
      cases e
      obtain ⟨a, vs, rfl, _, rv, h⟩ := ru.seq st.zh (PV.items_of hi)
      refine .inl ⟨a, vs, rfl, ?_, ?_⟩
      · rcases h with h | h
        · exact .inl h.2
        · exact .inr h.2
      · rw [rv.length]; exact k _ Z H (Same.refl _) st (.int _)
theorem px_len (hg : Gl X "len") (hm : X.mg "len" = none) (ha : PAX X W [a] ds) (he : starEach [a] X.env = (false, eval a X.env) :: starEach [] X.env := by rfl) : PX X W (.Call (.Name "len" p) [a] [] pos) (dArgs qLen ds) :=
  px_callB call_lenP lenP hg hm PySem.boot_len ha (he := he)

/-! ### tuple, list of data -/
def qTuple1 : PV → Option PV
  | .lst xs => some (.tup xs)
  | .tup xs => some (.tup xs)
  | .ktup xs => some (.ktup xs)
  | _ => none
abbrev qTuple := one qTuple1
theorem tupleP : CallP (gOf X) W (fun xs H Q => ∃ p ys, xs = [.ref p] ∧ ((SqL X.K H p ys ∧ ∀ l o, H l = none → o.dict = none → Q (.ref l) (upd H l (.frz o (.tup ys)))) ∨ (SqT X.K H p ys ∧ Q (.ref p) H))) qTuple := by
  refine callP_one fun f Z env σ H u x v Q st ru e k => ?_
  cases x with
  | lst ys =>
    cases e
    cases ru with
    | lst h l rv =>
      refine ⟨_, _, rfl, .inl ⟨Same.sql st.zh h, fun q o n d => ?_⟩⟩
      obtain ⟨Z2, s2, st2, r2⟩ := st.tupF n d l rv
      exact k _ Z2 _ s2 st2 r2
  | tup ys =>
    cases e
    cases ru with
    | tup h l rv => exact ⟨_, _, rfl, .inr ⟨Same.sqt st.zh h.sqt, k _ Z H (Same.refl _) st (.tup h l rv)⟩⟩
  | ktup ys =>
    cases e
    cases ru with
    | ktup h l rv => exact ⟨_, _, rfl, .inr ⟨.inl (.inl (st.zh _ _ h)), k _ Z H (Same.refl _) st (.ktup h l rv)⟩⟩
  | _ => cases e
theorem px_tuple (hg : Gl X "tuple") (hm : X.mg "tuple" = none) (ha : PAX X W [a] ds) (he : starEach [a] X.env = (false, eval a X.env) :: starEach [] X.env := by rfl) : PX X W (.Call (.Name "tuple" p) [a] [] pos) (dArgs qTuple ds) :=
  px_callTy call_tupF tupleP hg hm boot_tuple ha (he := he)
abbrev qList := one PV.items
theorem listP : CallO (gOf X) W (fun xs H Q => ∃ p ys, xs = [.ref p] ∧ (SqL X.K H p ys ∨ SqT X.K H p ys) ∧ ∀ l, H l = none → Q (.ref l) (upd H l (.lst ys))) qList := by
  refine callO_one fun f Z env σ H u x v Q st ru e k => ?_
  obtain ⟨a, vs, rfl, l, rv, h⟩ := ru.seq st.zh (PV.items_of e)
  refine ⟨a, vs, rfl, ?_, fun q n => ?_⟩
  · rcases h with h | h
    · exact .inl h.2
    · exact .inr h.2
  · obtain ⟨st2, r2⟩ := st.own n l rv
    exact k _ Z _ (Same.refl _) st2 r2
theorem po_list (hg : Gl X "list") (hm : X.mg "list" = none) (ha : PAX X W [a] ds) (he : starEach [a] X.env = (false, eval a X.env) :: starEach [] X.env := by rfl) : PO' X W (.Call (.Name "list" p) [a] [] pos) (dArgs qList ds) :=
  po_callTy call_list_of listP hg hm boot_list ha (he := he)
/-! ### ranges made lists and tuples -/
def rgP (n : Int) : List PV := (List.range n.toNat).map fun i => PV.int (i : Nat)
def dRg (da : Den PV) : Den (List PV) := da.bind fun x => Den.lift (match x with | .int n => if -16777216 ≤ n ∧ n ≤ 16777216 then some (rgP n) else none | _ => none)
theorem reps_rg {Z : Hp} (n : Int) : Reps g Z (rgV 0 n) (rgP n) := by
  unfold rgV rgP
  rw [Int.sub_zero]
  generalize List.range n.toNat = l
  induction l with
  | nil => exact .nil
  | cons i l ih => exact .cons (by show Rep g Z (.int (0 + (i : Int))) (.int i); rw [Int.zero_add]; exact .int _) ih
theorem po_listRg {p1 p2 pos' : Pos} (hc : X.calm = true) (hl : Gl X "list") (hlm : X.mg "list" = none) (hg : Gl X "range") (hm : X.mg "range" = none) (ha : PX X W a da) (na : starEach [a] X.env = (false, eval a X.env) :: starEach [] X.env := by rfl)
    (nb : starEach [(.Call (.Name "range" p1) [a] [] pos')] X.env = (false, eval (.Call (.Name "range" p1) [a] [] pos') X.env) :: starEach [] X.env := by rfl) : PO' X W (.Call (.Name "list" p2) [(.Call (.Name "range" p1) [a] [] pos')] [] pos) (dRg da) :=
  peimp (pe_listRg hc hl hlm (prg_1 hg hm ha na) nb) fun σ H Q ⟨f, Z, env, a⟩ => (a.bind.imp fun u H1 ⟨Z1, env1, x, s1, r1, a1⟩ => by
    obtain ⟨v, e, k⟩ := a1.lift
    cases x with
    | int n =>
      cases r1
      obtain ⟨⟨l1, l2⟩, rfl⟩ := of_ite e
      refine ⟨n, rfl, ⟨by decide, by decide, by omega, by omega, by omega⟩, fun q nq => ?_⟩
      obtain ⟨st2, r2⟩ := a1.st.own nq (by rw [rgV_length, sizeLine_eq]; omega) (reps_rg n)
      exact k _ Z1 _ (Same.refl _) st2 r2
    | _ => cases e).here
theorem px_tupRg {p1 p2 pos' : Pos} (hc : X.calm = true) (hl : Gl X "tuple") (hlm : X.mg "tuple" = none) (hg : Gl X "range") (hm : X.mg "range" = none) (ha : PX X W a da) (na : starEach [a] X.env = (false, eval a X.env) :: starEach [] X.env := by rfl)
    (nb : starEach [(.Call (.Name "range" p1) [a] [] pos')] X.env = (false, eval (.Call (.Name "range" p1) [a] [] pos') X.env) :: starEach [] X.env := by rfl) : PX X W (.Call (.Name "tuple" p2) [(.Call (.Name "range" p1) [a] [] pos')] [] pos) ((dRg da).bind fun xs => Den.ret (.tup xs)) :=
  peimp (pe_tupRgF hc hl hlm (prg_1 hg hm ha na) nb) fun σ H Q ⟨f, Z, env, a⟩ => by
    have a : At (gOf X) W f Z env (da.bind fun x => (Den.lift (match x with | .int n => if -16777216 ≤ n ∧ n ≤ 16777216 then some (rgP n) else none | _ => none)).bind fun xs => Den.ret (.tup xs)) (RV (gOf X)) Q σ H := by
      refine ⟨a.st, ?_⟩
      obtain ⟨o, e, p⟩ := a.to
      refine ⟨o, ?_, p⟩
      rw [← e]
      unfold dRg Den.bind
      cases da env with
      | none => rfl
      | some o => cases o <;> rfl
    refine (a.bind.imp fun u H1 ⟨Z1, env1, x, s1, r1, a1⟩ => ?_).here
    obtain ⟨st1, o, e, p⟩ := a1
    cases x with
    | int n =>
      cases r1
      by_cases hl : -16777216 ≤ n ∧ n ≤ 16777216
      · simp only [Den.bind, Den.lift, if_pos hl, Den.ret] at e
        cases e
        refine ⟨n, rfl, ⟨by decide, by decide, by omega, by omega, by omega⟩, fun q o nq d => ?_⟩
        obtain ⟨Z2, s2, st2, r2⟩ := st1.tupF nq d (by rw [rgV_length, sizeLine_eq]; omega) (reps_rg n)
        exact p _ Z2 _ s2 st2 r2
      · simp only [Den.bind, Den.lift, if_neg hl] at e
        cases e
    | _ => simp only [Den.bind, Den.lift] at e; cases e
/-! ### all, any -/
def bls : List PV → Option (List Bool)
  | [] => some []
  | .bl b :: r => (bls r).map (b :: ·)
  | _ :: _ => none
theorem Reps.bls {Z : Hp} : ∀ {xs : List PV} {vs : List V} {bs : List Bool}, Reps g Z vs xs → Pu.bls xs = some bs → vs = bs.map V.bl
  | [], _, _, r, e => by cases r; cases e; rfl
  | x :: xs, _, bs, r, e => by
    cases r with
    | cons a b =>
      cases x with
      | bl c =>
        unfold Pu.bls at e
        cases h : Pu.bls xs with
        | none => rw [h] at e; cases e
        | some cs => rw [h] at e; cases e; cases a; rw [b.bls h]; rfl
      | _ => cases e
def qAll1 : PV → Option PV
  | .lst xs => (bls xs).map fun bs => .bl (bs.all id)
  | _ => none
def qAny1 : PV → Option PV
  | .lst xs => (bls xs).map fun bs => .bl (bs.any id)
  | _ => none
abbrev qAll := one qAll1
abbrev qAny := one qAny1
theorem allP : CallP (gOf X) W (rAll X.K) qAll := by
  refine callP_one fun f Z env σ H u x v Q st ru e k => ?_
  cases x with
  | lst ys =>
    cases ru with
    | lst h l rv =>
      have e : ((bls ys).map fun bs => PV.bl (bs.all id)) = some v := e
      cases hb : bls ys with
      | none => rw [hb] at e; cases e
      | some bs =>
        rw [hb] at e
        cases e
        rw [rv.bls hb] at h
        exact ⟨_, bs, rfl, Same.sql st.zh h, k _ Z H (Same.refl _) st (.bl _)⟩
  | _ => cases e
theorem anyP : CallP (gOf X) W (rAny X.K) qAny := by
  refine callP_one fun f Z env σ H u x v Q st ru e k => ?_
  cases x with
  | lst ys =>
    cases ru with
    | lst h l rv =>
      have e : ((bls ys).map fun bs => PV.bl (bs.any id)) = some v := e
      cases hb : bls ys with
      | none => rw [hb] at e; cases e
      | some bs =>
        rw [hb] at e
        cases e
        rw [rv.bls hb] at h
        exact ⟨_, bs, rfl, Same.sql st.zh h, k _ Z H (Same.refl _) st (.bl _)⟩
  | _ => cases e
theorem px_all (hc : X.calm = true) (hg : Gl X "all") (hm : X.mg "all" = none) (ha : PAX X W [a] ds) (he : starEach [a] X.env = (false, eval a X.env) :: starEach [] X.env := by rfl) : PX X W (.Call (.Name "all" p) [a] [] pos) (dArgs qAll ds) :=
  px_callB (cr_all hc) allP hg hm (by decide +kernel) ha (he := he)
theorem px_any (hc : X.calm = true) (hg : Gl X "any") (hm : X.mg "any" = none) (ha : PAX X W [a] ds) (he : starEach [a] X.env = (false, eval a X.env) :: starEach [] X.env := by rfl) : PX X W (.Call (.Name "any" p) [a] [] pos) (dArgs qAny ds) :=
  px_callB (cr_any hc) anyP hg hm (by decide +kernel) ha (he := he)
/-! ### int of an int -/
def qInt1 : PV → Option PV
  | .int i => some (.int i)
  | .bl b => some (.int (if b then 1 else 0))
  | _ => none
abbrev qInt := one qInt1
theorem intP : CallP (gOf X) W (fun xs H Q => (∃ i, xs = [.int i] ∧ Q (.int i) H) ∨ ∃ k, xs = [.bl k] ∧ Q (.int (if k then 1 else 0)) H) qInt := by
  refine callP_one fun f Z env σ H u x v Q st ru e k => ?_
  cases x with
  | int i => cases e; cases ru; exact .inl ⟨_, rfl, k _ Z H (Same.refl _) st (.int _)⟩
  | bl i => cases e; cases ru; exact .inr ⟨_, rfl, k _ Z H (Same.refl _) st (.int _)⟩
  | _ => cases e
theorem px_intOf (hg : Gl X "int") (hm : X.mg "int" = none) (ha : PAX X W [a] ds) (he : starEach [a] X.env = (false, eval a X.env) :: starEach [] X.env := by rfl) : PX X W (.Call (.Name "int" p) [a] [] pos) (dArgs qInt ds) :=
  px_callTy call_int1 intP hg hm boot_int ha (he := he)
end

/-! ### isinstance with a built-in type -/
def PV.ty : PV → String
  | .non => "NoneType"
  | .bl _ => "bool"
  | .int _ => "int"
  | .str _ => "str"
  | .tup _ => "tuple"
  | .ktup _ => "tuple"
  | .lst _ => "list"
  | .dic _ _ => "dict"
  | .ins _ _ _ => ""
theorem Rep.tyx {g : G} {Z H : Hp} {u : V} {x : PV} (e : Same Z H) (r : Rep g Z u x) (h : x.ty ≠ "") : TyX g.K H u (.type x.ty) := by
  cases r with
  | non => exact .base .non
  | bl b => exact .base (.bl b)
  | int i => exact .base (.int i)
  | str s q => exact .base (.str s)
  | tup h1 l r =>
    rcases h1 with ⟨o, h1, _⟩ | ⟨o, its, n, h1, h2, _⟩
    · exact .fTuple (e _ _ h1)
    · exact .kTuple h1 h2
  | ktup h1 l r => exact .base (.tup (e _ _ h1))
  | lst h1 l r =>
    rcases h1 with (h1 | ⟨o, h1⟩) | ⟨o, its, n, h1, h2, _⟩
    · exact .base (.lst (e _ _ h1))
    · exact .base (.frz (e _ _ h1))
    · exact .kList h1 h2
  | dic h1 l r q =>
    rcases h1 with h1 | ⟨o, h1⟩
    · exact .base (.dK (e _ _ h1))
    · exact .fDict (e _ _ h1)
  | ins _ _ _ => exact absurd rfl h
/-- the types asked -/
def tyOk (T : String) : Bool := ["int", "bool", "str", "tuple", "list", "dict"].contains T
def isT (T : String) (x : PV) : Bool := x.ty == T || (T == "int" && x.ty == "bool")
def kitTab : Bool := ["NoneType", "bool", "int", "str", "tuple", "list", "dict"].all fun n => ["int", "bool", "str", "tuple", "list", "dict"].all fun T => kitB n T == some (n == T || (T == "int" && n == "bool"))
theorem kit_tab : kitTab = true := by decide +kernel
theorem kit_isT {T : String} {x : PV} (hT : tyOk T = true) (h : x.ty ≠ "") : kitB x.ty T = some (isT T x) := by
  have q := kit_tab
  unfold kitTab at q
  have hm : x.ty ∈ ["NoneType", "bool", "int", "str", "tuple", "list", "dict"] := by
    cases x <;> first | exact absurd rfl h | simp [PV.ty]
  have q1 := List.all_eq_true.mp (List.all_eq_true.mp q _ hm) T (by simpa [tyOk] using hT)
  exact beq_iff_eq.mp q1
def dIsT (T : String) (da : Den PV) : Den PV := da.bind fun x => Den.lift (if x.ty ≠ "" then some (.bl (isT T x)) else none)
section
variable {X : Cx} {W : WX} {a b c e : Expr} {es : List Expr} {da db dc : Den PV} {ds : Den (List PV)} {p p' pos : Pos} {k : Nat} {g : G}
theorem px_isT {x : Str} {T : String} (hg : Gl X "isinstance") (hm : X.mg "isinstance" = none) (ha : PX X W a da) (ht : PE X (.Name x p') (tC (.ty T))) (hT : tyOk T = true := by decide)
    (he : starEach [a, .Name x p'] X.env = (false, eval a X.env) :: starEach [.Name x p'] X.env := by rfl) (he2 : starEach [.Name x p'] X.env = (false, eval (.Name x p') X.env) :: starEach [] X.env := by rfl)
    (hpl : (backTo pos (starEach [.Name x p'] X.env)).any (·.1) = false := by rfl) : PX X W (.Call (.Name "isinstance" p) [a, .Name x p'] [] pos) (dIsT T da) :=
  peimp (pe_callB call_isi hg hm (by decide +kernel) (pa_cons ha (pa_cons ht pa_nil he2) he) (by decide) (by decide) he hpl) fun σ H Q ⟨f, Z, env, a⟩ => (a.bind.imp fun u H1 ⟨Z1, env1, x, s1, r1, a1⟩ => by
    obtain ⟨v, e, k⟩ := a1.lift
    obtain ⟨h, rfl⟩ := of_ite e
    exact ⟨u, .ty T, _, _, _, rfl, .ty T, r1.tyx a1.st.zh h, kit_ty (kit_isT hT h), k _ Z1 H1 (Same.refl _) a1.st (.bl _)⟩).here

/-! ### order, in -/
def qB (k : Int → Int → Bool) : PV → PV → Option PV
  | .int i, .int j => some (.bl (k i j))
  | _, _ => none
theorem opP_B {k : Int → Int → Bool} : OpP g (rI0 fun i j => .bl (k i j)) (qB k) := fun Z H u w x y v Q _ r1 r2 e hq => by
  unfold qB at e
  split at e
  · cases r1
    cases r2
    cases e
    exact ⟨_, _, rfl, rfl, hq _ (.bl _)⟩
  · cases e
abbrev qLt := qB fun i j => decide (i < j)
abbrev qLe := qB fun i j => decide (i ≤ j)
abbrev qGt := qB fun i j => decide (j < i)
abbrev qGe := qB fun i j => decide (j ≤ i)
theorem px_lt (ha : PX X W a da) (hb : PX X W b db) : PX X W (.Compare a [.Lt] [b] pos) (dOp qLt da db) := px_cmp op_lt opP_B ha hb (nomark _)
theorem px_le (ha : PX X W a da) (hb : PX X W b db) : PX X W (.Compare a [.LtE] [b] pos) (dOp qLe da db) := px_cmp op_le opP_B ha hb (nomark _)
theorem px_gt (ha : PX X W a da) (hb : PX X W b db) : PX X W (.Compare a [.Gt] [b] pos) (dOp qGt da db) := px_cmp op_gt opP_B ha hb (nomark _)
theorem px_ge (ha : PX X W a da) (hb : PX X W b db) : PX X W (.Compare a [.GtE] [b] pos) (dOp qGe da db) := px_cmp op_ge opP_B ha hb (nomark _)
theorem ptx_lt (ha : PX X W a da) (hb : PX X W b db) : PTX X W (.Compare a [.Lt] [b] pos) (dOp qLt da db) := ptx_cmp op_lt opP_B ha hb (nomark _)
theorem ptx_le (ha : PX X W a da) (hb : PX X W b db) : PTX X W (.Compare a [.LtE] [b] pos) (dOp qLe da db) := ptx_cmp op_le opP_B ha hb (nomark _)
theorem ptx_gt (ha : PX X W a da) (hb : PX X W b db) : PTX X W (.Compare a [.Gt] [b] pos) (dOp qGt da db) := ptx_cmp op_gt opP_B ha hb (nomark _)
theorem ptx_ge (ha : PX X W a da) (hb : PX X W b db) : PTX X W (.Compare a [.GtE] [b] pos) (dOp qGe da db) := ptx_cmp op_ge opP_B ha hb (nomark _)
/-- a < b < c -/
def dChain (q q' : PV → PV → Option PV) (da db dc : Den PV) : Den PV := da.bind fun x => db.bind fun y => dBool (Den.lift (q x y)) fun z => if z then dc.bind fun w => Den.lift (q' y w) else Den.ret (.bl false)
theorem t_chain {r r' : R2} {q q' : PV → PV → Option PV} (hp : OpP (gOf X) r q) (hp' : OpP (gOf X) r' q') {σ : L2.St} {H : Hp} {Q : VK} (h : tP (gOf X) W (dChain q q' da db dc) σ H Q) : tChain r r' (tP (gOf X) W da) (tP (gOf X) W db) (tP (gOf X) W dc) σ H Q := by
  obtain ⟨f, Z, env, a⟩ := h
  refine (a.bind.imp fun u H1 ⟨Z1, env1, x, s1, r1, a1⟩ => ?_).here
  refine (a1.bind.imp fun w H2 ⟨Z2, env2, y, s2, r2, a2⟩ => ?_).here
  have a3 := a2.bool
  obtain ⟨v, e, k⟩ := a3.lift
  refine hp Z2 H2 u w x y v _ a2.st.zh (r1.mono s2) r2 e fun z rz => ?_
  obtain ⟨Z3, env3, b, s3, eb, a4⟩ := k z Z2 H2 (Same.refl _) a2.st rz
  refine ⟨b, eb, ?_⟩
  cases b with
  | false => exact a4.ret _ Z3 H2 (Same.refl _) a4.st (.bl _)
  | true =>
    refine ((show At (gOf X) W f Z3 env3 (dc.bind fun w => Den.lift (q' y w)) (RV (gOf X)) Q σ H2 from a4).bind.imp fun w' H4 ⟨Z4, env4, x4, s4, r4, a5⟩ => ?_).here
    obtain ⟨v', e', k'⟩ := a5.lift
    exact hp' Z4 H4 w w' y x4 v' Q a5.st.zh ((r2.mono s3).mono s4) r4 e' fun z rz => k' z Z4 H4 (Same.refl _) a5.st rz
theorem px_chain {op op' : CmpOp} {r r' : R2} {q q' : PV → PV → Option PV} (ho : OpR X (compareOp op) r) (ho' : OpR X (compareOp op') r') (hp : OpP (gOf X) r q) (hp' : OpP (gOf X) r' q') (ha : PX X W a da) (hb : PX X W b db) (hc : PX X W c dc)
    (hm : lastMarks [op, op'] [b, c] = false := by with_unfolding_all rfl) : PX X W (.Compare a [op, op'] [b, c] pos) (dChain q q' da db dc) := peimp (pe_chain ho ho' ha hb hc hm) fun _ _ _ h => t_chain hp hp' h
theorem ptx_chain {op op' : CmpOp} {r r' : R2} {q q' : PV → PV → Option PV} (ho : OpR X (compareOp op) r) (ho' : OpR X (compareOp op') r') (hp : OpP (gOf X) r q) (hp' : OpP (gOf X) r' q') (ha : PX X W a da) (hb : PX X W b db) (hc : PX X W c dc)
    (hm : lastMarks [op, op'] [b, c] = false := by with_unfolding_all rfl) : PTX X W (.Compare a [op, op'] [b, c] pos) (dChain q q' da db dc) := ptimp (pt_chain ho ho' ha hb hc hm) fun _ _ _ h => tB_imp (fun _ h => t_chain hp hp' h) h
/-- x in s: a list, a tuple, a text in a text -/
def qIn : PV → PV → Option PV
  | .str s, .str t => some (.bl (!(Builtin.Str.occurrences t s 0 t.length 1).isEmpty))
  | x, y => match y.items with
    | some ys => if x.fit = true ∧ y.fit = true then some (.bl (ys.any fun z => pvEq z x)) else none
    | none => none
def qNotIn : PV → PV → Option PV
  | .str s, .str t => some (.bl (!(!(Builtin.Str.occurrences t s 0 t.length 1).isEmpty)))
  | x, y => match y.items with
    | some ys => if x.fit = true ∧ y.fit = true then some (.bl (!ys.any fun z => pvEq z x)) else none
    | none => none
def rInP (K : PySem.W.Frag) (neg : Bool) : R2 := fun x y H Q => (∃ i j, x = .str i ∧ y = .str j ∧ Q (.bl (neg ^^ !(Builtin.Str.occurrences j i 0 j.length 1).isEmpty)) H) ∨
  ∃ d ds l, Dp K H x d ∧ Dp K H y l ∧ (l = .list ds ∨ l = .tuple ds) ∧ d.canLay0 = true ∧ PyData.canLayAll0 ds = true ∧ d.depth ≤ 190 ∧ Q (.bl (neg ^^ (ds.any fun z => PyData.eqv z d))) H
theorem op_inP (hr : RoomG k X.A) : OpR X (compareOp .In) (rInP X.K false) := by
  intro pins s σ H x y v u Q I rx ry h
  rcases h with ⟨i, j, rfl, rfl, q⟩ | ⟨d, ds, l, hd, he, hl, sd, se, ld, q⟩
  · exact op_in_str pins s σ H _ _ v u Q I rx ry ⟨i, j, rfl, rfl, by simpa using q⟩
  · obtain ⟨as, r1⟩ := Dp.reads I d x v hd rx
    obtain ⟨bs, r2⟩ := Dp.reads I l y u he ry
    have hu : X.A.units + 1 + min (PyData.depthAll ds) d.depth < cLine := by have := hr.un; have : min (PyData.depthAll ds) d.depth ≤ d.depth := Nat.min_le_right _ _; omega
    rcases hl with rfl | rfl
    · exact SeqAt.in_list_reads r2 r1 se sd hu ⟨.bl _, H, I, rfl, by simpa using q⟩
    · exact SeqAt.in_tuple_reads r2 r1 se sd hu ⟨.bl _, H, I, rfl, by simpa using q⟩
theorem op_notInP (hr : RoomG k X.A) : OpR X (compareOp .NotIn) (rInP X.K true) := by
  intro pins s σ H x y v u Q I rx ry h
  rcases h with ⟨i, j, rfl, rfl, q⟩ | ⟨d, ds, l, hd, he, hl, sd, se, ld, q⟩
  · exact op_notIn_str pins s σ H _ _ v u Q I rx ry ⟨i, j, rfl, rfl, by simpa using q⟩
  · obtain ⟨as, r1⟩ := Dp.reads I d x v hd rx
    obtain ⟨bs, r2⟩ := Dp.reads I l y u he ry
    have hu : X.A.units + 1 + min (PyData.depthAll ds) d.depth < cLine := by have := hr.un; have : min (PyData.depthAll ds) d.depth ≤ d.depth := Nat.min_le_right _ _; omega
    rcases hl with rfl | rfl
    · exact SeqAt.notIn_list_reads r2 r1 se sd hu ⟨.bl _, H, I, rfl, by simpa using q⟩
    · exact SeqAt.notIn_tuple_reads r2 r1 se sd hu ⟨.bl _, H, I, rfl, by simpa using q⟩
theorem toDs_any (x : PV) : ∀ ys : List PV, (PV.toDs ys).any (fun z => PyData.eqv z x.toD) = ys.any fun z => pvEq z x
  | [] => rfl
  | y :: ys => by
    show (PyData.eqv y.toD x.toD || (PV.toDs ys).any _) = (pvEq y x || ys.any _)
    rw [toDs_any x ys]
theorem in_core {neg : Bool} {Z H : Hp} {u w : V} {x y : PV} {ys : List PV} {Q : VK} (s : Same Z H) (r1 : Rep g Z u x) (r2 : Rep g Z w y) (hi : y.items = some ys) (f1 : x.fit = true) (f2 : y.fit = true) (hq : Q (.bl (neg ^^ (ys.any fun z => pvEq z x))) H) : rInP g.K neg u w H Q := by
  obtain ⟨p1, l1⟩ := Bool.and_eq_true_iff.mp f1
  obtain ⟨p2, l2⟩ := Bool.and_eq_true_iff.mp f2
  obtain ⟨d1, c1⟩ := r1.dp s p1
  obtain ⟨d2, c2⟩ := r2.dp s p2
  have key : ∃ ds, (y.toD = .list ds ∨ y.toD = .tuple ds) ∧ ds = PV.toDs ys := by
    rcases PV.items_of hi with rfl | rfl | rfl
    · exact ⟨_, .inr rfl, rfl⟩
    · exact ⟨_, .inr rfl, rfl⟩
    · exact ⟨_, .inl rfl, rfl⟩
  obtain ⟨ds, hl, rfl⟩ := key
  refine .inr ⟨_, _, _, d1, d2, hl, c1, ?_, by rw [toD_depth x p1]; exact of_decide_eq_true l1, by rw [toDs_any]; exact hq⟩
  rcases hl with e | e
  · rw [e] at c2; exact c2
  · rw [e] at c2; exact c2
theorem opP_in : OpP g (rInP g.K false) qIn := fun Z H u w x y v Q s r1 r2 e hq => by
  unfold qIn at e
  split at e
  · cases r1
    cases r2
    cases e
    exact .inl ⟨_, _, rfl, rfl, by simpa using hq _ (.bl _)⟩
  · split at e
    · obtain ⟨⟨f1, f2⟩, rfl⟩ := of_ite e
      exact in_core s r1 r2 (by assumption) f1 f2 (by simpa using hq _ (.bl _))
    · cases e
theorem opP_notIn : OpP g (rInP g.K true) qNotIn := fun Z H u w x y v Q s r1 r2 e hq => by
  unfold qNotIn at e
  split at e
  · cases r1
    cases r2
    cases e
    exact .inl ⟨_, _, rfl, rfl, by simpa using hq _ (.bl _)⟩
  · split at e
    · obtain ⟨⟨f1, f2⟩, rfl⟩ := of_ite e
      exact in_core s r1 r2 (by assumption) f1 f2 (by simpa using hq _ (.bl _))
    · cases e
theorem px_in (hr : RoomG k X.A) (ha : PX X W a da) (hb : PX X W b db) (hm : behindInMarks .In b = false := by with_unfolding_all rfl) : PX X W (.Compare a [.In] [b] pos) (dOp qIn da db) := px_cmp (op_inP hr) opP_in ha hb hm
theorem px_notIn (hr : RoomG k X.A) (ha : PX X W a da) (hb : PX X W b db) (hm : behindInMarks .NotIn b = false := by with_unfolding_all rfl) : PX X W (.Compare a [.NotIn] [b] pos) (dOp qNotIn da db) := px_cmp (op_notInP hr) opP_notIn ha hb hm
theorem ptx_in (hr : RoomG k X.A) (ha : PX X W a da) (hb : PX X W b db) (hm : behindInMarks .In b = false := by with_unfolding_all rfl) : PTX X W (.Compare a [.In] [b] pos) (dOp qIn da db) := ptx_cmp (op_inP hr) opP_in ha hb hm
theorem ptx_notIn (hr : RoomG k X.A) (ha : PX X W a da) (hb : PX X W b db) (hm : behindInMarks .NotIn b = false := by with_unfolding_all rfl) : PTX X W (.Compare a [.NotIn] [b] pos) (dOp qNotIn da db) := ptx_cmp (op_notInP hr) opP_notIn ha hb hm
/-- is None, is True -/
def qIs (neg : Bool) : PV → PV → Option PV
  | x, .non => some (.bl (neg ^^ (match x with | .non => true | _ => false)))
  | .bl a, .bl b => some (.bl (neg ^^ (a == b)))
  | _, _ => none
def rIs (neg : Bool) : R2 := fun x y H Q => (y = .non ∧ Q (.bl (neg ^^ decide (x = .non))) H) ∨ ∃ a b : Bool, x = .bl a ∧ y = .bl b ∧ Q (.bl (neg ^^ (a == b))) H
theorem op_isP : OpR X (compareOp .Is) (rIs false) := by
  intro pins s σ H x y v u Q I rx ry h
  rcases h with ⟨e, q⟩ | ⟨a, b, e1, e2, q⟩
  · exact op_isN pins s σ H x y v u Q I rx ry ⟨e, by simpa using q⟩
  · exact op_isBl pins s σ H x y v u Q I rx ry ⟨a, b, e1, e2, by cases a <;> cases b <;> simpa using q⟩
theorem op_isNotP : OpR X (compareOp .IsNot) (rIs true) := by
  intro pins s σ H x y v u Q I rx ry h
  rcases h with ⟨e, q⟩ | ⟨a, b, e1, e2, q⟩
  · exact op_notN pins s σ H x y v u Q I rx ry ⟨e, by simpa using q⟩
  · exact op_notBl pins s σ H x y v u Q I rx ry ⟨a, b, e1, e2, by cases a <;> cases b <;> simpa using q⟩
theorem opP_is {neg : Bool} : OpP g (rIs neg) (qIs neg) := fun Z H u w x y v Q s r1 r2 e hq => by
  unfold qIs at e
  split at e
  · cases r2
    cases e
    refine .inl ⟨rfl, ?_⟩
    cases r1 <;> simpa using hq _ (.bl _)
  · cases r1
    cases r2
    cases e
    exact .inr ⟨_, _, rfl, rfl, hq _ (.bl _)⟩
  · cases e
theorem px_is (ha : PX X W a da) (hb : PX X W b db) : PX X W (.Compare a [.Is] [b] pos) (dOp (qIs false) da db) := px_cmp op_isP opP_is ha hb (nomark _)
theorem px_isNot (ha : PX X W a da) (hb : PX X W b db) : PX X W (.Compare a [.IsNot] [b] pos) (dOp (qIs true) da db) := px_cmp op_isNotP opP_is ha hb (nomark _)
theorem ptx_is (ha : PX X W a da) (hb : PX X W b db) : PTX X W (.Compare a [.Is] [b] pos) (dOp (qIs false) da db) := ptx_cmp op_isP opP_is ha hb (nomark _)
theorem ptx_isNot (ha : PX X W a da) (hb : PX X W b db) : PTX X W (.Compare a [.IsNot] [b] pos) (dOp (qIs true) da db) := ptx_cmp op_isNotP opP_is ha hb (nomark _)

/-! ### items -/
def qIx : PV → PV → Option PV
  | .str s, .int i => if s.length ≤ sizeLine ∧ PyData.strOk s = true then (atI s.cps.toList i).map fun c => .str ⟨#[c]⟩ else none
  | x, .int i => x.items.bind fun xs => atI xs i
  | _, _ => none
theorem Reps.at {Z : Hp} {vs : List V} {xs : List PV} {i : Int} {x : PV} (r : Reps g Z vs xs) (h : atI xs i = some x) : ∃ v, atI vs i = some v ∧ Rep g Z v x := by
  obtain ⟨j, h1, h2, h3, h4, h5⟩ := atI_get h
  obtain ⟨v, hv, rv⟩ := r.get' h2
  refine ⟨v, ?_, rv⟩
  unfold atI at h ⊢
  rw [r.length]
  cases hj : ixN xs.length i with
  | none => rw [hj] at h; cases h
  | some j' =>
    rw [hj] at h
    have e : xs[j']? = some x := h
    show vs[j']? = some v
    have q := (ixN_seq hj).1
    rw [h1] at q
    cases q
    exact hv
theorem opP_ix : OpP g (rIx g.K) qIx := fun Z H u w x y v Q s r1 r2 e hq => by
  unfold qIx at e
  split at e
  · rename_i z i
    split at e
    · rename_i hl
      cases r1
      cases r2
      cases hc : atI z.cps.toList i with
      | none => rw [hc] at e; cases e
      | some c =>
        rw [hc] at e
        cases e
        refine .inr (.inr ⟨z, i, c, rfl, rfl, hl.1, hc, hq _ (.str _ ?_)⟩)
        obtain ⟨j, _, h2, _⟩ := atI_get hc
        have h3 : c ∈ z.cps := by
          have := List.mem_of_getElem? h2
          simpa using this
        have h4 : z.cps.all (· < 0x110000) = true := hl.2
        have h5 : c < 0x110000 := by simpa using (Array.all_eq_true'.mp h4 c h3)
        simp [PyData.strOk, h5]
    · cases e
  · rename_i i _
    cases hi : x.items with
    | none => rw [hi] at e; cases e
    | some xs =>
      rw [hi] at e
      have e : atI xs i = some v := e
      cases r2
      obtain ⟨a, vs, rfl, l, rv, h⟩ := r1.seq s (PV.items_of hi)
      obtain ⟨v', h1, h2⟩ := rv.at e
      rcases h with h | h
      · exact .inl ⟨a, vs, i, v', rfl, rfl, h.2, h1, hq _ h2⟩
      · exact .inr (.inl ⟨a, vs, i, v', rfl, rfl, h.2, h1, hq _ h2⟩)
  · cases e
theorem px_ix (ha : PX X W a da) (hb : PX X W b db) (hs : PlainIx b := by exact fun _ _ => rfl) : PX X W (.Subscript a b pos) (dOp qIx da db) := peimp (pe_ix ix_seq ha hb hs) fun _ _ _ h => t_op opP_ix h

/-! ### slices -/
def cutP {α : Type} (xs : List α) (lo hi : Option Int) : List α := (xs.drop (HT.sIx xs.length 0 lo)).take (HT.sIx xs.length xs.length hi - HT.sIx xs.length 0 lo)
theorem cutP_length {α : Type} (xs : List α) (lo hi : Option Int) : (cutP xs lo hi).length ≤ xs.length := by
  unfold cutP
  rw [List.length_take, List.length_drop]
  omega
theorem Reps.cut {Z : Hp} {vs : List V} {xs : List PV} (r : Reps g Z vs xs) (lo hi : Option Int) : Reps g Z (cutV vs lo hi) (cutP xs lo hi) := by
  unfold cutV cutP
  rw [r.length]
  exact (r.drop _).take _
theorem cutP_whole {xs : List PV} {lo hi : Option Int} (h : HT.sIx xs.length 0 lo = 0 ∧ HT.sIx xs.length xs.length hi = xs.length) : cutP xs lo hi = xs := by
  unfold cutP
  rw [h.1, h.2]
  simp
def rSlP (K : PySem.W.Frag) : V → Option Int → Option Int → Hp → VK → Prop := fun x lo hi H Q => rSlF K x lo hi H Q ∨ rSlL K x lo hi H Q
theorem sl_P : SlR X (rSlP X.K) := sl_tupF.or sl_list
def qSl (lo hi : Option Int) : PV → Option PV
  | .tup xs => some (.tup (cutP xs lo hi))
  | .lst xs => some (.lst (cutP xs lo hi))
  | _ => none
/-- a part of a slice -/
def dPart : Option (Den PV) → Den (Option Int)
  | none => Den.ret none
  | some d => d.bind fun x => Den.lift (match x with | .int i => some (some i) | _ => none)
def dSl (da : Den PV) (lo hi : Option (Den PV)) : Den PV := da.bind fun x => (dPart lo).bind fun l => (dPart hi).bind fun h => Den.lift (qSl l h x)
/-- the rules for parts -/
structure POX (X : Cx) (W : WX) (e : Option Expr) (d : Option (Den PV)) : Prop where
  po : ∃ t, PO X e t ∧ ∀ (f : Frm) (Z : Hp) (env : Cells) (σ : L2.St) (H : Hp) (Q : Option Int → Hp → Prop), At (gOf X) W f Z env (dPart d) (fun _ _ _ b a => b = a) Q σ H → t σ H Q
theorem pox_none : POX X W none none := ⟨_, po_none, fun f Z env σ H Q a => a.ret _ Z H (Same.refl _) a.st rfl⟩
theorem pox_some (h : PX X W e da) : POX X W (some e) (some da) := ⟨_, po_some h, fun f Z env σ H Q a => (a.bind.imp fun u H1 ⟨Z1, env1, x, s1, r1, a1⟩ => by
  obtain ⟨v, e, k⟩ := a1.lift
  cases x with
  | int i => cases e; cases r1; exact ⟨i, rfl, k _ Z1 H1 (Same.refl _) a1.st rfl⟩
  | _ => cases e).here⟩
theorem px_slice {lo hi : Option Expr} {dl dh : Option (Den PV)} {p2 : Pos} (ha : PX X W a da) (hl : POX X W lo dl) (hh : POX X W hi dh) : PX X W (.Subscript a (.Slice lo hi none p2) pos) (dSl da dl dh) := by
  obtain ⟨tl, pl, il⟩ := hl.po
  obtain ⟨th, ph, ih⟩ := hh.po
  refine peimp (pe_slice sl_P ha pl ph) fun σ H Q ⟨f, Z, env, a⟩ => (a.bind.imp fun u H1 ⟨Z1, env1, x, s1, r1, a1⟩ => ?_).here
  refine il f Z1 env1 σ H1 _ (a1.bind.imp fun l H2 ⟨Z2, env2, l', s2, r2, a2⟩ => ?_)
  refine ih f Z2 env2 σ H2 _ (a2.bind.imp fun h H3 ⟨Z3, env3, h', s3, r3, a3⟩ => ?_)
  subst r2 r3
  obtain ⟨v, e, k⟩ := a3.lift
  have r1 := (r1.mono s2).mono s3
  cases x with
  | tup xs =>
    cases e
    cases r1 with
    | tup hz hl rv =>
      refine .inl ⟨_, _, rfl, Same.sqt a3.st.zh hz.sqt, fun w => ?_, fun w p o n d => ?_⟩
      · rw [rv.length] at w
        rw [cutP_whole w] at k
        exact k _ Z3 H3 (Same.refl _) a3.st (.tup hz hl rv)
      · obtain ⟨Z4, s4, st4, r4⟩ := a3.st.tupF n d (Nat.le_trans (cutV_length _ _ _) hl) (rv.cut l h)
        exact k _ Z4 _ s4 st4 r4
  | lst xs =>
    cases e
    cases r1 with
    | lst hz hl rv =>
      refine .inr ⟨_, _, rfl, Same.sql a3.st.zh hz, fun p n => ?_⟩
      obtain ⟨Z4, s4, st4, r4⟩ := a3.st.lstF n (Nat.le_trans (cutV_length _ _ _) hl) (rv.cut l h)
      exact k _ Z4 _ s4 st4 r4
  | _ => cases e
end
end Pu
set_option Elab.async false
set_option linter.all false
set_option maxRecDepth 100000
set_option maxHeartbeats 4000000
/-! Pu, part E: own defs and their calls; statements; what is walked; comprehensions; for. -/
namespace Pu
open PySem PySem.Spec PyProof.Rows L2

/-! ### own defs -/
abbrev Fn := List PV → Option (Except Exn PV)
structure Ext (Z H Z' H' : Hp) : Prop where
  zz : Same Z Z'
  hh : Same H H'
  zh : Same Z' H'
  nz : ∀ a o, H a = some o → Z a = none → Z' a = none
/-- a def's promise by data: n arguments -/
def SpP (g : G) (n : Nat) (F : Fn) : Sp := fun vs H Q E => ∃ Z args o, Same Z H ∧ Reps g Z vs args ∧ args.length = n ∧ F args = some o ∧ match o with
  | .ok r => ∀ u Z' H', Ext Z H Z' H' → Rep g Z' u r → Q u H'
  | .error c => ∀ cls dd Z' H', Ext Z H Z' H' → ExRep g c cls dd Z' H' → E cls dd H'
def callK (F : Fn) (xs : List PV) : Den PV := fun e => match F xs with
  | none => none
  | some (.ok r) => some (.ok r e)
  | some (.error c) => some (.ex c e)
def dCall (F : Fn) (dv : List PV) (ds : Den (List PV)) : Den PV := ds.bind fun xs => callK F (xs ++ dv)
/-- what a def keeps, called with no repr under way -/
structure FnG (P : Program) (w : World) (K : PySem.W.Frag) (mg : Str → Option Value) (base : Heap) (CX : CXT) (k : Nat) (f : Addr) (fd : FuncData) (ps : List Str) (sp : Sp) : Prop where
  len : ∀ vs H Q E, sp vs H Q E → vs.length = ps.length
  run : ∀ (A : Around) (outer : List PySem.Env) (s : Shared) (H : Hp) (args : Args) (us : List Value) (vs : List V) (Q : VK) (E : XK), RoomG k A → Env0 P w K mg base A outer s H → BindsTo s fd args (ps.zip us) → Vals vs us → sp vs H Q E →
    codeAny (model P w) A (.call (.ref f) args) (CR CX outer P w H s Q E) s
theorem FnG.mono {P : Program} {w : World} {K : PySem.W.Frag} {mg : Str → Option Value} {base : Heap} {CX : CXT} {j k : Nat} {f : Addr} {fd : FuncData} {ps : List Str} {sp : Sp} (F : FnG P w K mg base CX j f fd ps sp) (h : j ≤ k) : FnG P w K mg base CX k f fd ps sp :=
  ⟨F.len, fun A outer s H args us vs Q E hr => F.run A outer s H args us vs Q E (hr.mono h)⟩
theorem FnG.imp {P : Program} {w : World} {K : PySem.W.Frag} {mg : Str → Option Value} {base : Heap} {CX : CXT} {k : Nat} {f : Addr} {fd : FuncData} {ps : List Str} {sp sp' : Sp} (F : FnG P w K mg base CX k f fd ps sp) (h : ∀ vs H Q E, sp' vs H Q E → sp vs H Q E) : FnG P w K mg base CX k f fd ps sp' :=
  ⟨fun vs H Q E q => F.len vs H Q E (h _ _ _ _ q), fun A outer s H args us vs Q E hr he hb hv hs => F.run A outer s H args us vs Q E hr he hb hv (h _ _ _ _ hs)⟩
/-- a def by its body -/
theorem fnG_of {CX : CXT} {P : Program} {w : World} {K : PySem.W.Frag} {mg : Str → Option Value} {base : Heap} {k : Nat} {f : Addr} {x qual : Str} {params : Arguments} {body : List Stmt} {scope : Scope} {dvs : List V} {kws : List (Str × V)} {fd : FuncData} {N ps : List Str} {sp : Sp} (F : FunD K x qual params body scope dvs kws f fd) (S : FnScope N ps scope)
    (len : ∀ vs H Q E, sp vs H Q E → vs.length = ps.length)
    (hbody : ∀ (cdv : Value) (A : Around) (outer : List PySem.Env) (s : Shared) (H : Hp) (vs : List V) (Q : VK) (E : XK), RoomG k (A.deeper (envOfC qual scope s.heap.objs.size f cdv)) → sp vs H Q E →
      ∃ t, PSs (cxOf CX P w K mg base N qual scope f cdv A outer s H E) body t ∧ t { nx := fun _ H' => Q .non H', rt := Q } (start N vs) H) :
    FnG P w K mg base CX (k + 1) f fd ps sp := by
  obtain ⟨oc, od, dV, kV, doc, pm, an, cdv, ct, osl, rfl, lk, hcd, _, _⟩ := F.ex
  refine ⟨len, fun A outer s H args us vs Q E hr e0 hb r hsp => ?_⟩
  have n1 : vs.length = ps.length := len vs H Q E hsp
  have old : ∀ b o, base.get? b = some o → s.heap.get? b = some o := fun b o q => (e0.bs b o q).1
  have kin : K.In s.heap := e0.mod.kin.keeps old
  have nolim := e0.mod.nolimit.keeps old
  have kinds : ∀ y ∈ ps.zip us, scope.names.lookup y.1 = some .local ∨ (scope.names.lookup y.1 = some .cell ∧ ((cellsFrom (s.heap.objs.size + 1) scope.names []).lookup y.1).isSome = true) := by
    intro y hy
    have hp : y.1 ∈ ps := (List.of_mem_zip (a := y.1) (b := y.2) hy).1
    cases S.par y.1 hp with
    | inl c => exact Or.inl c
    | inr c => exact Or.inr ⟨c, PySem.W.cellsFrom_some _ _ _ (Or.inl c)⟩
  refine codeAny_call_function hr.toRoom.depth (kin _ _ lk) rfl S.co S.gen rfl
    (PySem.W.codeRec_of kin hcd) (hb _ _ _ _ (wpAny_newFunctionEnv_cells S.kind kinds ?_))
  intro env henv s1 c
  cases henv
  refine ⟨nolim.keeps c.toInCall.keep, codeAny_func ?_⟩
  obtain ⟨t, pt, hq⟩ := hbody cdv A outer s H vs Q E (hr.deeper _) hsp
  have inv := inv_start (CX := CX) (E := E) S hr.toRoom.hd e0 n1 r c
  refine wpAny_mono (pt.run [] s1 (start N vs) H _ inv hq) ?_ (fun _ _ he => he)
  intro fl s' h
  cases fl with
  | ret u =>
    obtain ⟨v, σ', H', J, rv, q⟩ := h
    exact ⟨v, H', J.os, J.bare, J.base, J.hok, rv, q⟩
  | next =>
    obtain ⟨σ', H', J, q⟩ := h
    exact ⟨V.non, H', J.os, J.bare, J.base, J.hok, (rfl : Value.none = Value.none), q⟩
  | brk => exact (h.choose_spec.choose_spec.2 : False).elim
  | cont => exact (h.choose_spec.choose_spec.2 : False).elim
section
variable {X : Cx} {W : WX} {CX : CXT} {k n : Nat} {f C : Addr} {fd : FuncData} {ps : List Str} {sp : Sp} {dvs : List V} {dsv : List Value} {E : L2.St → XK} {x m : Str} {p pos apos : Pos} {e o : Expr} {es : List Expr} {ta : TE} {t : TA}
def tCallSD (sp : Sp) (dvs : List V) (E : L2.St → XK) (t : TA) : TE := fun σ H Q => t σ H fun vs H1 => sp (vs ++ dvs) H1 Q (E σ)
theorem run_fnSD {pins : List (Addr × Obj)} {σ : L2.St} {H : Hp} {s : Shared} {Q : VK} {us : List Value} {vs : List V} (F : FnG X.prog X.w X.K X.mg X.base CX k f fd ps sp) (hr : RoomG k X.A) (hb : Binds X.K fd ps dsv) (hd : Vals dvs dsv) (hx : PassesAt CX X σ (E σ))
    (I : Inv X pins σ H s) (r : Vals vs us) (h : sp (vs ++ dvs) H Q (E σ)) : wpAny (model X.prog X.w) X.A (call (.ref f) us) (EP X pins σ Q) X.xe s := by
  have r2 : Vals (vs ++ dvs) (us ++ dsv) := r.append hd
  have hl : (us ++ dsv).length = ps.length := by rw [← r2.length]; exact F.len _ _ _ _ h
  refine wpAny_call (codeAny_mono (F.run X.A X.stack s H ⟨us, []⟩ (us ++ dsv) (vs ++ dvs) Q (E σ) hr I.env0 (hb s us I.kIn hl) r2 h) fun r s' hq => ?_)
  cases r with
  | error e => exact hx pins H s e s' I hq
  | ok fl =>
    cases fl with
    | ret u => exact I.after hq
    | next => exact False.elim hq
    | brk => exact False.elim hq
    | cont => exact False.elim hq
theorem pe_callSD (F : FnG X.prog X.w X.K X.mg X.base CX k f fd ps sp) (hr : RoomG k X.A) (hg : Gl X x) (hm : X.mg x = some (.ref f)) (hk : PySem.W.keepIn X.K (.ref f) = true) (hb : Binds X.K fd ps dsv) (hd : Vals dvs dsv) (hx : ∀ σ, PassesAt CX X σ (E σ))
    (ha : PA X (e :: es) t) (hdb : (x == ("__debug__" : Str)) = false := by decide) (he : starEach (e :: es) X.env = (false, eval e X.env) :: starEach es X.env := by rfl) (hpl : (backTo pos (starEach es X.env)).any (·.1) = false := by rfl) :
    PE X (.Call (.Name x p) (e :: es) [] pos) (tCallSD sp dvs E t) := by
  refine ⟨fun pins s σ H Q I h => ?_⟩
  refine wpAny_Call_Name_kw (ld_glob I hg hm ?_ hdb)
  refine PySem.W.callWith_K (h₀ := X.base) I.ok.mod.kin hk (thn (ha.run pos pins s σ H _ I h) fun us s1 ⟨vs, H1, I1, r, q⟩ => ⟨I1.kIn, ?_⟩) he hpl
  exact run_fnSD F hr hb hd (hx σ) I1 r q
end
section
variable {g : G} {f : Frm} {Z H Z' H' : Hp} {σ : L2.St} {env : Cells}
theorem StOk.ext (st : StOk g f Z H σ env) (e : Ext Z H Z' H') : StOk g f Z' H' σ env := st.grow e.zz e.hh e.zh e.nz
end
def Len (ds : Den (List PV)) (n : Nat) : Prop := ∀ env xs env', ds env = some (.ok xs env') → xs.length = n
theorem len_nil : Len dNil 0 := fun env xs env' h => by cases h; rfl
theorem len_cons {d : Den PV} {ds : Den (List PV)} {n : Nat} (h : Len ds n) : Len (dCons d ds) (n + 1) := fun env xs env' e => by
  unfold dCons Den.bind at e
  cases hd : d env with
  | none => simp only [hd] at e; cases e
  | some o =>
    cases o with
    | ex c e1 => simp only [hd] at e; cases e
    | ok x e1 =>
      simp only [hd] at e
      cases hs : ds e1 with
      | none => simp only [hs] at e; cases e
      | some o2 =>
        cases o2 with
        | ex c e2 => simp only [hs] at e; cases e
        | ok ys e2 =>
          simp only [hs, Den.ret] at e
          cases e
          rw [List.length_cons, h _ _ _ hs]
/-- what a caller needs of a def: where it stands, how its arguments bind, its promise -/
structure Def (X : Cx) (x : Str) (ps : List Str) (dv : List PV) (k : Nat) (F : Fn) : Prop where
  ex : ∃ (f : Addr) (fd : FuncData) (dvs : List V) (dsv : List Value), X.mg x = some (.ref f) ∧ PySem.W.keepIn X.K (.ref f) = true ∧ Binds X.K fd ps dsv ∧ Vals dvs dsv ∧ (∀ Z, Reps (gOf X) Z dvs dv) ∧
    FnG X.prog X.w X.K X.mg X.base (L2.CX X.prog X.w) k f fd ps (SpP (gOf X) ps.length F)
section
variable {X : Cx} {W : WX} {k : Nat} {x : Str} {ps : List Str} {dv : List PV} {F : Fn} {p pos : Pos} {e : Expr} {es : List Expr} {ds : Den (List PV)}
theorem px_call (D : Def X x ps dv k F) (tk : Takes X W) (hr : RoomG k X.A) (hg : Gl X x) (ha : PAX X W (e :: es) ds) {n : Nat} (hl : Len ds n) (hn : n + dv.length = ps.length := by rfl) (hdb : (x == ("__debug__" : Str)) = false := by decide)
    (he : starEach (e :: es) X.env = (false, eval e X.env) :: starEach es X.env := by rfl) (hpl : (backTo pos (starEach es X.env)).any (·.1) = false := by rfl) : PX X W (.Call (.Name x p) (e :: es) [] pos) (dCall F dv ds) := by
  obtain ⟨f, fd, dvs, dsv, hm, hk, hb, hd, hrep, ok⟩ := D.ex
  refine peimp (pe_callSD (E := WE W) ok hr hg hm hk hb hd (passAt tk) ha hdb he hpl) fun σ H Q ⟨fr, Z, env, a⟩ => ?_
  have len : ∀ o env', ds env = some (.ok o env') → o.length + dv.length = ps.length := fun o env' e => by rw [hl _ _ _ e]; exact hn
  obtain ⟨st, o, eo, po⟩ := a
  refine ⟨fr, Z, env, st, ?_⟩
  unfold dCall Den.bind at eo
  cases hds : ds env with
  | none => rw [hds] at eo; cases eo
  | some o1 =>
    rw [hds] at eo
    cases o1 with
    | ex c e1 =>
      have eo : some (Out.ex c e1) = some o := eo
      cases eo
      exact ⟨_, rfl, po⟩
    | ok xs e1 =>
      have eo : callK F (xs ++ dv) e1 = some o := eo
      refine ⟨_, rfl, fun us Z1 H1 s1 st1 r1 => ?_⟩
      unfold callK at eo
      cases hF : F (xs ++ dv) with
      | none => rw [hF] at eo; cases eo
      | some r =>
        rw [hF] at eo
        refine ⟨Z1, xs ++ dv, r, st1.zh, r1.append (hrep Z1), by rw [List.length_append]; exact len _ _ hds, hF, ?_⟩
        cases r with
        | ok v =>
          cases eo
          exact fun u Z' H' ex rv => po u Z' H' (s1.trans ex.zz) (st1.ext ex) rv
        | error c =>
          cases eo
          exact fun cls dd Z' H' ex rv => po cls dd Z' H' (s1.trans ex.zz) (st1.ext ex) rv
end

/-! ### statements -/
inductive SOut where
  | nx (e : Cells) | rt (v : PV) (e : Cells) | bk (e : Cells) | ct (e : Cells) | ex (c : Exn) (e : Cells)
abbrev SDen := Cells → Option SOut
def SPost (g : G) (W : WX) (f : Frm) (Z : Hp) (D : Ends) : SOut → Prop
  | .nx e => ∀ σ' Z' H', Same Z Z' → StOk g f Z' H' σ' e → D.nx σ' H'
  | .bk e => ∀ σ' Z' H', Same Z Z' → StOk g f Z' H' σ' e → D.bk σ' H'
  | .ct e => ∀ σ' Z' H', Same Z Z' → StOk g f Z' H' σ' e → D.ct σ' H'
  | .rt v e => ∀ u σ' Z' H', Same Z Z' → StOk g f Z' H' σ' e → Rep g Z' u v → D.rt u H'
  | .ex c e => ∀ cls dd σ' Z' H', Same Z Z' → StOk g f Z' H' σ' e → ExRep g c cls dd Z' H' → W cls dd σ' H'
structure SAt (g : G) (W : WX) (f : Frm) (Z : Hp) (env : Cells) (d : SDen) (D : Ends) (σ : L2.St) (H : Hp) : Prop where
  st : StOk g f Z H σ env
  to : ∃ o, d env = some o ∧ SPost g W f Z D o
def tS (g : G) (W : WX) (d : SDen) : TS := fun D σ H => ∃ f Z env, SAt g W f Z env d D σ H
abbrev PSX (X : Cx) (W : WX) (st : Stmt) (d : SDen) : Prop := PS X st (tS (gOf X) W d)
abbrev PSsX (X : Cx) (W : WX) (st : List Stmt) (d : SDen) : Prop := PSs X st (tS (gOf X) W d)
/-- an expression first -/
def sOf {α : Type} (d : Den α) (k : α → SDen) : SDen := fun e => match d e with
  | none => none
  | some (.ex c e') => some (.ex c e')
  | some (.ok a e') => k a e'
section
variable {α β : Type} {g : G} {W : WX} {f : Frm} {Z Z1 H : Hp} {σ : L2.St} {env : Cells} {D : Ends}
theorem SPost.weak {o : SOut} (p : SPost g W f Z D o) (s : Same Z Z1) : SPost g W f Z1 D o := by
  cases o with
  | nx e => exact fun σ' Z' H' s' st => p σ' Z' H' (s.trans s') st
  | bk e => exact fun σ' Z' H' s' st => p σ' Z' H' (s.trans s') st
  | ct e => exact fun σ' Z' H' s' st => p σ' Z' H' (s.trans s') st
  | rt v e => exact fun u σ' Z' H' s' st => p u σ' Z' H' (s.trans s') st
  | ex c e => exact fun cls dd σ' Z' H' s' st => p cls dd σ' Z' H' (s.trans s') st
theorem SAt.of {d : Den α} {k : α → SDen} {R : Hp → Hp → Cells → β → α → Prop} (h : SAt g W f Z env (sOf d k) D σ H) :
    At g W f Z env d R (fun b H1 => ∃ Z1 env1 a, Same Z Z1 ∧ R Z1 H1 env1 b a ∧ SAt g W f Z1 env1 (k a) D σ H1) σ H := by
  obtain ⟨st, o, e, p⟩ := h
  refine ⟨st, ?_⟩
  unfold sOf at e
  cases hd : d env with
  | none => rw [hd] at e; cases e
  | some o1 =>
    rw [hd] at e
    cases o1 with
    | ex c e1 =>
      have e : some (SOut.ex c e1) = some o := e
      cases e
      exact ⟨_, rfl, fun cls dd Z' H' s st' r => p cls dd σ Z' H' s st' r⟩
    | ok a e1 =>
      have e : k a e1 = some o := e
      exact ⟨_, rfl, fun b Z1 H1 s1 st1 r1 => ⟨Z1, e1, a, s1, r1, st1, o, e, p.weak s1⟩⟩
theorem SAt.here {d : SDen} (h : SAt g W f Z env d D σ H) : tS g W d D σ H := ⟨f, Z, env, h⟩
end
def sNext : SDen := fun e => some (.nx e)
def sSeq (a b : SDen) : SDen := fun e => match a e with
  | some (.nx e') => b e'
  | o => o
def sRet (d : Den PV) : SDen := sOf d fun v e => some (.rt v e)
def sDrop (d : Den PV) : SDen := sOf d fun _ e => some (.nx e)
def sSet (i : Nat) (d : Den PV) : SDen := sOf d fun v e => some (.nx (e.set i (.v v)))
def sSetM (i : Nat) (d : Den (List PV)) : SDen := sOf d fun v e => some (.nx (e.set i (.m true v)))
def sIf (c : Den PV) (a b : SDen) : SDen := sOf c fun x => match x with
  | .bl t => if t then a else b
  | _ => fun _ => none
section
variable {X : Cx} {W : WX} {e c : Expr} {st : Stmt} {rest body els : List Stmt} {d d1 d2 : SDen} {de dc : Den PV} {do' : Den (List PV)} {pos pos' : Pos} {i : Nat} {x : Str}
theorem psx_nil : PSsX X W [] sNext := pssimp pss_nil fun D σ H ⟨f, Z, env, st, o, e, p⟩ => by cases e; exact p σ Z H (Same.refl _) st
theorem psx_one (h : PSX X W st d) : PSsX X W [st] d := pss_one h
theorem psx_cons (h1 : PSX X W st d1) (h2 : PSsX X W rest d2) : PSsX X W (st :: rest) (sSeq d1 d2) := pssimp (pss_cons h1 h2) fun D σ H ⟨f, Z, env, st, o, e, p⟩ => by
  unfold sSeq at e
  refine ⟨f, Z, env, st, ?_⟩
  cases hd : d1 env with
  | none => rw [hd] at e; cases e
  | some o1 =>
    rw [hd] at e
    cases o1 with
    | nx e1 =>
      have e : d2 e1 = some o := e
      exact ⟨_, rfl, fun σ' Z' H' s st' => ⟨f, Z', e1, st', o, e, p.weak s⟩⟩
    | rt v e1 => cases e; exact ⟨_, rfl, p⟩
    | bk e1 => cases e; exact ⟨_, rfl, p⟩
    | ct e1 => cases e; exact ⟨_, rfl, p⟩
    | ex c e1 => cases e; exact ⟨_, rfl, p⟩
theorem psx_pass : PSX X W (.Pass pos) sNext := psimp ps_pass fun D σ H ⟨f, Z, env, st, o, e, p⟩ => by cases e; exact p σ Z H (Same.refl _) st
theorem psx_break : PSX X W (.Break pos) (fun e => some (.bk e)) := psimp ps_break fun D σ H ⟨f, Z, env, st, o, e, p⟩ => by cases e; exact p σ Z H (Same.refl _) st
theorem psx_continue : PSX X W (.Continue pos) (fun e => some (.ct e)) := psimp ps_continue fun D σ H ⟨f, Z, env, st, o, e, p⟩ => by cases e; exact p σ Z H (Same.refl _) st
theorem psx_ret (h : PX X W e de) : PSX X W (.Return (some e) pos) (sRet de) := psimp (ps_ret h) fun D σ H ⟨f, Z, env, a⟩ => (a.of.imp fun u H1 ⟨Z1, env1, v, s1, r1, a1⟩ => by
  obtain ⟨st, o, e, p⟩ := a1
  cases e
  exact p u σ Z1 H1 (Same.refl _) st r1).here
theorem psx_retN : PSX X W (.Return none pos) (fun e => some (.rt .non e)) := psimp ps_retN fun D σ H ⟨f, Z, env, st, o, e, p⟩ => by cases e; exact p .non σ Z H (Same.refl _) st .non
theorem psx_expr (h : PX X W e de) (hs : swapsWith e none pos.line X.env = pure false := by rfl) : PSX X W (.Expr e pos) (sDrop de) := psimp (ps_expr h hs) fun D σ H ⟨f, Z, env, a⟩ => (a.of.imp fun u H1 ⟨Z1, env1, v, s1, r1, a1⟩ => by
  obtain ⟨st, o, e, p⟩ := a1
  cases e
  exact p σ Z1 H1 (Same.refl _) st).here
/-- name = e, given as a rule that stores what te yields -/
theorem psx_setG {stm : Stmt} (h : ∀ te, PE X e te → PS X stm (tAsg te (gName i))) (hi : i < X.N.length) (he : PX X W e de) (hl : ∀ {pins : List (Addr × Obj)} {σ : L2.St} {H : Hp} {s : Shared}, Inv X pins σ H s → σ.length = X.N.length) : PSX X W stm (sSet i de) := by
  refine ⟨fun pins s σ H D I ⟨f, Z, env, a⟩ => (h _ he).run pins s σ H D I ?_⟩
  have hσ : i < σ.length := by rw [hl I]; exact hi
  exact (a.of.imp fun u H1 ⟨Z1, env1, v, s1, r1, a1⟩ => by
    obtain ⟨st, o, e, p⟩ := a1
    cases e
    exact p _ Z1 H1 (Same.refl _) (st.setV r1 hσ)).here
theorem psx_set (hN : X.N.Nodup) (hi : X.N[i]? = some x) (hx : Loc X.env.scope x) (h : PX X W e de) (hs : swapsWith e (some (.Name x pos')) pos.line X.env = pure false := by rfl)
    (hf : X.fn x = true ∨ X.env.scope.names.lookup x = some .local := by first | exact .inl rfl | exact .inr rfl | assumption) : PSX X W (.Assign [.Name x pos'] e pos) (sSet i de) :=
  psx_setG (fun te ht => ps_set hN hi hx ht hs hf) (List.getElem?_eq_some_iff.mp hi).1 h fun I => I.len
/-- name = a list of its own, to be changed -/
theorem psx_setM (hN : X.N.Nodup) (hi : X.N[i]? = some x) (hx : Loc X.env.scope x) (h : PO' X W e do') (hs : swapsWith e (some (.Name x pos')) pos.line X.env = pure false := by rfl)
    (hf : X.fn x = true ∨ X.env.scope.names.lookup x = some .local := by first | exact .inl rfl | exact .inr rfl | assumption) : PSX X W (.Assign [.Name x pos'] e pos) (sSetM i do') := by
  refine ⟨fun pins s σ H D I ⟨f, Z, env, a⟩ => (ps_set hN hi hx h hs hf).run pins s σ H D I ?_⟩
  have hσ : i < σ.length := by rw [I.len]; exact (List.getElem?_eq_some_iff.mp hi).1
  refine ⟨f, Z, env, a.of.imp fun u H1 ⟨Z1, env1, v, s1, r1, a1⟩ => ?_⟩
  obtain ⟨st, o, e, p⟩ := a1
  cases e
  obtain ⟨q, vs, rfl, n, hH, l, r, fn, nm⟩ := r1
  exact p _ Z1 H1 (Same.refl _) (st.setM n hH l r fn nm hσ)
theorem psx_if (hc : PTX X W c dc) (ha : PSsX X W body d1) (hb : PSsX X W els d2) : PSX X W (.If c body els pos) (sIf dc d1 d2) := psimp (ps_if hc ha hb) fun D σ H ⟨f, Z, env, a⟩ => by
  refine (a.of.imp fun u H1 ⟨Z1, env1, v, s1, r1, a1⟩ => ?_).tB
  cases v with
  | bl b =>
    cases r1
    refine ⟨b, rfl, ?_⟩
    cases b with
    | true => exact (show SAt (gOf X) W f Z1 env1 d1 D σ H1 from a1).here
    | false => exact (show SAt (gOf X) W f Z1 env1 d2 D σ H1 from a1).here
  | _ => obtain ⟨_, _, e, _⟩ := a1; cases e
end

/-! ### the rule for a def -/
def fnDen (m : Nat) (d : SDen) : Fn := fun args => match d (args.map .v ++ List.replicate (m - args.length) .un) with
  | some (.rt v _) => some (.ok v)
  | some (.nx _) => some (.ok .non)
  | some (.ex c _) => some (.error c)
  | _ => none
theorem start_len {N : List Str} {vs : List V} (h : vs.length ≤ N.length) : (start N vs).length = N.length := by
  unfold L2.start
  rw [List.length_append, List.length_map, List.length_replicate]
  omega
theorem stok_start {g : G} {Z H : Hp} {N : List Str} {vs : List V} {args : List PV} (e : Same Z H) (r : Reps g Z vs args) (h : vs.length ≤ N.length) :
    StOk g ⟨Z, H, fun _ => False⟩ Z H (start N vs) (args.map .v ++ List.replicate (N.length - args.length) .un) where
  z0 := Same.refl _
  zh := e
  fr := fun _ _ q _ => q
  nz := fun _ _ _ _ z => z
  pr := fun _ o q => ⟨o, q⟩
  mh := fun _ m => m.elim
  ln := by rw [start_len h, List.length_append, List.length_map, List.length_replicate, ← r.length]; omega
  sl := fun i c ei => by
    by_cases hi : i < args.length
    · rw [List.getElem?_append_left (by rw [List.length_map]; exact hi), List.getElem?_map] at ei
      cases ea : args[i]? with
      | none => rw [ea] at ei; cases ei
      | some x =>
        rw [ea] at ei
        cases ei
        obtain ⟨v, hv, rv⟩ := r.get' ea
        refine ⟨v, ?_, rv⟩
        unfold L2.start
        rw [List.getElem?_append_left (by rw [List.length_map, r.length]; exact hi), List.getElem?_map, hv]
        rfl
    · rw [List.getElem?_append_right (by rw [List.length_map]; omega)] at ei
      rw [List.getElem?_replicate] at ei
      split at ei
      · cases ei; trivial
      · cases ei
  sep := fun i j x y a ei ej mx my si sj => by
    have no : ∀ {i : Nat} {c : Cell}, (args.map Cell.v ++ List.replicate (N.length - args.length) .un)[i]? = some c → c.mut = true → False := fun {i c} ei m => by
      rcases List.mem_append.mp (List.mem_of_getElem? ei) with h | h
      · obtain ⟨x, _, rfl⟩ := List.mem_map.mp h; cases m
      · rw [(List.mem_replicate.mp h).2] at m; cases m
    exact (no ei mx).elim
section
variable {P : Program} {w : World} {K : PySem.W.Frag} {mg : Str → Option Value} {base : Heap}
theorem fnP {x qual : Str} {params : Arguments} {body : List Stmt} {scope : Scope} {dvs : List V} {kws : List (Str × V)} {f : Addr} {fd : FuncData} {N ps : List Str} {k : Nat} {d : SDen} (F : FunD K x qual params body scope dvs kws f fd) (S : FnScope N ps scope)
    (hb : ∀ (cdv : Value) (A : Around) (outer : List PySem.Env) (s : Shared) (H : Hp) (E : XK), RoomG k (A.deeper (envOfC qual scope s.heap.objs.size f cdv)) →
      Takes (cxOf (L2.CX P w) P w K mg base N qual scope f cdv A outer s H E) (fun cls dd _ H' => E cls dd H') →
      PSsX (cxOf (L2.CX P w) P w K mg base N qual scope f cdv A outer s H E) (fun cls dd _ H' => E cls dd H') body d) :
    FnG P w K mg base (L2.CX P w) (k + 1) f fd ps (SpP ⟨K, mg⟩ ps.length (fnDen N.length d)) := by
  refine fnG_of F S (fun vs H Q E ⟨Z, args, o, _, r, l, _⟩ => r.length.trans l) fun cdv A outer s H vs Q E hr h => ?_
  refine ⟨_, hb cdv A outer s H E hr (takes_of rfl rfl rfl rfl), ?_⟩
  obtain ⟨Z, args, o, e, r, l, hF, ho⟩ := h
  have hpl : ps.length ≤ N.length := by have := congrArg List.length S.pre; rw [List.length_take] at this; omega
  have st : StOk ⟨K, mg⟩ ⟨Z, H, fun _ => False⟩ Z H (start N vs) (args.map .v ++ List.replicate (N.length - args.length) .un) := stok_start e r (by rw [r.length, l]; exact hpl)
  have ex : ∀ {Z' H' : Hp} {σ' : L2.St} {env' : Cells}, Same Z Z' → StOk ⟨K, mg⟩ ⟨Z, H, fun _ => False⟩ Z' H' σ' env' → Ext Z H Z' H' := fun {Z' H' σ' env'} s st => ⟨s, fun a o q => st.fr a o q (fun z => z), st.zh, fun a o q z => st.nz a o q (fun z => z) z⟩
  refine ⟨_, Z, _, st, ?_⟩
  unfold fnDen at hF
  cases hd : d (args.map .v ++ List.replicate (N.length - args.length) .un) with
  | none => rw [hd] at hF; cases hF
  | some so =>
    rw [hd] at hF
    cases so with
    | rt v e1 => cases hF; exact ⟨_, rfl, fun u σ' Z' H' s st' rv => ho u Z' H' (ex s st') rv⟩
    | nx e1 => cases hF; exact ⟨_, rfl, fun σ' Z' H' s st' => ho .non Z' H' (ex s st') .non⟩
    | ex c e1 => cases hF; exact ⟨_, rfl, fun cls dd σ' Z' H' s st' rv => ho cls dd Z' H' (ex s st') rv⟩
    | bk e1 => cases hF
    | ct e1 => cases hF
end
end Pu
set_option Elab.async false
set_option linter.all false
set_option maxRecDepth 100000
set_option maxHeartbeats 4000000
/-! Pu, part F: what is walked; targets; for; comprehensions. -/
namespace Pu
open PySem PySem.Spec PyProof.Rows L2

/-! ### what is walked -/
/-- the iterator J goes through the data xs -/
structure IterRep (g : G) (Z : Hp) (J : It) (xs : List PV) : Prop where
  ex : ∃ (n : Nat) (G' : Hp → Prop) (Y : Nat → Hp → V → Hp → Prop), Walk J n G' Y ∧ n = xs.length ∧ n ≤ sizeLine ∧ (∀ H, Same Z H → G' H) ∧
    ∀ i H v H', i < n → Y i H v H' → ∃ x, xs[i]? = some x ∧ ∀ (f : Frm) (Zc : Hp) (σ : L2.St) (env : Cells), Same Z Zc → StOk g f Zc H σ env → ∃ Z', Same Zc Z' ∧ StOk g f Z' H' σ env ∧ Rep g Z' v x
theorem IterRep.mono {g : G} {Z Z' : Hp} {J : It} {xs : List PV} (h : IterRep g Z J xs) (s : Same Z Z') : IterRep g Z' J xs := by
  obtain ⟨n, G', Y, w, e, lz, hG, hY⟩ := h.ex
  exact ⟨n, G', Y, w, e, lz, fun H q => hG H (s.trans q), fun i H v H' hi y => by
    obtain ⟨x, ex, k⟩ := hY i H v H' hi y
    exact ⟨x, ex, fun f Zc σ env q st => k f Zc σ env (s.trans q) st⟩⟩
def tI (g : G) (W : WX) (d : Den (List PV)) : TI := fun σ H R => ∃ f Z env, At g W f Z env d (fun Z' _ _ J xs => IterRep g Z' J xs) R σ H
abbrev PIX (X : Cx) (W : WX) (tg it : Expr) (d : Den (List PV)) : Prop := PI X tg it (tI (gOf X) W d)
theorem pi_or {X : Cx} {tg it : Expr} {t t' : TI} (h : PI X tg it t) (h' : PI X tg it t') : PI X tg it (fun σ H R => t σ H R ∨ t' σ H R) := ⟨fun pins s σ H R I q => q.elim (h.run pins s σ H R I) (h'.run pins s σ H R I)⟩
section
variable {g : G} {Z : Hp}
theorem iter_at {K : PySem.W.Frag} {J : It} {vs : List V} {xs : List PV} {G' : Hp → Prop} (lz : vs.length ≤ sizeLine) (w : Walk J vs.length G' (YAt vs)) (hG : ∀ H, Same Z H → G' H) (r : Reps g Z vs xs) : IterRep g Z J xs :=
  ⟨vs.length, G', YAt vs, w, r.length, lz, hG, fun i H v H' hi y => by
    obtain ⟨rfl, e⟩ := y
    obtain ⟨x, ex, rx⟩ := r.get e
    exact ⟨x, ex, fun f Zc σ env q st => ⟨Zc, Same.refl _, st, rx.mono q⟩⟩⟩
end
/-- the signs of a text -/
def signs (s : Str) : List PV := s.cps.toList.map fun c => .str ⟨#[c]⟩
def PV.seq : PV → Option (List PV)
  | .str s => if s.cps.size ≤ sizeLine then some (signs s) else none
  | x => x.items
section
variable {X : Cx} {W : WX} {tg e a : Expr} {da : Den PV} {ds : Den (List PV)} {p pos : Pos} {g : G}
def dSeq (da : Den PV) : Den (List PV) := da.bind fun x => Den.lift x.seq
/-- over a list, a tuple, a text -/
theorem pix_seq (ha : PX X W a da) : PIX X W tg a (dSeq da) := piimp (pi_or (pi_list ha) (pi_or (pi_tup ha) (pi_str ha))) fun σ H R ⟨f, Z, env, a⟩ => by
  have a0 := a
  obtain ⟨st, o, eo, po⟩ := a
  unfold dSeq Den.bind at eo
  cases hd : da env with
  | none => rw [hd] at eo; cases eo
  | some o1 =>
    rw [hd] at eo
    cases o1 with
    | ex c e1 =>
      have eo : some (Out.ex c e1) = some o := eo
      cases eo
      exact .inl ⟨f, Z, env, st, _, hd, po⟩
    | ok x e1 =>
      have eo : Den.lift x.seq e1 = some o := eo
      have key : ∀ xs, x.items = some xs → o = .ok xs e1 → (iList X.K (tP (gOf X) W da) σ H R ∨ iTup X.K (tP (gOf X) W da) σ H R ∨ iStr (tP (gOf X) W da) σ H R) := fun xs hi ho => by
        subst ho
        have po' : ∀ b Z' H', Same Z Z' → StOk (gOf X) f Z' H' σ e1 → IterRep (gOf X) Z' b xs → R b H' := po
        by_cases hl : x = .lst xs
        · refine .inl ⟨f, Z, env, st, _, hd, fun u Z1 H1 s1 st1 r1 => ?_⟩
          obtain ⟨q, vs, rfl, l, rv, h⟩ := r1.seq st1.zh (PV.items_of hi)
          rcases h with h | h
          · subst hl
            cases r1 with
            | lst hz hl2 rv2 => exact ⟨q, rfl, ⟨vs, h.2⟩, po' _ Z1 H1 s1 st1 (iter_at (K := X.K) hl2 walk_list (fun H' q' => Same.sql q' hz) rv2)⟩
          · exact absurd hl h.1
        · refine .inr (.inl ⟨f, Z, env, st, _, hd, fun u Z1 H1 s1 st1 r1 => ?_⟩)
          obtain ⟨q, vs, rfl, l, rv, h⟩ := r1.seq st1.zh (PV.items_of hi)
          rcases h with h | h
          · exact absurd h.1 hl
          · obtain ⟨q', vs', e', l', rv', h'⟩ := r1.seq (Same.refl Z1) (PV.items_of hi)
            cases e'
            rcases h' with h' | h'
            · exact absurd h'.1 hl
            · exact ⟨q, rfl, ⟨vs, h.2⟩, po' _ Z1 H1 s1 st1 (iter_at (K := X.K) l' walk_tup (fun H' q' => Same.sqt q' h'.2) rv')⟩
      cases x with
      | str z =>
        have eo : Den.lift (if z.cps.size ≤ sizeLine then some (signs z) else none) e1 = some o := eo
        have lz : z.cps.size ≤ sizeLine := by
          by_cases h : z.cps.size ≤ sizeLine
          · exact h
          · rw [if_neg h] at eo; cases eo
        rw [if_pos lz] at eo
        cases eo
        by_cases hz : PyData.strOk z = true
        · refine .inr (.inr ⟨f, Z, env, st, _, hd, fun u Z1 H1 s1 st1 r1 => ?_⟩)
          cases r1
          refine ⟨z, rfl, po (Its z) Z1 H1 s1 st1 ⟨z.cps.size, _, _, walk_str, by unfold signs; simp, lz, fun _ _ => trivial, fun i H v H' hi y => ?_⟩⟩
          obtain ⟨rfl, c, hc, rfl⟩ := y
          refine ⟨.str ⟨#[c]⟩, by unfold signs; simp [hc], fun f Zc σ env q st => ⟨Zc, Same.refl _, st, .str _ ?_⟩⟩
          have h3 : c ∈ z.cps := Array.mem_of_getElem? hc
          have h5 : c < 0x110000 := by simpa using (Array.all_eq_true'.mp hz c h3)
          simp [PyData.strOk, h5]
        · refine .inr (.inr ⟨f, Z, env, st, _, hd, fun u Z1 H1 s1 st1 r1 => ?_⟩)
          cases r1 with | str _ q => exact absurd q hz
      | tup xs => exact key xs rfl (by have eo : Den.lift (some xs) e1 = some o := eo; cases eo; rfl)
      | ktup xs => exact key xs rfl (by have eo : Den.lift (some xs) e1 = some o := eo; cases eo; rfl)
      | lst xs => exact key xs rfl (by have eo : Den.lift (some xs) e1 = some o := eo; cases eo; rfl)
      | _ => cases eo
/-- over range(n) -/
theorem pix_range (hg : Gl X "range") (hm : X.mg "range" = none) (ha : PX X W a da) (na : starEach [a] X.env = (false, eval a X.env) :: starEach [] X.env := by rfl) : PIX X W tg (.Call (.Name "range" p) [a] [] pos) (dRg da) :=
  piimp (pi_range1 hg hm (pax_cons ha pax_nil na) na) fun σ H R ⟨f, Z, env, a⟩ => by
    refine ⟨f, Z, env, ?_⟩
    obtain ⟨st, o, eo, po⟩ := a
    refine ⟨st, ?_⟩
    unfold dRg Den.bind at eo
    unfold dCons dNil Den.bind
    cases hd : da env with
    | none => rw [hd] at eo; cases eo
    | some o1 =>
      rw [hd] at eo
      cases o1 with
      | ex c e1 =>
        have eo : some (Out.ex c e1) = some o := eo
        cases eo
        exact ⟨_, rfl, fun cls dd Z' H' s st r => po cls dd Z' H' s st r⟩
      | ok x e1 =>
        refine ⟨_, rfl, fun us Z1 H1 s1 st1 r1 => ?_⟩
        cases x with
        | int n =>
          have eo : Den.lift (if -16777216 ≤ n ∧ n ≤ 16777216 then some (rgP n) else none) e1 = some o := eo
          split at eo
          · cases eo
            obtain ⟨u, rfl, ru⟩ := r1.one
            cases ru
            refine ⟨n, rfl, by omega, by omega, po _ Z1 H1 s1 st1 ⟨n.toNat, _, _, walk_range, by unfold rgP; simp, by rw [sizeLine_eq]; omega, fun _ _ => trivial, fun i H v H' hi y => ?_⟩⟩
            obtain ⟨rfl, rfl⟩ := y
            exact ⟨.int (i : Nat), by unfold rgP; simp [hi], fun f Zc σ env q st => ⟨Zc, Same.refl _, st, by show Rep (gOf X) Zc (.int (0 + (i : Int))) (.int i); rw [Int.zero_add]; exact .int _⟩⟩
          · cases eo
        | _ => cases eo
end

/-! ### enumerate of a tuple, as HandS has it for a list -/
theorem meets_enumerate_newT (l : Addr) (items : Array Value) (n : Nat) (dct : Option Addr) (sl : Array (Option Value)) :
    Meets (Builtin.«enumerate.__new__» ⟨[.type "enumerate", .ref l], []⟩) (fun _ R s => s.heap.get? l = some { cls := .type "tuple", dict := dct, data := .seq items n, slots := sl } ∧
      R (.ok (.ret (.ref (s.heap.push { cls := .type "tuple_iterator", data := .fields #[.ref l, .int 0 0] }).objs.size)))
        { s with heap := (s.heap.push { cls := .type "tuple_iterator", data := .fields #[.ref l, .int 0 0] }).push { cls := .type "enumerate", data := .fields #[.none, .bool false, .ref s.heap.objs.size, rawInt 0, .none, .none] } }) :=
  .of_wp fun prog w A R s h => by
    obtain ⟨hp, g, d, tk, os⟩ := s; obtain ⟨hl, h⟩ := h
    have hsub := sub_enumerate
    have hL : Heap.IsTuple (Shared.heap ⟨hp, g, d, tk, os⟩) l items := ⟨_, hl, rfl, n, rfl⟩
    wp_walk using AutoSeq1.wpAny_loadPart' hl
    refine wpAny_stack_any fun st => wpAny_pure ?_
    split
    · rename_i c _ _ _ _ _
      cases (c == Value.type "enumerate")
      · wp_walk using AutoSeq1.wpAny_loadPart' hl, wpAny_pyIter_tuple hL
        exact ⟨_, rfl, h⟩
      · wp_walk using AutoSeq1.wpAny_loadPart' hl, wpAny_pyIter_tuple hL
        exact ⟨_, rfl, h⟩
    · wp_walk using AutoSeq1.wpAny_loadPart' hl, wpAny_pyIter_tuple hL
      exact ⟨_, rfl, h⟩

section
variable {prog : Program} {w : World} {A : Around} {E : Value → Shared → Prop} {s : Shared}
theorem call_enumerate_tuple {l : Addr} {items : Array Value} {Q : Value → Shared → Prop} (hL : s.heap.IsTuple l items)
    (h : ∀ h', IsEnum h' (s.heap.objs.size + 1) s.heap.objs.size 0 .none → h'.IsTupleIter s.heap.objs.size l 0 → h'.objs.size = s.heap.objs.size + 2 →
      (∀ b o, s.heap.get? b = some o → h'.get? b = some o) → Q (.ref (s.heap.objs.size + 1)) { s with heap := h' }) :
    wpAny (model prog w) A (call (.type "enumerate") [.ref l]) Q E s := by
  obtain ⟨⟨c, dct, dt, sl⟩, hl, hc, n, hd⟩ := hL
  replace hc : c = .type "tuple" := hc
  replace hd : dt = .seq items n := hd
  subst hc hd
  refine callType_new F.called_enumerate (by decide) (F.typeCall_enumerate_1 _) (F.newCall_enumerate_1 _) (fun obj => F.args_object_init_2 obj _) F.entry_enumerate_new
    (meets_enumerate_newT l items n dct sl) ⟨hl, ?_⟩
  have hz : (s.heap.push { cls := .type "tuple_iterator", data := .fields #[.ref l, .int 0 0] }).objs.size = s.heap.objs.size + 1 := Heap.size_push ..
  show _ ∧ _
  rw [hz]
  have he : IsEnum ((s.heap.push { cls := .type "tuple_iterator", data := .fields #[.ref l, .int 0 0] }).push
      { cls := .type "enumerate", data := .fields #[.none, .bool false, .ref s.heap.objs.size, rawInt 0, .none, .none] }) (s.heap.objs.size + 1) s.heap.objs.size 0 .none := by
    have := Heap.get?_push_size (s.heap.push { cls := .type "tuple_iterator", data := .fields #[.ref l, .int 0 0] })
      (o := { cls := .type "enumerate", data := .fields #[.none, .bool false, .ref s.heap.objs.size, rawInt 0, .none, .none] }) rfl
    rw [hz] at this; exact this
  refine ⟨⟨_, he, rfl⟩, h _ he ⟨_, Heap.get?_push_of_some _ (Heap.get?_push_size _ rfl), rfl, rfl⟩ (by rw [Heap.size_push, hz]) fun b o x => Heap.get?_push_of_some _ (Heap.get?_push_of_some _ x)⟩
end
/-- the tuple at a, each item in a new pair -/
def IteT (K : PySem.W.Frag) (a : Addr) : It :=
  ⟨fun i H => ∃ (xs : List V) (x : V), SqT K H a xs ∧ xs[i]? = some x, fun i H v H' => ∃ T x, v = .ref T ∧ H T = none ∧ H' = upd H T (.tup [.int (i : Nat), x]) ∧ ∀ xs, SqT K H a xs → xs[i]? = some x, fun i H => ∃ xs : List V, SqT K H a xs ∧ xs.length ≤ i⟩
theorem turn_enumT {P : Program} {w : World} {K : PySem.W.Frag} {elts : List Expr} {kk : Nat} {tpos : Pos} (a e it : Addr) :
    Turn P w K (.Tuple elts kk tpos) (IteT K a) [e, it] e (fun i h => (∃ old, IsEnum h e it ((i : Nat) : Int) old) ∧ h.IsTupleIter it a i ∧ e ≠ it) where
  mem := by simp
  obj := fun i h st b hb => by
    obtain ⟨⟨old, he⟩, ⟨o, ho, hc, hd⟩, _⟩ := st
    have e' : b = e ∨ b = it := by simpa using hb
    rcases e' with z | z
    · rw [z]; exact ⟨_, he, fun v q => nomatch q⟩
    · rw [z]; exact ⟨o, ho, fun v q => by rw [hd] at q; cases q⟩
  keep := fun i h h' st k => let ⟨⟨old, he⟩, hi, hne⟩ := st; ⟨⟨old, k e (by simp) _ he⟩, hi.at fun o q => k it (by simp) o q, hne⟩
  item := by
    intro X hP hw hK hc i pins s σ H E I hf st hg
    subst hP hw hK
    obtain ⟨⟨old, he⟩, hit, hne⟩ := st
    obtain ⟨xs, x, hq, hx⟩ := hg
    obtain ⟨its, rv, p, hz⟩ := I.tuple hq
    obtain ⟨u, hu, ru⟩ := rv.get hx
    have hel : e < s.heap.objs.size := Heap.lt_size he
    have hil : it < s.heap.objs.size := by obtain ⟨_, q, _⟩ := hit; exact Heap.lt_size q
    have hai : a ≠ it := fun z => by
      obtain ⟨o, ho, hc, _⟩ := hit
      obtain ⟨o', ho', hc', _⟩ := p
      rw [z, ho] at ho'
      cases ho'
      rw [hc] at hc'
      exact absurd hc' (by decide)
    have hlt : i < its.toArray.size := by
      have := (List.getElem?_eq_some_iff.mp hu).1
      simpa using this
    refine wpAny_pyNext_enum_itemD (D := Draws.tuple (A := X.A.in1) (I.ok.hd hc) it a hai its.toArray) he ⟨hit, p⟩ hlt hne (by simp only [List.mem_cons, List.not_mem_nil, or_false, not_or]; exact ⟨hne, fun z => by
      subst z
      obtain ⟨o', ho', hc', _⟩ := p
      rw [he] at ho'
      cases ho'
      exact absurd (show Value.type "enumerate" = Value.type "tuple" from hc') (by decide)⟩) fun y h' tk hy ho hst' hT hsz hk => ?_
    have hy' : u = y := by
      have q : its.toArray[i]? = some u := by simpa using hu
      rw [q] at hy
      exact Option.some.inj hy
    subst hy'
    obtain ⟨hit', _⟩ := hst'
    refine ⟨_, rfl, wpAny_letOwnedTupleGo_enum (s := { s with heap := h', toks := tk + 1 }) ho fun h'' he' sb => ?_⟩
    have hT2 : h''.get? s.heap.objs.size = some { cls := .type "tuple", data := .seq #[.int i tk, u] } := (sb.2 _ (Nat.ne_of_gt hel)).trans hT
    have new : ObjOk X.prog X.w (upd H s.heap.objs.size (.tup [.int (i : Nat), x])) h'' s.heap.objs.size (.tup [.int (i : Nat), x]) :=
      ⟨by show 2 ≤ sizeLine; decide, [.int i tk, u], .cons ⟨_, rfl⟩ (.cons ru .nil), ⟨_, hT2, rfl, _, rfl⟩⟩
    have I1 : Inv X pins σ (upd H s.heap.objs.size (.tup [.int (i : Nat), x])) { s with heap := h'', toks := tk + 1 } :=
      I.turnedNew (ch := [e, it]) (fun b ob hb q => (sb.2 b (fun z => hb (by simp [z]))).trans (hk b ob (fun z => hb (by simp [z])) (fun z => hb (by simp [z])) q)) hf (Nat.le_refl _) new
    refine ⟨.ref s.heap.objs.size, _, I1, rfl, ⟨_, x, rfl, I.hok.fresh (Nat.le_refl _), rfl, fun ys hy => by rw [I.tuple_inj hy hq]; exact hx⟩, ⟨⟨u, ?_⟩, hit'.at fun o q => (sb.2 it (Ne.symm hne)).trans q, hne⟩, fun b hb => ?_⟩
    · have e1 : ((i + 1 : Nat) : Int) = (i : Int) + 1 := by omega
      rw [e1]; exact he'
    · have hb' : b < s.heap.objs.size := by
        have e' : b = e ∨ b = it := by simpa using hb
        rcases e' with z | z
        · rw [z]; exact hel
        · rw [z]; exact hil
      rw [upd_ne (Nat.ne_of_lt hb')]
      exact (hf b hb).1
  done := by
    intro X hP hw hK hc i pins s σ H E I hf st hg
    subst hP hw hK
    obtain ⟨⟨old, he⟩, hit, hne⟩ := st
    obtain ⟨xs, hq, hx⟩ := hg
    obtain ⟨its, rv, p, hz⟩ := I.tuple hq
    obtain ⟨f0, f1, f2, f3, f4, f5⟩ := hf it (by simp)
    have hl := rv.length
    have hT : s.TypeIs (.ref e) "enumerate" := ⟨_, he, rfl⟩
    unfold pyNext
    refine wpAny_bind (wpAny_attempt (wpAny_callSpecial?_slot (name := Str.ofString "__next__") hT F.slot_enumerate_next
      (wpAny_call_entry F.slot_enumerate_next hT F.entry_enumerate_next ?_ (F.args_enumerate_next_1 _))))
    show wpAny _ _ (field (.ref e) 2 >>= _) _ _ _
    refine wpAny_bind (wpAny_field he rfl (x := .ref it) rfl ?_)
    refine wpAny_bind (wpAny_nextOf_tuple_end (I.ok.hd hc) hit (show s.heap.IsTuple a its.toArray from p) (by simp; omega) fun h' x he' hx' => ?_)
    obtain ⟨o, ho, hc⟩ := hx'
    refine wpAny_bind (wpAny_isInstance (T := "StopIteration") (b := true) ⟨o, ho, hc⟩ isSubtype_stop ?_)
    exact wpAny_pure ⟨rfl, I.turned (t' := s.toks) (fun b o hb q => he' b o hb q) f0 f1 f3 f4 f5⟩
  self := fun A i s Q E st h => let ⟨⟨_, he⟩, _⟩ := st; wpAny_pyIter_enum he h
def iEnumT (K : PySem.W.Frag) (ta : TA) : TI := fun σ H R => ta σ H fun vs H1 => ∃ a xs, vs = [.ref a] ∧ SqT K H1 a xs ∧ R (IteT K a) H1
theorem pi_enumT {X : Cx} {e : Expr} {ta : TA} {p pos tpos : Pos} {elts : List Expr} {kk : Nat} (hg : Gl X "enumerate") (hm : X.mg "enumerate" = none) (ha : PA X [e] ta) (hs : starEach [e] X.env = [(false, eval e X.env)] := by rfl) :
    PI X (.Tuple elts kk tpos) (.Call (.Name "enumerate" p) [e] [] pos) (iEnumT X.K ta) := by
  refine ⟨fun pins s σ H R I h => ?_⟩
  refine Call_ (ld_blt I hg hm boot_enumerate (PyProof.Rows.callWith_type1 (thn (ha.run pos pins s σ H _ I h) fun us s1 ⟨vs, H1, I1, r1, q1⟩ => ?_) hs rfl))
  obtain ⟨a, xs, ex, hq, q⟩ := q1
  subst ex
  cases r1 with
  | cons r rr =>
    cases rr
    cases r
    obtain ⟨its, rv, p', hz⟩ := I1.tuple hq
    refine call_enumerate_tuple (show s1.heap.IsTuple a its.toArray from p') fun h' he hit hsz hk => wpAny_pyIter_enum he ?_
    have I2 : Inv X pins σ H1 { s1 with heap := h' } := I1.kept (t' := s1.toks) hk
    refine ⟨s1.heap.objs.size + 1, [s1.heap.objs.size + 1, s1.heap.objs.size], _, _, H1, rfl, I2, turn_enumT a (s1.heap.objs.size + 1) s1.heap.objs.size, ⟨⟨.none, he⟩, hit, Nat.succ_ne_self _⟩, fun b hb => ?_, q⟩
    have e' : b = s1.heap.objs.size + 1 ∨ b = s1.heap.objs.size := by simpa using hb
    have hle : s1.heap.objs.size ≤ b := by
      rcases e' with z | z
      · rw [z]; exact Nat.le_add_right _ _
      · rw [z]; exact Nat.le_refl _
    exact I1.fpOk hle (I1.hok.fresh hle)
theorem walk_enumT {K : PySem.W.Frag} {a : Addr} {xs : List V} : Walk (IteT K a) xs.length (fun H => SqT K H a xs) (YPair (fun i => some (.int (i : Nat))) (fun i => xs[i]?)) := by
  refine ⟨fun i _ hi q => ⟨xs, xs[i], q, by simp [hi]⟩, fun _ q => ⟨xs, q, Nat.le_refl _⟩, fun i H v H' _ q y => ?_⟩
  obtain ⟨T, x, h1, h2, h3, h4⟩ := y
  exact ⟨T, .int (i : Nat), x, h1, h2, h3, rfl, h4 xs q⟩
/-- the pairs of an enumerate -/
def enumP (xs : List PV) : List PV := xs.mapIdx fun i x => .ktup [.int (i : Nat), x]
theorem iter_enum {g : G} {Z : Hp} {J : It} {vs : List V} {xs : List PV} {G' : Hp → Prop} (lz : vs.length ≤ sizeLine) (w : Walk J vs.length G' (YPair (fun i => some (.int (i : Nat))) (fun i => vs[i]?))) (hG : ∀ H, Same Z H → G' H) (r : Reps g Z vs xs) : IterRep g Z J (enumP xs) :=
  ⟨vs.length, G', _, w, by unfold enumP; rw [List.length_mapIdx]; exact r.length, lz, hG, fun i H v H' hi y => by
    obtain ⟨T, a, b, rfl, hT, rfl, ea, eb⟩ := y
    obtain ⟨x, ex, rx⟩ := r.get eb
    cases ea
    refine ⟨.ktup [.int (i : Nat), x], by unfold enumP; rw [List.getElem?_mapIdx, ex]; rfl, fun f Zc σ env q st => ⟨upd Zc T (.tup [.int (i : Nat), b]), same_upd (st.zn hT), st.lay hT, ?_⟩⟩
    exact .ktup upd_same (by show 2 ≤ sizeLine; decide) (.cons (.int _) (.cons ((rx.mono q).mono (same_upd (st.zn hT))) .nil))⟩
def dEnum (da : Den PV) : Den (List PV) := da.bind fun x => Den.lift (x.items.map enumP)
theorem pix_enum {X : Cx} {W : WX} {a : Expr} {da : Den PV} {p pos tpos : Pos} {elts : List Expr} {kk : Nat} (hg : Gl X "enumerate") (hm : X.mg "enumerate" = none) (ha : PX X W a da) (na : starEach [a] X.env = (false, eval a X.env) :: starEach [] X.env := by rfl) :
    PIX X W (.Tuple elts kk tpos) (.Call (.Name "enumerate" p) [a] [] pos) (dEnum da) := piimp (pi_or (pi_enum hg hm (pax_cons ha pax_nil na) na) (pi_enumT hg hm (pax_cons ha pax_nil na) na)) fun σ H R ⟨f, Z, env, a⟩ => by
  obtain ⟨st, o, eo, po⟩ := a
  unfold dEnum Den.bind at eo
  cases hd : da env with
  | none => rw [hd] at eo; cases eo
  | some o1 =>
    rw [hd] at eo
    cases o1 with
    | ex c e1 =>
      have eo : some (Out.ex c e1) = some o := eo
      cases eo
      exact .inl ⟨f, Z, env, st, .ex c e1, by unfold dCons dNil Den.bind; rw [hd], fun cls dd Z' H' s st r => po cls dd Z' H' s st r⟩
    | ok x e1 =>
      have eo : Den.lift (x.items.map enumP) e1 = some o := eo
      have hd2 : dCons da dNil env = some (.ok [x] e1) := by unfold dCons dNil Den.bind; rw [hd]; rfl
      cases hi : x.items with
      | none => rw [hi] at eo; cases eo
      | some xs =>
        rw [hi] at eo
        cases eo
        have po' : ∀ b Z' H', Same Z Z' → StOk (gOf X) f Z' H' σ e1 → IterRep (gOf X) Z' b (enumP xs) → R b H' := po
        by_cases hl : x = .lst xs
        · refine .inl ⟨f, Z, env, st, _, hd2, fun us Z1 H1 s1 st1 r1 => ?_⟩
          obtain ⟨u, rfl, ru⟩ := r1.one
          subst hl
          cases ru with
          | lst hz hl2 rv2 => exact ⟨_, _, rfl, Same.sql st1.zh hz, po' _ Z1 H1 s1 st1 (iter_enum hl2 (walk_enum (K := X.K)) (fun H' q' => Same.sql q' hz) rv2)⟩
        · refine .inr ⟨f, Z, env, st, _, hd2, fun us Z1 H1 s1 st1 r1 => ?_⟩
          obtain ⟨u, rfl, ru⟩ := r1.one
          obtain ⟨q', vs', e', l', rv', h'⟩ := ru.seq (Same.refl Z1) (PV.items_of hi)
          subst e'
          rcases h' with h' | h'
          · exact absurd h'.1 hl
          · exact ⟨_, _, rfl, Same.sqt st1.zh h'.2, po' _ Z1 H1 s1 st1 (iter_enum l' (walk_enumT (K := X.K)) (fun H' q' => Same.sqt q' h'.2) rv')⟩
end Pu
set_option Elab.async false
set_option linter.all false
set_option maxRecDepth 100000
set_option maxHeartbeats 4000000
/-! Pu, part G: targets; for; list comprehensions. -/
namespace Pu
open PySem PySem.Spec PyProof.Rows L2

/-! ### slots forgotten -/
def wipeE (e : Cells) : List Nat → Cells
  | [] => e
  | v :: vs => (wipeE e vs).set v .un
theorem wipeE_length (e : Cells) : ∀ vs : List Nat, (wipeE e vs).length = e.length
  | [] => rfl
  | v :: vs => by unfold wipeE; rw [List.length_set, wipeE_length e vs]
theorem wipe_idem_set (σ : L2.St) (i : Nat) (x : Option V) : ∀ vs : List Nat, i ∈ vs → wipe (σ.set i x) vs = wipe σ vs
  | [], h => by cases h
  | v :: vs, h => by
    unfold wipe
    by_cases hm : i ∈ vs
    · rw [wipe_idem_set σ i x vs hm]
    · have e : i = v := by
        rcases List.mem_cons.mp h with e | e
        · exact e
        · exact absurd e hm
      subst e
      have q : ∀ ws : List Nat, i ∉ ws → wipe (σ.set i x) ws = (wipe σ ws).set i x := by
        intro ws
        induction ws with
        | nil => intro _; rfl
        | cons w ws ih =>
          intro hn
          rw [List.mem_cons, not_or] at hn
          unfold wipe
          rw [ih hn.2, List.set_comm _ _ hn.1]
      rw [q vs hm, List.set_set]
theorem wipe_twice (σ : L2.St) : ∀ (vs ws : List Nat), (∀ i ∈ ws, i ∈ vs) → wipe (wipe σ ws) vs = wipe σ vs
  | vs, [], _ => rfl
  | vs, w :: ws, h => by
    show wipe ((wipe σ ws).set w none) vs = _
    rw [wipe_idem_set _ _ _ _ (h w List.mem_cons_self), wipe_twice σ vs ws fun i hi => h i (List.mem_cons_of_mem _ hi)]
section
variable {g : G} {f : Frm} {Z H : Hp} {σ : L2.St} {env : Cells}
theorem StOk.wipes (st : StOk g f Z H σ env) : ∀ vs : List Nat, StOk g f Z H (wipe σ vs) (wipeE env vs)
  | [] => st
  | v :: vs => (st.wipes vs).wipe1
theorem StOk.forgets (st : StOk g f Z H σ env) : ∀ vs : List Nat, StOk g f Z H σ (wipeE env vs)
  | [] => st
  | v :: vs => (st.forgets vs).forget
theorem wipe_get {σ : L2.St} {i : Nat} : ∀ {vs : List Nat}, i ∉ vs → (wipe σ vs)[i]? = σ[i]?
  | [], _ => rfl
  | v :: vs, h => by
    rw [List.mem_cons, not_or] at h
    unfold wipe
    rw [List.getElem?_set_ne (Ne.symm h.1), wipe_get h.2]
theorem wipeE_in {e : Cells} {i : Nat} {c : Cell} : ∀ {vs : List Nat}, i ∈ vs → (wipeE e vs)[i]? = some c → c = .un
  | [], h, _ => by cases h
  | v :: vs, h, q => by
    unfold wipeE at q
    by_cases hv : v = i
    · subst hv
      by_cases hl : v < (wipeE e vs).length
      · rw [List.getElem?_set_self hl] at q; cases q; rfl
      · rw [List.getElem?_eq_none (by rw [List.length_set]; omega)] at q; cases q
    · rw [List.getElem?_set_ne hv] at q
      refine wipeE_in (vs := vs) ?_ q
      rcases List.mem_cons.mp h with z | z
      · exact absurd z.symm hv
      · exact z
/-- the slots' own values come back: the cells at vs tell nothing -/
theorem StOk.unwipe {vs : List Nat} {e : Cells} (st : StOk g f Z H (wipe σ vs) (wipeE e vs)) : StOk g f Z H σ (wipeE e vs) where
  z0 := st.z0
  zh := st.zh
  fr := st.fr
  nz := st.nz
  pr := st.pr
  mh := st.mh
  ln := by rw [st.ln, wipe_length]
  sl := fun i c q => by
    by_cases hi : i ∈ vs
    · rw [wipeE_in hi q]; trivial
    · have r := st.sl i c q
      unfold Slot at r ⊢
      rw [wipe_get hi] at r
      exact r
  sep := fun i j x y a ei ej mx my si sj => by
    have ni : i ∉ vs := fun h => by rw [wipeE_in h ei] at mx; cases mx
    have nj : j ∉ vs := fun h => by rw [wipeE_in h ej] at my; cases my
    exact st.sep i j x y a ei ej mx my (by rw [wipe_get ni]; exact si) (by rw [wipe_get nj]; exact sj)
/-- a thing outside of the frozen part, of the frame and of all cells is changed -/
theorem StOk.poke (st : StOk g f Z H σ env) {D : Addr} {o : HO} (n : f.H D = none) (zD : Z D = none) (nm : ¬ Muts σ env D) : StOk g f Z (upd H D o) σ env where
  z0 := st.z0
  zh := fun a u e => by rw [upd_ne (fun z => by subst z; rw [zD] at e; cases e)]; exact st.zh a u e
  fr := fun a u e m => by rw [upd_ne (ne_of_none e n)]; exact st.fr a u e m
  nz := st.nz
  pr := fun a u e => by
    obtain ⟨u', q⟩ := st.pr a u e
    exact ⟨u', by rw [upd_ne (ne_of_none e n)]; exact q⟩
  mh := st.mh
  ln := st.ln
  sl := fun i c e => by
    have q := st.sl i c e
    cases c with
    | un => trivial
    | v x => exact q
    | m own xs =>
      obtain ⟨b, vs, e1, e2, e3, l, r, e4⟩ := q
      exact ⟨b, vs, e1, e2, by rw [upd_ne (fun z => by subst z; exact nm ⟨i, _, e, rfl, e1⟩)]; exact e3, l, r, e4⟩
    | d own ks vs =>
      obtain ⟨b, kvs, e1, e2, e3, l, hk, ho, r, e4⟩ := q
      exact ⟨b, kvs, e1, e2, by rw [upd_ne (fun z => by subst z; exact nm ⟨i, _, e, rfl, e1⟩)]; exact e3, l, hk, ho, r, e4⟩
    | o own c ns vs =>
      obtain ⟨b, fs, e1, e2, ⟨C, dx, e3, hc⟩, hk, r, e4⟩ := q
      exact ⟨b, fs, e1, e2, ⟨C, dx, by rw [upd_ne (fun z => by subst z; exact nm ⟨i, _, e, rfl, e1⟩)]; exact e3, hc⟩, hk, r, e4⟩
  sep := st.sep
end

/-! ### targets -/
/-- the names at is take x -/
structure PGX (X : Cx) (tg : Expr) (t : TG) (is : List Nat) (gx : PV → Cells → Option Cells) : Prop where
  pg : PG X tg t
  ok : ∀ (f : Frm) (Z : Hp) (env : Cells) (σ : L2.St) (H : Hp) (v : V) (x : PV) (env' : Cells) (Q : L2.St → Hp → Prop), StOk (gOf X) f Z H σ env → Rep (gOf X) Z v x → gx x env = some env' →
    (∀ σ', StOk (gOf X) f Z H σ' env' → (∀ vs : List Nat, (∀ i ∈ is, i ∈ vs) → wipe σ' vs = wipe σ vs) → Q σ' H) → t v σ H Q
structure PGsX (X : Cx) (ts : List Expr) (t : TGs) (is : List Nat) (gx : List PV → Cells → Option Cells) : Prop where
  pg : PGs X ts t
  ok : ∀ (f : Frm) (Z : Hp) (env : Cells) (σ : L2.St) (H : Hp) (v : List V) (x : List PV) (env' : Cells) (Q : L2.St → Hp → Prop), StOk (gOf X) f Z H σ env → Reps (gOf X) Z v x → gx x env = some env' →
    (∀ σ', StOk (gOf X) f Z H σ' env' → (∀ vs : List Nat, (∀ i ∈ is, i ∈ vs) → wipe σ' vs = wipe σ vs) → Q σ' H) → t v σ H Q
def gxN (i : Nat) : PV → Cells → Option Cells := fun x e => if i < e.length then some (e.set i (.v x)) else none
def gxNil : List PV → Cells → Option Cells
  | [], e => some e
  | _ :: _, _ => none
def gxCons (gx : PV → Cells → Option Cells) (r : List PV → Cells → Option Cells) : List PV → Cells → Option Cells
  | [], _ => none
  | x :: xs, e => (gx x e).bind (r xs)
/-- a, b, .. : a tuple of n items -/
def gxT (n : Nat) (r : List PV → Cells → Option Cells) : PV → Cells → Option Cells
  | .tup xs, e => if xs.length = n then r xs e else none
  | .ktup xs, e => if xs.length = n then r xs e else none
  | _, _ => none
section
variable {X : Cx} {tg : Expr} {es : List Expr} {pos : Pos} {i k n : Nat} {x : Str} {t : TG} {ts : TGs} {is js : List Nat} {gx : PV → Cells → Option Cells} {gs : List PV → Cells → Option Cells}
theorem pgx_name (hN : X.N.Nodup) (hi : X.N[i]? = some x) (hx : Loc X.env.scope x) (hf : X.fn x = true ∨ X.env.scope.names.lookup x = some .local := by first | exact .inl rfl | exact .inr rfl | assumption) : PGX X (.Name x pos) (gName i) [i] (gxN i) :=
  ⟨pg_name hN hi hx hf, fun f Z env σ H v x env' Q st r e k => by
    unfold gxN at e
    obtain ⟨h, rfl⟩ := of_ite e
    exact k _ (st.setV r (by rw [← st.ln]; exact h)) fun vs hv => wipe_idem_set σ i _ vs (hv i (List.mem_singleton.mpr rfl))⟩
theorem pgsx_nil : PGsX X [] gNil [] gxNil := ⟨pgs_nil, fun f Z env σ H v x env' Q st r e k => by
  cases x with
  | nil => cases r; cases e; exact ⟨rfl, k σ st fun _ _ => rfl⟩
  | cons _ _ => cases e⟩
theorem pgsx_cons (h1 : PGX X tg t is gx) (h2 : PGsX X es ts js gs) (hs : (assignEach (tg :: es) X.env).map (·.2) = assign tg X.env :: (assignEach es X.env).map (·.2) := by rfl) : PGsX X (tg :: es) (gCons t ts) (is ++ js) (gxCons gx gs) :=
  ⟨pgs_cons h1.pg h2.pg hs, fun f Z env σ H v x env' Q st r e k => by
    cases x with
    | nil => cases e
    | cons x xs =>
      cases r with
      | cons a b =>
        refine ⟨_, _, rfl, ?_⟩
        cases hg : gx x env with
        | none =>
          have e : (gx x env).bind (gs xs) = some env' := e
          rw [hg] at e; cases e
        | some e1 =>
          have e : (gx x env).bind (gs xs) = some env' := e
          rw [hg] at e
          have e : gs xs e1 = some env' := e
          refine h1.ok f Z env σ H _ x e1 _ st a hg fun σ1 st1 w1 => ?_
          exact h2.ok f Z e1 σ1 H _ xs env' _ st1 b e fun σ2 st2 w2 => k σ2 st2 fun vs hv => (w2 vs fun i hi => hv i (List.mem_append_right _ hi)).trans (w1 vs fun i hi => hv i (List.mem_append_left _ hi))⟩
theorem pgx_tup (hc : X.calm = true) (h : PGsX X es ts is gs) (hn : (assignEach es X.env).length = n := by rfl) (hst : (assignEach es X.env).findIdx? (·.1) = none := by rfl) : PGX X (.Tuple es k pos) (gTup X.K n ts) is (gxT n gs) :=
  ⟨pg_tup hc h.pg hn hst, fun f Z env σ H v x env' Q st r e k => by
    cases x with
    | tup xs =>
      have e : (if xs.length = n then gs xs env else none) = some env' := e
      split at e
      · cases r with
        | tup hz l rv => exact ⟨_, _, rfl, Same.sqt st.zh hz.sqt, by rw [rv.length]; assumption, h.ok f Z env σ H _ xs env' Q st rv e k⟩
      · cases e
    | ktup xs =>
      have e : (if xs.length = n then gs xs env else none) = some env' := e
      split at e
      · cases r with
        | ktup hz l rv => exact ⟨_, _, rfl, .inl (.inl (st.zh _ _ hz)), by rw [rv.length]; assumption, h.ok f Z env σ H _ xs env' Q st rv e k⟩
      · cases e
    | _ => cases e⟩
end

/-! ### for -/
def sLoop (gx : PV → Cells → Option Cells) (body : SDen) : List PV → SDen
  | [] => fun e => some (.nx e)
  | x :: xs => fun e => match gx x e with
    | none => none
    | some e1 => match body e1 with
      | some (.nx e2) => sLoop gx body xs e2
      | some (.ct e2) => sLoop gx body xs e2
      | some (.bk e2) => some (.nx e2)
      | o => o
def sFor (di : Den (List PV)) (gx : PV → Cells → Option Cells) (body : SDen) : SDen := sOf di (sLoop gx body)
theorem drop_at {α : Type} {xs : List α} {i : Nat} {x : α} (h : xs[i]? = some x) : xs.drop i = x :: xs.drop (i + 1) := by
  obtain ⟨h1, h2⟩ := List.getElem?_eq_some_iff.mp h
  rw [List.drop_eq_getElem_cons h1, h2]
section
variable {X : Cx} {W : WX} {tg it : Expr} {body : List Stmt} {pos : Pos} {di : Den (List PV)} {t : TG} {is : List Nat} {gx : PV → Cells → Option Cells} {db : SDen}
theorem psx_for (hp : PassesOwn (model X.prog X.w) X.A X.env X.xe) (hc : X.calm = true) (hi : PIX X W tg it di) (hg : PGX X tg t is gx) (hb : PSsX X W body db) (hs : ∀ x, foldedSetIterable it X.env x = pure x := by intro _; rfl) : PSX X W (.For tg it body [] pos) (sFor di gx db) :=
  psimp (ps_for hp hc hi hg.pg hb hs) fun D σ H ⟨f, Z, env, a⟩ => by
    refine ⟨f, Z, env, a.of.imp fun J H1 ⟨Z1, env1, xs, s1, r1, a1⟩ => ?_⟩
    obtain ⟨n, G', Y, w, en, lz, hG, hY⟩ := r1.ex
    refine for_it w (fun i σ H => ∃ Zi envi, Same Z1 Zi ∧ SAt (gOf X) W f Zi envi (sLoop gx db (xs.drop i)) D σ H) ⟨Z1, env1, Same.refl _, a1⟩ (fun i σ H hi ⟨Zi, envi, sz, ai⟩ => hG H (sz.trans ai.st.zh)) (fun i v σ H H' hi ⟨Zi, envi, sz, ai⟩ y => ?_) fun σ H ⟨Zi, envi, sz, ai⟩ => ?_
    · obtain ⟨x, ex, k⟩ := hY i H v H' hi y
      obtain ⟨st, o, eo, po⟩ := ai
      obtain ⟨Z2, s2, st2, r2⟩ := k f Zi σ envi sz st
      rw [drop_at ex] at eo
      cases hgx : gx x envi with
      | none => simp only [sLoop, hgx] at eo; cases eo
      | some e1 =>
        simp only [sLoop, hgx] at eo
        refine hg.ok f Z2 envi σ H' v x e1 _ st2 r2 hgx fun σ' st3 _ => ?_
        refine ⟨f, Z2, e1, st3, ?_⟩
        cases hdb : db e1 with
        | none => rw [hdb] at eo; cases eo
        | some ob =>
          rw [hdb] at eo
          refine ⟨ob, rfl, ?_⟩
          cases ob with
          | nx e2 => exact fun σ'' Z' H'' s st' => ⟨Z', e2, (sz.trans s2).trans s, st', o, eo, po.weak (s2.trans s)⟩
          | ct e2 => exact fun σ'' Z' H'' s st' => ⟨Z', e2, (sz.trans s2).trans s, st', o, eo, po.weak (s2.trans s)⟩
          | bk e2 => cases eo; exact po.weak s2
          | rt v e2 => cases eo; exact po.weak s2
          | ex c e2 => cases eo; exact po.weak s2
    · obtain ⟨st, o, eo, po⟩ := ai
      rw [en, List.drop_length] at eo
      cases eo
      exact po σ Zi H (Same.refl _) st
end

/-! ### list comprehensions -/
abbrev W0 : WX := fun _ _ _ _ => False
def lcLoop (gx : PV → Cells → Option Cells) (dc de : Den PV) (own : List Nat) : List PV → List PV → Den (List PV)
  | [], acc => Den.ret acc
  | x :: xs, acc => fun e => match gx x e with
    | none => none
    | some e1 => match dc e1 with
      | some (.ok (.bl true) e2) => (match de e2 with
        | some (.ok y e3) => lcLoop gx dc de own xs (acc ++ [y]) (wipeE e3 own)
        | _ => none)
      | some (.ok (.bl false) e2) => lcLoop gx dc de own xs acc (wipeE e2 own)
      | _ => none
def dLc (di : Den (List PV)) (gx : PV → Cells → Option Cells) (dc de : Den PV) (own : List Nat) : Den (List PV) := di.bind fun xs e => lcLoop gx dc de own xs [] (wipeE e own)
abbrev PTsX (X : Cx) (W : WX) (ifs : List Expr) (d : Den PV) : Prop := PTs X ifs (tB (tP (gOf X) W d))
theorem ptsx_nil {X : Cx} {W : WX} : PTsX X W [] (Den.ret (.bl true)) := ⟨fun pins s σ H Q I ⟨f, Z, env, a⟩ => pts_nil.run pins s σ H Q I (by
  obtain ⟨c, e, q⟩ := a.ret (.bl true) Z H (Same.refl _) a.st (.bl _)
  cases e
  exact q)⟩
theorem ptsx_one {X : Cx} {W : WX} {c : Expr} {d : Den PV} (h : PTX X W c d) : PTsX X W [c] d := pts_one h
section
variable {X : Cx} {W : WX} {tg it elt : Expr} {ifs : List Expr} {scope : Scope} {own : List (Str × Nat)} {pos : Pos} {di : Den (List PV)} {t : TG} {is : List Nat} {gx : PV → Cells → Option Cells} {dc de : Den PV}
theorem t_lc {σ : L2.St} {H : Hp} {Q : VK} {own : List Nat} (hg : ∀ (f : Frm) (Z : Hp) (env : Cells) (σ : L2.St) (H : Hp) (v : V) (x : PV) (env' : Cells) (Q : L2.St → Hp → Prop), StOk (gOf X) f Z H σ env → Rep (gOf X) Z v x → gx x env = some env' →
      (∀ σ', StOk (gOf X) f Z H σ' env' → (∀ vs : List Nat, (∀ i ∈ is, i ∈ vs) → wipe σ' vs = wipe σ vs) → Q σ' H) → t v σ H Q) (his : ∀ i ∈ is, i ∈ own)
    (h : tO (gOf X) W (dLc di gx dc de own) σ H Q) : tLc (tI (gOf X) W di) t (tB (tP (gOf X) W0 dc)) (tP (gOf X) W0 de) own σ H Q := by
  obtain ⟨f, Z, env, a⟩ := h
  refine ⟨f, Z, env, a.bind.imp fun J H1 ⟨Z1, env1, xs, s1, r1, a1⟩ D nD => ?_⟩
  obtain ⟨n, G', Y, w, en, lz, hG, hY⟩ := r1.ex
  obtain ⟨st1, o, eo, po⟩ := a1
  have fD : f.H D = none := st1.fH nD
  have fZD : f.Z D = none := by
    cases q : f.Z D with
    | none => rfl
    | some u => rw [st1.zh _ _ (st1.z0 _ _ q)] at nD; cases nD
  have nmD : ∀ {σ : L2.St} {e : Cells}, StOk (gOf X) f Z1 H1 σ e → ¬ Muts σ e D := fun st m => by
    obtain ⟨_, ⟨u, q⟩, _⟩ := st.muts m
    rw [nD] at q; cases q
  refine lc_it w (fun i H => ∃ Zi e acc vs, Same Z1 Zi ∧ H D = some (.lst vs) ∧ vs.length ≤ i ∧ Reps (gOf X) Zi vs acc ∧ Zi D = none ∧ ¬ Muts (wipe σ own) (wipeE e own) D ∧ StOk (gOf X) f Zi H (wipe σ own) (wipeE e own) ∧
      lcLoop gx dc de own (xs.drop i) acc (wipeE e own) = some o) ?_ (fun i H hi ⟨Zi, e, acc, vs, sz, _, _, _, _, _, st, _⟩ => hG H (sz.trans st.zh)) ?_ ?_
  · exact ⟨Z1, env1, [], [], Same.refl _, upd_same, Nat.zero_le _, .nil, st1.zn nD, nmD (st1.wipes own), (st1.wipes own).new nD, eo⟩
  · rintro i v H H' hi ⟨Zi, e, acc, vs, sz, hD, lv, rv, zD, nm, st, ei⟩ y
    obtain ⟨x, ex, k⟩ := hY i H v H' hi y
    rw [drop_at ex] at ei
    have stp := st.plus fD hD zD nm
    obtain ⟨Z2, s2, st2, r2⟩ := k (f.plus D (.lst vs)) Zi (wipe σ own) (wipeE e own) sz stp
    cases hgx : gx x (wipeE e own) with
    | none => simp only [lcLoop, hgx] at ei; cases ei
    | some e1 =>
      simp only [lcLoop, hgx] at ei
      refine hg (f.plus D (.lst vs)) Z2 (wipeE e own) (wipe σ own) H' v x e1 _ st2 r2 hgx fun σ' st3 hw => ?_
      have hw' : wipe σ' own = wipe (wipe σ own) own := hw own his
      have hw2 : wipe σ' own = wipe σ own := hw'.trans (wipe_twice σ own own fun _ h => h)
      refine ⟨hw2, ?_⟩
      -- the end of a turn
      have fin : ∀ {Z' : Hp} {H4 : Hp} {e4 : Cells} {ys : List PV} {us : List V}, Same Z2 Z' → StOk (gOf X) (f.plus D (.lst vs)) Z' H4 σ' e4 → us.length ≤ i + 1 → Reps (gOf X) Z' us ys → lcLoop gx dc de own (xs.drop (i + 1)) ys (wipeE e4 own) = some o →
          H4 D = some (.lst vs) ∧ ∃ Zi e acc vs', Same Z1 Zi ∧ upd H4 D (.lst us) D = some (.lst vs') ∧ vs'.length ≤ i + 1 ∧ Reps (gOf X) Zi vs' acc ∧ Zi D = none ∧ ¬ Muts (wipe σ own) (wipeE e own) D ∧ StOk (gOf X) f Zi (upd H4 D (.lst us)) (wipe σ own) (wipeE e own) ∧
            lcLoop gx dc de own (xs.drop (i + 1)) acc (wipeE e own) = some o := fun {Z' H4 e4 ys us} s st4 l r e => by
        have st5 := st4.wipes own
        rw [hw2] at st5
        obtain ⟨st6, h6, z6, m6⟩ := st5.minus st.mh fZD fD
        exact ⟨h6, Z', e4, ys, us, (sz.trans s2).trans s, upd_same, l, r, z6, m6, st6.poke fD z6 m6, e⟩
      cases hdc : dc e1 with
      | none => rw [hdc] at ei; cases ei
      | some oc =>
        rw [hdc] at ei
        cases oc with
        | ex c e2 => cases ei
        | ok b e2 =>
          cases b with
          | bl b =>
            refine ⟨f.plus D (.lst vs), Z2, e1, st3, _, hdc, fun u Z3 H3 s3 st4 r3 => ?_⟩
            cases r3
            refine ⟨b, rfl, ?_⟩
            cases b with
            | false =>
              rw [if_neg Bool.false_ne_true]
              obtain ⟨h6, Zi', e', acc', vs', q1, q2, q3, q4, q5, q6, q7, q8⟩ := fin (ys := acc) (us := vs) s3 st4 (Nat.le_succ_of_le lv) ((rv.mono s2).mono s3) ei
              have same : upd H3 D (.lst vs) = H3 := by
                funext b
                by_cases hb : b = D
                · subst hb; rw [upd_same, h6]
                · rw [upd_ne hb]
              rw [same] at q2 q7
              exact ⟨Zi', e', acc', vs', q1, q2, q3, q4, q5, q6, q7, q8⟩
            | true =>
              rw [if_pos rfl]
              cases hde : de e2 with
              | none => simp only [hde] at ei; cases ei
              | some oe =>
                cases oe with
                | ex c e3 => simp only [hde] at ei; cases ei
                | ok yv e3 =>
                  simp only [hde] at ei
                  refine ⟨f.plus D (.lst vs), Z3, e2, st4, _, hde, fun u H4' H4 s4 st5 r4 => ?_⟩
                  obtain ⟨h6, q⟩ := fin (us := vs ++ [u]) (s3.trans s4) st5 (by rw [List.length_append]; exact Nat.succ_le_succ lv) ((((rv.mono s2).mono s3).mono s4).append (.cons r4 .nil)) ei
                  exact ⟨vs, h6, Nat.lt_of_le_of_lt lv (Nat.lt_of_lt_of_le hi lz), q⟩
          | _ => cases ei
  · rintro H ⟨Zi, e, acc, vs, sz, hD, lv, rv, zD, nm, st, ei⟩
    rw [en, List.drop_length] at ei
    cases ei
    have nm' : ¬ Muts σ (wipeE e own) D := fun ⟨j, c, ej, m, sj⟩ => by
      have nj : j ∉ own := fun h => by rw [wipeE_in h ej] at m; cases m
      exact nm ⟨j, c, ej, m, by rw [wipe_get nj]; exact sj⟩
    exact po (.ref D) Zi H sz st.unwipe ⟨D, vs, rfl, zD, hD, Nat.le_trans lv lz, rv, fD, nm'⟩
theorem po_lc (hc : X.calm = true) (hN : X.N.Nodup) (hi : PIX X W tg it di) (ok : BlkOk X.N X.env.scope scope own)
    (hg : ∀ (s : Shared) (H : Hp) (C : Addr) (cl : List (Str × Addr)) (fp : List Addr), PGX (X.blk s H scope (compEnvC scope cl C X.env) fp) tg t is gx) (his : ∀ i ∈ is, i ∈ own.map (·.2))
    (ht : ∀ (s : Shared) (H : Hp) (C : Addr) (cl : List (Str × Addr)) (fp : List Addr), PTsX (X.blk s H scope (compEnvC scope cl C X.env) fp) W0 ifs dc)
    (he : ∀ (s : Shared) (H : Hp) (C : Addr) (cl : List (Str × Addr)) (fp : List Addr), PX (X.blk s H scope (compEnvC scope cl C X.env) fp) W0 elt de) (hs : ∀ x, foldedSetIterable it X.env x = pure x := by intro _; rfl) :
    PO' X W (.ListComp elt [⟨tg, it, ifs, 0⟩] scope pos) (dLc di gx dc de (own.map (·.2))) :=
  ⟨fun pins s σ H Q I h => (pe_lc (tt := tB (tP (gOf X) W0 dc)) (te := tP (gOf X) W0 de) hc hN hi ok (fun s H C cl fp => (hg s H C cl fp).pg) ht he hs).run pins s σ H Q I
    (t_lc (is := is) (fun f Z env σ H v x env' Q st r e k => (hg s (fun _ => none) 0 [] []).ok f Z env σ H v x env' Q st r e k) his h)⟩
/-- name = [..] -/
theorem psx_setLc {i : Nat} {y : Str} {py spos : Pos} (hc : X.calm = true) (hN : X.N.Nodup) (hy : X.N[i]? = some y) (hyl : X.env.scope.names.lookup y = some .local) (hsw : swapsWith (.ListComp elt [⟨tg, it, ifs, 0⟩] scope pos) (some (.Name y py)) spos.line X.env = pure true)
    (hi : PIX X W tg it di) (ok : BlkOk X.N X.env.scope scope own)
    (hg : ∀ (s : Shared) (H : Hp) (C : Addr) (cl : List (Str × Addr)) (fp : List Addr), PGX (X.blk s H scope (compEnvC scope cl C X.env) fp) tg t is gx) (his : ∀ i ∈ is, i ∈ own.map (·.2))
    (ht : ∀ (s : Shared) (H : Hp) (C : Addr) (cl : List (Str × Addr)) (fp : List Addr), PTsX (X.blk s H scope (compEnvC scope cl C X.env) fp) W0 ifs dc)
    (he : ∀ (s : Shared) (H : Hp) (C : Addr) (cl : List (Str × Addr)) (fp : List Addr), PX (X.blk s H scope (compEnvC scope cl C X.env) fp) W0 elt de) (hs : ∀ x, foldedSetIterable it X.env x = pure x := by intro _; rfl) :
    PSX X W (.Assign [.Name y py] (.ListComp elt [⟨tg, it, ifs, 0⟩] scope pos) spos) (sSet i (dLstOf (dLc di gx dc de (own.map (·.2))))) := by
  refine ⟨fun pins s σ H D I ⟨f, Z, env, a⟩ => (ps_setLc (tt := tB (tP (gOf X) W0 dc)) (te := tP (gOf X) W0 de) hc hN hy hyl hsw hi ok (fun s H C cl fp => (hg s H C cl fp).pg) ht he hs).run pins s σ H D I ?_⟩
  have hσ : i < σ.length := by rw [I.len]; exact (List.getElem?_eq_some_iff.mp hy).1
  refine t_lc (is := is) (gx := gx) (fun f Z env σ H v x env' Q st r e k => ?_) his ⟨f, Z, env, ?_⟩
  · exact (hg s (fun _ => none) 0 [] []).ok f Z env σ H v x env' Q st r e k
  · obtain ⟨st, o, eo, po⟩ := a
    refine ⟨st, ?_⟩
    unfold sSet sOf dLstOf Den.bind at eo
    cases hd : dLc di gx dc de (own.map (·.2)) env with
    | none => rw [hd] at eo; cases eo
    | some o1 =>
      rw [hd] at eo
      cases o1 with
      | ex c e1 => cases eo; exact ⟨_, rfl, fun cls dd Z' H' s st' r => po cls dd σ Z' H' s st' r⟩
      | ok xs e1 =>
        cases eo
        refine ⟨_, rfl, fun u Z1 H1 s1 st1 r1 => ?_⟩
        obtain ⟨Z2, s2, st2, r2⟩ := st1.ownF r1
        exact po _ Z2 H1 (s1.trans s2) (st2.setV r2 hσ)
end
end Pu
set_option Elab.async false
set_option linter.all false
set_option maxRecDepth 100000
set_option maxHeartbeats 4000000
/-! Pu, part H: changing lists; defs that change a list handed in; methods; raise and try; several targets. -/
namespace Pu
open PySem PySem.Spec PyProof.Rows L2

/-! ### a changing list's items -/
/-- name[..] of a changing list -/
def dIxM (i : Nat) (db : Den PV) : Den PV := fun e => match e[i]? with
  | some (.m _ _) => db.bind (fun y e1 => match e1[i]?, y with
    | some (.m _ xs), .int j => (match atI xs j with
      | some v => some (.ok v e1)
      | none => none)
    | _, _ => none) e
  | _ => none
def sSetIxM (i : Nat) (dv dk : Den PV) : SDen := sOf dv fun v e0 => match e0[i]? with
  | some (.m _ _) => sOf dk (fun k e => match e[i]?, k with
    | some (.m own xs), .int j => (match ixN xs.length j with
      | some n => some (.nx (e.set i (.m own (xs.set n v))))
      | none => none)
    | _, _ => none) e0
  | _ => none
/-- name.append(e) -/
def dAppM (i : Nat) (da : Den PV) : Den PV := fun e => match e[i]? with
  | some (.m _ _) => da.bind (fun y e1 => match e1[i]? with
    | some (.m own xs) => if xs.length < sizeLine then some (.ok .non (e1.set i (.m own (xs ++ [y])))) else none
    | _ => none) e
  | _ => none
/-- a changing list handed on as data, for good -/
def dFreeze (i : Nat) : Den PV := fun e => match e[i]? with
  | some (.m true xs) => some (.ok (.lst xs) (e.set i (.v (.lst xs))))
  | _ => none
section
variable {X : Cx} {W : WX} {i : Nat} {x : Str} {e b : Expr} {es : List Expr} {db dv dk : Den PV} {p pos pos' apos cpos : Pos}
theorem px_freeze (h : PE X (.Name x pos) (tVar i)) : PX X W (.Name x pos) (dFreeze i) := peimp h fun σ H Q ⟨f, Z, env, st, o, e, pp⟩ => by
  unfold dFreeze at e
  split at e
  · rename_i xs hx
    cases e
    obtain ⟨a, vs, e1, n, hH, l, r, ow⟩ := st.sl i _ hx
    obtain ⟨st2, r2, zz⟩ := st.freeze hx e1 hH l r
    exact ⟨.ref a, e1, pp _ _ H zz st2 r2⟩
  · cases e
theorem px_ixM (h : PE X (.Name x p) (tVar i)) (hb : PX X W b db) (hs : PlainIx b := by exact fun _ _ => rfl) : PX X W (.Subscript (.Name x p) b pos) (dIxM i db) := peimp (pe_ix ix_list h hb hs) fun σ H Q ⟨f, Z, env, st, o, e, pp⟩ => by
  unfold dIxM at e
  split at e
  · rename_i own xs hx
    obtain ⟨a, vs, e1, n, hH, l, r, ow⟩ := st.sl i _ hx
    refine ⟨.ref a, e1, ?_⟩
    have a0 : At (gOf X) W f Z env (db.bind _) (RV (gOf X)) Q σ H := ⟨st, o, e, pp⟩
    refine (a0.bind.imp fun u H1 ⟨Z1, env1, y, s1, r1, a1⟩ => ?_).here
    obtain ⟨st1, o1, e2, p1⟩ := a1
    split at e2
    · rename_i own' xs' j hx'
      cases r1
      obtain ⟨a', vs', e1', n', hH', l', r', ow'⟩ := st1.sl i _ hx'
      rw [e1] at e1'
      cases e1'
      cases ha : atI xs' j with
      | none => rw [ha] at e2; cases e2
      | some v =>
        rw [ha] at e2
        cases e2
        obtain ⟨v', h1, h2⟩ := r'.at ha
        exact ⟨a, vs', j, v', rfl, rfl, SqL.of hH', h1, p1 _ Z1 H1 (Same.refl _) st1 h2⟩
    · cases e2
  · cases e
theorem psx_setIxM (h : PE X (.Name x p) (tVar i)) (hv : PX X W e dv) (hk : PX X W b dk)
    (ha : ∀ v, assign (.Subscript (.Name x p) b pos) X.env v = (do
      let ov ← holding [v] (eval (.Name x p) X.env)
      let iv ← holding [v, ov] (eval b X.env)
      standAt pos
      holding [v, ov, iv] (setItem ov iv v)
      release [v, ov, iv] []) := by intro _; rfl) (hs : swapsWithSole [.Subscript (.Name x p) b pos] e pos'.line X.env = pure false := by rfl) (hw : swappedStores [.Subscript (.Name x p) b pos] e X.env = pure none := by rfl)
    (h1 : (assignEach [.Subscript (.Name x p) b pos] X.env).map (·.2) = [assign (.Subscript (.Name x p) b pos) X.env] := by rfl) : PSX X W (.Assign [.Subscript (.Name x p) b pos] e pos') (sSetIxM i dv dk) :=
  psimp (ps_asg hv (pg_sub h hk set_list ha) hs hw h1) fun D σ H ⟨f, Z, env, a⟩ => by
    refine (a.of.imp fun u H1 ⟨Z1, env1, v, s1, r1, a1⟩ => ?_).here
    obtain ⟨st1, o1, e1, p1⟩ := a1
    split at e1
    · rename_i own xs hx
      obtain ⟨q, us, eq, n, hH, l, r, ow⟩ := st1.sl i _ hx
      refine ⟨.ref q, eq, ?_⟩
      have a2 : SAt (gOf X) W f Z1 env1 (sOf dk _) D σ H1 := ⟨st1, o1, e1, p1⟩
      refine (a2.of.imp fun w H2 ⟨Z2, env2, k, s2, r2, a3⟩ => ?_).here
      obtain ⟨st2, o2, e2, p2⟩ := a3
      split at e2
      · rename_i own' xs' j hx'
        cases r2
        obtain ⟨q', us', eq', n', hH', l', r', ow'⟩ := st2.sl i _ hx'
        rw [eq] at eq'
        cases eq'
        cases hn : ixN xs'.length j with
        | none => rw [hn] at e2; cases e2
        | some m =>
          rw [hn] at e2
          cases e2
          refine ⟨q, us', j, m, rfl, rfl, hH', by rw [r'.length]; exact hn, ?_⟩
          exact p2 σ Z2 _ (Same.refl _) (st2.putM hx' eq hH' (by rw [List.length_set]; exact l') (Reps.set (r1.mono s2) m r'))
      · cases e2
    · cases e1
theorem px_appM (h : PE X (.Name x p) (tVar i)) (ha : PX X W e dv)
    (hbase : attributeBase (.Name x p) "append" X.env (eval (.Name x p) X.env) = eval (.Name x p) X.env := by rfl)
    (hfew : ((backTo cpos (starEach [e] X.env)).all (fun x => !x.1) && (backToKw cpos (keywordEach [] X.env)).all (fun x => x.1.isSome)
      && decide ([e].length + ([] : List Keyword).length + (if ([] : List Keyword).isEmpty then 0 else 1) < 30)) = true := by rfl)
    (hline : (apos.endLine == cpos.line) = true := by rfl) (hs : starEach [e] X.env = (false, eval e X.env) :: starEach [] X.env := by rfl) (hplain : (backTo cpos (starEach [] X.env)).any (·.1) = false := by rfl) :
    PX X W (.Call (.Attribute (.Name x p) "append" apos) [e] [] cpos) (dAppM i dv) :=
  peimp (pe_bm PySem.F.plainAttrs_list PySem.F.slot_list_append PySem.F.type_list_append mt_append h (pax_cons ha pax_nil hs) hbase hfew hline hs hplain) fun σ H Q ⟨f, Z, env, st, o, e, pp⟩ => by
    unfold dAppM at e
    split at e
    · rename_i own xs hx
      obtain ⟨a, vs, e1, n, hH, l, r, ow⟩ := st.sl i _ hx
      refine ⟨.ref a, e1, .inl ⟨rfl, _, SqL.of hH⟩, ?_⟩
      have a0 : At (gOf X) W f Z env (dv.bind _) (RV (gOf X)) Q σ H := ⟨st, o, e, pp⟩
      have a1 := a0.bind (R := RV (gOf X))
      -- one argument
      refine ⟨f, Z, env, a1.st, ?_⟩
      obtain ⟨o1, eo1, po1⟩ := a1.to
      unfold dCons dNil Den.bind
      cases hd : dv env with
      | none => rw [hd] at eo1; cases eo1
      | some od =>
        rw [hd] at eo1
        cases eo1
        cases o1 with
        | ex c e2 => exact ⟨_, rfl, fun cls dd Z' H' s st' r => po1 cls dd Z' H' s st' r⟩
        | ok y e2 =>
          refine ⟨_, rfl, fun us Z1 H1 s1 st1 r1 => ?_⟩
          obtain ⟨u, rfl, ru⟩ := r1.one
          obtain ⟨Z2, env2, y2, s2, r2, a2⟩ := po1 u Z1 H1 s1 st1 ru
          obtain ⟨st2, o2, eo2, po2⟩ := a2
          split at eo2
          · rename_i own' xs' hx'
            split at eo2
            · rename_i hl
              cases eo2
              obtain ⟨a', vs', e1', n', hH', l', r', ow'⟩ := st2.sl i _ hx'
              rw [e1] at e1'
              cases e1'
              have lv : vs'.length < sizeLine := by rw [r'.length]; exact hl
              refine ⟨a, vs', u, rfl, rfl, hH', lv, ?_⟩
              exact po2 .non Z2 _ (Same.refl _) (st2.putM hx' e1 hH' (by rw [List.length_append]; exact lv) (r'.append (.cons r2 .nil))) .non
            · cases eo2
          · cases eo2
    · cases e
end

/-! ### raise -/
def sRaise (c : Str) : SDen := fun e => some (.ex ⟨c, [], []⟩ e)
section
variable {X : Cx} {W : WX} {C : Addr} {bmB : List Value} {B newId initId : String} {x m : Str} {j : Nat} {p p2 pos pos' : Pos}
/-- what K says of an exception class of the text without members of its own -/
structure ExC (X : Cx) (x : Str) (C : Addr) : Prop where
  q : PySem.W.excIn X.K C [.type "ValueError", .type "Exception", .type "BaseException", .type "object"] "ValueError.__new__" = true
  g : X.mg x = some (.ref C)
  k : PySem.W.keepIn X.K (.ref C) = true
  s : PySem.W.subIn X.K (.ref C) (.type "BaseException") = some true
  t : PySem.W.typeIn X.K (.ref C) = some (.type "type")
theorem psx_raise (hc : X.calm = true) (tk : Takes X W) (c : ExC X x C) (hg : Gl X x) (hdb : (x == ("__debug__" : Str)) = false := by decide) : PSX X W (.Raise (some (.Call (.Name x p) [.Constant (.str m) j p2] [] pos)) none pos') (sRaise x) :=
  psimp (ps_raise hc tk (pmk_own PySem.F.excBase_ValueError c.q c.g c.k (raises_own c.s c.t) hg hdb)) fun D σ H ⟨f, Z, env, st, o, e, pp⟩ => by
    cases e
    exact pp (.ref C) none σ Z H (Same.refl _) st ⟨C, c.g, rfl, .inl ⟨rfl, rfl, rfl⟩⟩
end

/-! ### try .. except X as n: if not isinstance(n, ValueError): return False -/
def sTryIs (cn : Str) (i : Nat) (db : SDen) : SDen := fun env => match db env with
  | some (.ex c e) => if c.c = cn ∧ c.ns = [] ∧ c.vs = [] ∧ i < e.length then some (.nx (e.set i .un)) else none
  | o => o
section
variable {X : Cx} {W : WX} {C : Addr} {x n : Str} {i j : Nat} {body : List Stmt} {db : SDen} {np p1 p2 p3 p4 p5 p6 p7 p8 pos pos' : Pos}
theorem psx_try_is (hs : X.stack = X.env :: X.outer) (hf : X.env.frame = some X.env.locals) (hN : X.N.Nodup) (hi : X.N[i]? = some n) (hln : X.env.kindOf n = some .local) (hc : Names X x (.ref C)) (hmg : X.mg x = some (.ref C))
    (hcls : PySem.W.exmOne X.K (.ref C) (.ref C) = some true) (hE : ExcC X.K C) (hV : PySem.W.kitOne X.K (.ref C) (.type "ValueError") = some true) (tk : Takes X W)
    (hb : ∀ (W : WX) (pn : List (Addr × Obj)) (xe : Value → Shared → Prop), Takes (X.tr pn xe) W → PassesOwn (model X.prog X.w) X.A X.env xe → PSsX (X.tr pn xe) W body db)
    (gi : Gl X "isinstance") (mi : X.mg "isinstance" = none) (gv : Gl X "ValueError") (mv : X.mg "ValueError" = none) (hd : (n == ("__debug__" : Str)) = false := by decide) (hcd : (n == ("__classdict__" : Str)) = false := by decide)
    (s1 : starEach [.Name n p2, .Name "ValueError" p3] X.env = (false, eval (.Name n p2) X.env) :: starEach [.Name "ValueError" p3] X.env := by rfl) (s2 : starEach [.Name "ValueError" p3] X.env = (false, eval (.Name "ValueError" p3) X.env) :: starEach [] X.env := by rfl)
    (hpl : (backTo p4 (starEach [.Name "ValueError" p3] X.env)).any (·.1) = false := by rfl)
    (hit : ∀ whole, isTrue (.Call (.Name "isinstance" p1) [.Name n p2, .Name "ValueError" p3] [] p4) X.env whole = (do let v ← whole; standAt p4; holding [v] (truthy v)) := by intro _; rfl) :
    PSX X W (.Try body [.ExceptHandler (some (.Name x np)) (some n) [.If (.UnaryOp .Not (.Call (.Name "isinstance" p1) [.Name n p2, .Name "ValueError" p3] [] p4) p5) [.Return (some (.Constant (.bool false) j p6)) p7] [] p8] pos'] [] [] pos) (sTryIs x i db) := by
  refine psimp (ps_try_as (tb := fun W => tS (gOf X) W db) (ts := fun a cls d Dn σ H => (cls = .ref C ∧ d = none) ∧ σ[i]? = some (some (.ref a)) ∧ Dn.nx σ H) hs hf hN hi hln hc tk hb fun a oe cls d pn hz hfl => ?_) fun D σ H ⟨f, Z, env, st, o, e, p⟩ => ?_
  · by_cases hcd' : cls = .ref C ∧ d = none
    · obtain ⟨rfl, rfl⟩ := hcd'
      have nm : PE (X.suite a ((a, oe) :: pn)) (.Name n p2) (tVar i) := pe_var hi (.inl hln) hd hcd
      have ve : PE (X.suite a ((a, oe) :: pn)) (.Name "ValueError" p3) (tC (.ty "ValueError")) := pe_bltn gv mv (by decide +kernel) rfl
      refine pssimp (pss_one (ps_if (pt_not (pt_val (pe_callB (call_isE hE hz hfl) gi mi (by decide +kernel) (pa_cons nm (pa_cons ve pa_nil s2) s1) (by decide) (by decide) s1 hpl) hit)) (pss_one (ps_ret pe_bl)) pss_nil)) fun D σ H ⟨_, hσ, hn⟩ => ?_
      refine ⟨.ref a, hσ, .ty "ValueError", .type "ValueError", true, rfl, fun u r => r, hV, true, rfl, ?_⟩
      exact (iteF hn : if false = true then tRet (tC (V.bl false)) D σ H else tNext D σ H)
    · exact ⟨fun pins s σ H D I h => absurd h.1 hcd'⟩
  · refine ⟨f, Z, env, st, ?_⟩
    unfold sTryIs at e
    cases hdb : db env with
    | none => rw [hdb] at e; cases e
    | some ob =>
      rw [hdb] at e
      cases ob with
      | nx e1 => cases e; exact ⟨_, rfl, p⟩
      | rt v e1 => cases e; exact ⟨_, rfl, p⟩
      | bk e1 => cases e; exact ⟨_, rfl, p⟩
      | ct e1 => cases e; exact ⟨_, rfl, p⟩
      | ex c e1 =>
        refine ⟨_, rfl, fun cls dd σ' Z' H' s st' r => ?_⟩
        simp only at e
        split at e
        · rename_i hh
          cases e
          obtain ⟨h1, h2, h3, h4⟩ := hh
          obtain ⟨C', hC, rfl, hdd⟩ := r
          have hC : X.mg x = some (.ref C') := by rw [← h1]; exact hC
          rw [hmg] at hC
          cases hC
          have hd0 : dd = none := by
            rcases hdd with q | ⟨d, fs, hne, _⟩
            · exact q.2.2
            · exact absurd h2 hne
          refine ⟨true, hcls, fun _ a na => ⟨⟨rfl, hd0⟩, List.getElem?_set_self (by rw [← st'.ln]; exact h4), ?_⟩, fun z => by cases z⟩
          have w := p ((σ'.set i (some (.ref a))).set i none) Z' H' s
          rw [List.set_set] at w
          show D.nx ((σ'.set i (some (.ref a))).set i none) H'
          rw [List.set_set]
          exact w st'.wipe1
        · cases e
end

/-! ### two names at once -/
def sPar (i j : Nat) (da db : Den PV) : SDen := sOf da fun x => sOf db fun y e => if i < e.length ∧ j < e.length then some (.nx ((e.set i (.v x)).set j (.v y))) else none
section
variable {X : Cx} {W : WX} {i j : Nat} {x y : Str} {a b : Expr} {da db : Den PV} {px py pt pt2 pos : Pos} {kt k2}
theorem psx_par (hc : X.calm = true) (hN : X.N.Nodup) (hi : X.N[i]? = some x) (hj : X.N[j]? = some y) (hij : i ≠ j) (hx : X.env.scope.names.lookup x = some .local) (hy : X.env.scope.names.lookup y = some .local) (ha : PX X W a da) (hb : PX X W b db)
    (hw : swappedStores [.Tuple [.Name x px, .Name y py] kt pt] (.Tuple [a, b] k2 pt2) X.env = pure (some [x, y]) := by rfl)
    (hs : swapsWithSole [.Tuple [.Name x px, .Name y py] kt pt] (.Tuple [a, b] k2 pt2) pos.line X.env = pure false := by rfl)
    (h1 : starEach [a, b] X.env = (false, eval a X.env) :: starEach [b] X.env := by rfl) (h2 : starEach [b] X.env = (false, eval b X.env) :: starEach [] X.env := by rfl) :
    PSX X W (.Assign [.Tuple [.Name x px, .Name y py] kt pt] (.Tuple [a, b] k2 pt2) pos) (sPar i j da db) :=
  psimp (ps_par hc hN hi hj hij hx hy (pa_cons ha (pa_cons hb pa_nil h2) h1) hw hs) fun D σ H ⟨f, Z, env, a⟩ => by
    refine (a.of.imp fun u H1 ⟨Z1, env1, v, s1, r1, a1⟩ => ?_).here
    refine (a1.of.imp fun w H2 ⟨Z2, env2, v2, s2, r2, a2⟩ => ?_).here
    obtain ⟨st, o, e, p⟩ := a2
    split at e
    · rename_i hl
      cases e
      refine ⟨u, w, rfl, ?_⟩
      exact p _ Z2 H2 (Same.refl _) ((st.setV (r1.mono s2) (by rw [← st.ln]; exact hl.1)).setV r2 (by rw [List.length_set, ← st.ln]; exact hl.2))
    · cases e
/-- the same where a name is a cell (read in a comprehension): the tuple is made and taken apart -/
theorem psx_parC (hc : X.calm = true) (hN : X.N.Nodup) (hi : X.N[i]? = some x) (hj : X.N[j]? = some y) (hx : Loc X.env.scope x) (hy : Loc X.env.scope y) (ha : PX X W a da) (hb : PX X W b db)
    (hw : swappedStores [.Tuple [.Name x px, .Name y py] kt pt] (.Tuple [a, b] k2 pt2) X.env = pure none := by rfl)
    (hs : swapsWithSole [.Tuple [.Name x px, .Name y py] kt pt] (.Tuple [a, b] k2 pt2) pos.line X.env = pure false := by rfl)
    (h1 : starEach [a, b] X.env = (false, eval a X.env) :: starEach [b] X.env := by rfl) (h2 : starEach [b] X.env = (false, eval b X.env) :: starEach [] X.env := by rfl)
    (h3 : (assignEach [.Tuple [.Name x px, .Name y py] kt pt] X.env).map (·.2) = [assign (.Tuple [.Name x px, .Name y py] kt pt) X.env] := by rfl)
    (hn : (assignEach [.Name x px, .Name y py] X.env).length = 2 := by rfl) (hst : (assignEach [.Name x px, .Name y py] X.env).findIdx? (·.1) = none := by rfl)
    (h4 : (assignEach [.Name x px, .Name y py] X.env).map (·.2) = assign (.Name x px) X.env :: (assignEach [.Name y py] X.env).map (·.2) := by rfl) (h5 : (assignEach [.Name y py] X.env).map (·.2) = assign (.Name y py) X.env :: (assignEach [] X.env).map (·.2) := by rfl)
    (hfx : X.fn x = true ∨ X.env.scope.names.lookup x = some .local := by first | exact .inl rfl | exact .inr rfl | assumption) (hfy : X.fn y = true ∨ X.env.scope.names.lookup y = some .local := by first | exact .inl rfl | exact .inr rfl | assumption) :
    PSX X W (.Assign [.Tuple [.Name x px, .Name y py] kt pt] (.Tuple [a, b] k2 pt2) pos) (sPar i j da db) :=
  psimp (ps_asg (pe_tupF (pa_cons ha (pa_cons hb pa_nil h2) h1)) (pg_tup hc (pgs_cons (pg_name hN hi hx hfx) (pgs_cons (pg_name hN hj hy hfy) pgs_nil h5) h4) hn hst) hs hw h3) fun D σ H ⟨f, Z, env, a⟩ => by
    refine (a.of.imp fun u H1 ⟨Z1, env1, v, s1, r1, a1⟩ => ?_).here
    refine (a1.of.imp fun w H2 ⟨Z2, env2, v2, s2, r2, a2⟩ => ?_).here
    obtain ⟨st, o, e, p⟩ := a2
    split at e
    · rename_i hl
      cases e
      refine ⟨by show 2 ≤ sizeLine; decide, fun q o n d => ⟨q, [u, w], rfl, .inl (.inr ⟨o, upd_same⟩), rfl, u, [w], rfl, w, [], rfl, rfl, ?_⟩⟩
      have st' := st.lay (p := q) (o := .frz o (.tup [u, w])) n
      have zz : Same Z2 (upd Z2 q (.frz o (.tup [u, w]))) := same_upd (st.zn n)
      exact p _ _ _ zz ((st'.setV ((r1.mono s2).mono zz) (by rw [← st.ln]; exact hl.1)).setV (r2.mono zz) (by rw [List.length_set, ← st.ln]; exact hl.2))
    · cases e
end

/-! ### methods of tuples and lists -/
/-- the place of the first equal item -/
def idxP (y : PV) : List PV → Nat → Option Nat
  | [], _ => none
  | x :: xs, n => if pvEq x y then some n else idxP y xs (n + 1)
def qIndex : PV → PV → Option PV := fun x y => match x.items with
  | some xs => if x.fit = true ∧ y.fit = true then (idxP y xs 0).map fun n => .int (n : Nat) else none
  | none => none
theorem idxP_spec {y : PV} : ∀ {xs : List PV} {n j : Nat}, idxP y xs n = some j → n ≤ j ∧ (∃ z, xs[j - n]? = some z ∧ pvEq z y = true) ∧ ∀ m z, m < j - n → xs[m]? = some z → pvEq z y = false
  | [], n, j, h => by cases h
  | x :: xs, n, j, h => by
    unfold idxP at h
    split at h
    · cases h
      refine ⟨Nat.le_refl _, ⟨x, by rw [Nat.sub_self]; rfl, by assumption⟩, fun m z hm _ => by omega⟩
    · rename_i hn
      obtain ⟨h1, ⟨z, h2, h3⟩, h4⟩ := idxP_spec h
      have e : j - n = (j - (n + 1)) + 1 := by omega
      refine ⟨by omega, ⟨z, by rw [e]; exact h2, h3⟩, fun m z hm hz => ?_⟩
      cases m with
      | zero => cases hz; simpa using hn
      | succ m => exact h4 m z (by omega) hz
section
variable {X : Cx} {W : WX} {k : Nat} {e o : Expr} {da db : Den PV} {apos cpos : Pos}
def rIdxT (K : PySem.W.Frag) : V → List V → Hp → VK → Prop := fun x xs H Q => ∃ (a : Addr) (vs : List V) (y : V) (d : PyData) (ds : List PyData) (j : Nat) (z : PyData), x = V.ref a ∧ xs = [y] ∧ SqT K H a vs ∧ DpAll K H vs ds ∧ Dp K H y d ∧
  PyData.canLayAll0 ds = true ∧ d.canLay0 = true ∧ d.depth ≤ 190 ∧ ds[j]? = some z ∧ PyData.eqv z d = true ∧ (∀ (m : Nat) (z' : PyData), m < j → ds[m]? = some z' → PyData.eqv z' d = false) ∧ Q (.int (j : Nat)) H
theorem mt_idxT (hr : RoomG k X.A) : MtR X "tuple.index" (rIdxT X.K) := by
  intro pins s σ H x xs v us Q I rx rxs h
  obtain ⟨a, vs, y, d, ds, j, z, rfl, rfl, hs, ha, hy, hxs, sd, ld, hz, hzj, hno, q⟩ := h
  cases rx
  cases rxs with
  | cons ry rt =>
    rename_i uy ut
    cases rt
    obtain ⟨bs, r1⟩ := Dp.reads I d y uy hy ry
    have hroom : X.A.units + 1 + min (PyData.depthAll ds) d.depth < cLine := by have := hr.un; have : min (PyData.depthAll ds) d.depth ≤ d.depth := Nat.min_le_right _ _; omega
    obtain ⟨its, rv, ⟨⟨cls, dd, data, sls⟩, ho, hc, n, hdt⟩, hlen⟩ := I.tuple hs
    simp only at hc hdt
    subst hc hdt
    obtain ⟨as, h4⟩ := Dp.readsAll I ds _ its ha rv
    have hn : its.length = ds.length := SeqAt.ReadsAll.length ds its as h4
    have hmap : its.map (SeqAt.readOf s.heap) = ds := SeqAt.readsAll_map ds its as hxs h4
    obtain ⟨hjd, _⟩ := List.getElem?_eq_some_iff.mp hz
    have hjl : j < its.length := by omega
    have hj : j < its.toArray.size := by simpa using hjl
    have at_ : ∀ (m : Nat) (hm : m < its.toArray.size) (z' : PyData), ds[m]? = some z' → SeqAt.readOf s.heap its.toArray[m] = z' := by
      intro m hm z' hz'
      have hml : m < its.length := by simpa using hm
      rw [← hmap, List.getElem?_map, List.getElem?_eq_getElem hml] at hz'
      have e1 : SeqAt.readOf s.heap its[m] = z' := Option.some.inj (show some (SeqAt.readOf s.heap its[m]) = some z' from hz')
      simpa using e1
    refine call_meets PySem.F.slot_tuple_index ⟨_, ho, rfl⟩ PySem.F.entry_tuple_index (PySem.F.args_tuple_index_2 _ _)
      (TI.tuple_indexAt a its.toArray n dd sls uy (fun u => PyData.eqv (SeqAt.readOf s.heap u) d) j hj ?_ ?_) ⟨ho, SeqAt.items_eqAt (vs := its.toArray) (show ReadsAll s.heap its.toArray.toList ds as from h4) r1 hxs sd hroom, ⟨.int (j : Nat), H, I.tok _, ⟨_, rfl⟩, q⟩⟩
    · rw [at_ j hj z hz]; exact hzj
    · intro m hm hmj
      have hml : m < ds.length := by omega
      rw [at_ m hm ds[m] (List.getElem?_eq_getElem hml)]
      exact hno m _ hmj (List.getElem?_eq_getElem hml)
theorem tupAt_is {pins : List (Addr × Obj)} {σ : L2.St} {H : Hp} {s : Shared} {a : Addr} {vs : List V} (I : Inv X pins σ H s) (h : TupAt X.K H a vs) : s.TypeIs (.ref a) "tuple" ∧ ∀ b, Value.ref a = .ref b → ∃ ob, s.heap.get? b = some ob ∧ ob.dict = none := by
  rcases h with ⟨o, h, hd⟩ | ⟨o, its, n, h1, h2, h3, _⟩
  · obtain ⟨e, _, _, _, ob, e2, hc, _⟩ := (show ObjOk X.prog X.w H s.heap a (.frz o (.tup vs)) from I.hok a _ h)
    rw [e] at e2
    cases e2
    exact ⟨⟨o, e, hc⟩, fun b q => by cases q; exact ⟨o, e, hd⟩⟩
  · exact ⟨⟨o, I.kIn _ _ h1, h2⟩, fun b q => by cases q; exact ⟨o, I.kIn _ _ h1, h3⟩⟩
def tBMT (K : PySem.W.Frag) (r : V → List V → Hp → VK → Prop) (to : TE) (t : TA) : TE := fun σ H Q => to σ H fun x H1 => (∃ a vs, x = .ref a ∧ TupAt K H1 a vs) ∧ t σ H1 fun xs H2 => r x xs H2 Q
theorem pe_bmT {id : String} {name : Str} {es : List Expr} {to : TE} {t : TA} {r : V → List V → Hp → VK → Prop} (slot : PySem.Slot "tuple" name id) (hty : typeOf (.builtin id) = pure (.type "method_descriptor")) (hm : MtR X id r) (ho : PE X o to) (ha : PA X (e :: es) t)
    (hbase : attributeBase o name X.env (eval o X.env) = eval o X.env := by rfl)
    (hfew : ((backTo cpos (starEach (e :: es) X.env)).all (fun x => !x.1) && (backToKw cpos (keywordEach [] X.env)).all (fun x => x.1.isSome)
      && decide ((e :: es).length + ([] : List Keyword).length + (if ([] : List Keyword).isEmpty then 0 else 1) < 30)) = true := by rfl)
    (hline : (apos.endLine == cpos.line) = true := by rfl) (hs : starEach (e :: es) X.env = (false, eval e X.env) :: starEach es X.env := by rfl) (hplain : (backTo cpos (starEach es X.env)).any (·.1) = false := by rfl) :
    PE X (.Call (.Attribute o name apos) (e :: es) [] cpos) (tBMT X.K r to t) := by
  refine ⟨fun pins s σ H Q I h => ?_⟩
  refine wpAny_Call_method_late hbase hfew hline rfl (thn (ho.run pins s σ H _ I h) fun v s1 ⟨x, H1, I1, r1, ty, q1⟩ => ?_)
  obtain ⟨a, vs, rfl, ht⟩ := ty
  cases r1
  obtain ⟨h1, h2⟩ := tupAt_is I1 ht
  refine ⟨"tuple", id, PySem.F.plainAttrs_tuple, slot, hty, h1, h2, ?_⟩
  have hA := ha.run cpos pins s1 σ H1 _ I1 q1
  rw [hs] at hA ⊢
  refine Calls.callWith_builtin (by show (false || (backTo cpos (starEach es X.env)).any (·.1)) = false; rw [hplain] <;> rfl) (Calls.evalArgs_plain ?_)
  exact thn hA fun us s2 ⟨vs, H2, I2, r2, q2⟩ => hm pins s2 σ H2 (.ref a) vs (.ref a) us Q I2 (by exact rfl) r2 q2
theorem toDs_get : ∀ {xs : List PV} {m : Nat} {z : PV}, xs[m]? = some z → (PV.toDs xs)[m]? = some z.toD
  | [], m, z, h => by simp at h
  | x :: xs, 0, z, h => by cases h; rfl
  | x :: xs, m + 1, z, h => toDs_get (xs := xs) (m := m) h
theorem toDs_get' : ∀ {xs : List PV} {m : Nat} {d : PyData}, (PV.toDs xs)[m]? = some d → ∃ z, xs[m]? = some z ∧ d = z.toD
  | [], m, d, h => by simp [PV.toDs] at h
  | x :: xs, 0, d, h => by cases h; exact ⟨x, rfl, rfl⟩
  | x :: xs, m + 1, d, h => toDs_get' (xs := xs) (m := m) h
/-- t.index(x), t a tuple -/
def dIndexT (da db : Den PV) : Den PV := da.bind fun x => match x with
  | .tup _ => db.bind fun y => Den.lift (qIndex x y)
  | _ => fun _ => none
theorem px_indexT (hr : RoomG k X.A) (ho : PX X W o da) (ha : PX X W e db)
    (hbase : attributeBase o "index" X.env (eval o X.env) = eval o X.env := by rfl)
    (hfew : ((backTo cpos (starEach [e] X.env)).all (fun x => !x.1) && (backToKw cpos (keywordEach [] X.env)).all (fun x => x.1.isSome)
      && decide ([e].length + ([] : List Keyword).length + (if ([] : List Keyword).isEmpty then 0 else 1) < 30)) = true := by rfl)
    (hline : (apos.endLine == cpos.line) = true := by rfl) (hs : starEach [e] X.env = (false, eval e X.env) :: starEach [] X.env := by rfl) (hplain : (backTo cpos (starEach [] X.env)).any (·.1) = false := by rfl) :
    PX X W (.Call (.Attribute o "index" apos) [e] [] cpos) (dIndexT da db) :=
  peimp (pe_bmT PySem.F.slot_tuple_index PySem.F.type_tuple_index (mt_idxT hr) ho (pa_cons ha pa_nil hs) hbase hfew hline hs hplain) fun σ H Q ⟨f, Z, env, a⟩ => by
    refine (a.bind.imp fun u H1 ⟨Z1, env1, x, s1, r1, a1⟩ => ?_).here
    cases x with
    | tup xs =>
      cases r1 with
      | @tup a' vs _ ht l rv =>
        refine ⟨⟨a', vs, rfl, ht.mono a1.st.zh⟩, ?_⟩
        refine ((show At (gOf X) W f Z1 env1 (db.bind fun y => Den.lift (qIndex (.tup xs) y)) (RV (gOf X)) Q σ H1 from a1).bind.imp fun w H2 ⟨Z2, env2, y, s2, r2, a2⟩ => ?_).here
        obtain ⟨v, e, k⟩ := a2.lift
        have e : (if (PV.tup xs).fit = true ∧ y.fit = true then (idxP y xs 0).map fun n => PV.int (n : Nat) else none) = some v := e
        split at e
        · rename_i hf
          cases hi : idxP y xs 0 with
          | none => rw [hi] at e; cases e
          | some j =>
            rw [hi] at e
            cases e
            obtain ⟨_, ⟨z, hz, hzy⟩, hno⟩ := idxP_spec hi
            obtain ⟨p1, l1⟩ := Bool.and_eq_true_iff.mp hf.1
            obtain ⟨p2, l2⟩ := Bool.and_eq_true_iff.mp hf.2
            obtain ⟨d1, c1⟩ := Reps.dp (a2.st.zh) (show PV.plains xs = true from p1) (rv.mono s2)
            obtain ⟨d2, c2⟩ := r2.dp a2.st.zh p2
            refine ⟨a', vs, w, y.toD, PV.toDs xs, j, z.toD, rfl, rfl, Same.sqt (s2.trans a2.st.zh) ht.sqt, d1, d2, c1, c2, by rw [toD_depth y p2]; exact of_decide_eq_true l2, toDs_get (by simpa using hz), hzy, fun m z' hm hz' => ?_, k _ Z2 H2 (Same.refl _) a2.st (.int _)⟩
            obtain ⟨z2, h1, rfl⟩ := toDs_get' hz'
            exact hno m z2 (by simpa using hm) h1
        · cases e
    | _ => obtain ⟨_, _, e, _⟩ := a1; cases e
end
end Pu
set_option Elab.async false
set_option linter.all false
set_option maxRecDepth 100000
set_option maxHeartbeats 4000000
/-! Pu, part I: dicts; sorted. -/
namespace Pu
open PySem PySem.Spec PyProof.Rows L2

/-! ### dicts as lists of pairs -/
abbrev KP := List (Key × PV)
def putP (kps : KP) (k : Key) (v : PV) : KP :=
  if (kps.any fun kv => decide (kv.1 = k)) = true then kps.map (fun kv => if kv.1 = k then (kv.1, v) else kv) else kps ++ [(k, v)]
def getP (kps : KP) (k : Key) : Option PV := (kps.find? fun kv => decide (kv.1 = k)).map (·.2)
def PV.key : PV → Option Key
  | .int i => some (.inl i)
  | .str s => if PyData.strOk s = true then some (.inr s) else none
  | _ => none
/-- pairs that bear pairs -/
inductive RepK (g : G) (Z : Hp) : List (Key × V) → KP → Prop
  | nil : RepK g Z [] []
  | cons {k : Key} {v : V} {x : PV} {kvs : List (Key × V)} {kps : KP} : keyOk k = true → Rep g Z v x → RepK g Z kvs kps → RepK g Z ((k, v) :: kvs) ((k, x) :: kps)
section
variable {g : G} {Z Z' H : Hp}
theorem RepK.mono (e : Same Z Z') {kvs : List (Key × V)} {kps : KP} (h : RepK g Z kvs kps) : RepK g Z' kvs kps := by
  induction h with
  | nil => exact .nil
  | cons k r t ih => exact .cons k (r.mono e) ih
theorem RepK.length {kvs : List (Key × V)} {kps : KP} (h : RepK g Z kvs kps) : kvs.length = kps.length := by
  induction h with
  | nil => rfl
  | cons k r t ih => rw [List.length_cons, List.length_cons, ih]
theorem RepK.parts {kvs : List (Key × V)} {kps : KP} (h : RepK g Z kvs kps) : kvs.map (·.1) = kps.map (·.1) ∧ (kvs.map (·.1)).all keyOk = true ∧ Reps g Z (kvs.map (·.2)) (kps.map (·.2)) := by
  induction h with
  | nil => exact ⟨rfl, rfl, .nil⟩
  | cons k r t ih =>
    refine ⟨?_, ?_, .cons r ih.2.2⟩
    · rw [List.map_cons, List.map_cons, ih.1]
    · rw [List.map_cons, List.all_cons, ih.2.1, k]; rfl
theorem RepK.of : ∀ {kvs : List (Key × V)} {ks : List Key} {vs : List PV}, kvs.map (·.1) = ks → ks.all keyOk = true → Reps g Z (kvs.map (·.2)) vs → RepK g Z kvs (ks.zip vs) ∧ (ks.zip vs).map (·.1) = ks ∧ (ks.zip vs).map (·.2) = vs
  | [], ks, vs, e, o, r => by
    cases e
    cases r
    exact ⟨.nil, rfl, rfl⟩
  | (k, v) :: kvs, ks, vs, e, o, r => by
    cases ks with
    | nil => cases e
    | cons k' ks =>
      cases vs with
      | nil => cases r
      | cons x vs =>
        rw [List.map_cons] at e
        have e1 : k = k' := (List.cons.inj e).1
        subst e1
        have e2 : kvs.map (·.1) = ks := (List.cons.inj e).2
        rw [List.all_cons, Bool.and_eq_true] at o
        cases r with
        | cons a b =>
          obtain ⟨h1, h2, h3⟩ := RepK.of e2 o.2 b
          exact ⟨.cons o.1 a h1, by rw [List.zip_cons_cons, List.map_cons, h2], by rw [List.zip_cons_cons, List.map_cons, h3]⟩
theorem RepK.any {kvs : List (Key × V)} {kps : KP} (h : RepK g Z kvs kps) (k : Key) : (kvs.any fun kv => decide (kv.1 = k)) = (kps.any fun kv => decide (kv.1 = k)) := by
  induction h with
  | nil => rfl
  | cons k r t ih => rw [List.any_cons, List.any_cons, ih]
theorem RepK.app {kvs kvs' : List (Key × V)} {kps kps' : KP} (h : RepK g Z kvs kps) (h' : RepK g Z kvs' kps') : RepK g Z (kvs ++ kvs') (kps ++ kps') := by
  induction h with
  | nil => exact h'
  | cons k r t ih => exact .cons k r ih
theorem RepK.put {kvs : List (Key × V)} {kps : KP} (h : RepK g Z kvs kps) {k : Key} {v : V} {x : PV} (ok : keyOk k = true) (r : Rep g Z v x) : RepK g Z (putK kvs k v) (putP kps k x) := by
  unfold putK putP
  rw [h.any k]
  by_cases e : (kps.any fun kv => decide (kv.1 = k)) = true
  · rw [if_pos e, if_pos e]
    clear e
    induction h with
    | nil => exact .nil
    | @cons k' v' x' _ _ q r' t ih =>
      rw [List.map_cons, List.map_cons]
      by_cases e : k' = k
      · rw [if_pos e, if_pos e]; exact .cons q r ih
      · rw [if_neg e, if_neg e]; exact .cons q r' ih
  · rw [if_neg e, if_neg e]
    exact h.app (.cons ok r .nil)
theorem RepK.get {kvs : List (Key × V)} {kps : KP} (h : RepK g Z kvs kps) {k : Key} {x : PV} (e : getP kps k = some x) : ∃ v, valV kvs k = some v ∧ Rep g Z v x := by
  unfold getP at e
  unfold valV
  induction h with
  | nil => cases e
  | @cons k' v' x' _ _ q r' t ih =>
    by_cases ek : k' = k
    · rw [List.find?_cons_of_pos (by simp [ek])] at e ⊢
      cases e
      exact ⟨_, rfl, r'⟩
    · rw [List.find?_cons_of_neg (by simp [ek])] at e ⊢
      exact ih e
theorem RepK.getN {kvs : List (Key × V)} {kps : KP} (h : RepK g Z kvs kps) {k : Key} (e : getP kps k = none) : valV kvs k = none := by
  unfold getP at e
  unfold valV
  induction h with
  | nil => rfl
  | @cons k' v' x' _ _ q r' t ih =>
    by_cases ek : k' = k
    · rw [List.find?_cons_of_pos (by simp [ek])] at e
      cases e
    · rw [List.find?_cons_of_neg (by simp [ek])] at e ⊢
      exact ih e
theorem PV.key_of {x : PV} {v : V} {k : Key} (r : Rep g Z v x) (e : x.key = some k) : v = kV k ∧ keyOk k = true := by
  cases x with
  | int i => cases e; cases r; exact ⟨rfl, rfl⟩
  | str s =>
    have e : (if PyData.strOk s = true then some (Sum.inr s : Key) else none) = some k := e
    obtain ⟨h, rfl⟩ := of_ite e
    cases r; exact ⟨rfl, h⟩
  | _ => cases e
end
theorem putP_len (kps : KP) (k : Key) (v : PV) : (putP kps k v).length ≤ kps.length + 1 := by
  unfold putP
  split
  · rw [List.length_map]; omega
  · rw [List.length_append]; simp

/-! ### a dict of its own -/
def RD (g : G) (f : Frm) (σ : L2.St) : Hp → Hp → Cells → V → KP → Prop := fun Z H e b kps =>
  ∃ p kvs, b = .ref p ∧ Z p = none ∧ H p = some (.dK kvs) ∧ kvs.length ≤ sizeLine ∧ RepK g Z kvs kps ∧ f.H p = none ∧ ¬ Muts σ e p
def tD (g : G) (W : WX) (d : Den KP) : TE := fun σ H Q => ∃ f Z env, At g W f Z env d (RD g f σ) Q σ H
abbrev PD (X : Cx) (W : WX) (e : Expr) (d : Den KP) : Prop := PE X e (tD (gOf X) W d)
def PV.dicOf (kps : KP) : PV := .dic (kps.map (·.1)) (kps.map (·.2))
def dDicOf (d : Den KP) : Den PV := d.bind fun kps => Den.ret (PV.dicOf kps)
section
variable {g : G} {f : Frm} {Z H Z' H' : Hp} {σ : L2.St} {env : Cells}
theorem RepK.rep {p : Addr} {kvs : List (Key × V)} {kps : KP} (h : RepK g Z kvs kps) (e : Rd Z p (.dK kvs)) (l : kvs.length ≤ sizeLine) : Rep g Z (.ref p) (.dicOf kps) := by
  obtain ⟨h1, h2, h3⟩ := h.parts
  unfold PV.dicOf
  rw [← h1]
  exact .dic e l h2 h3
/-- what stands at p, no cell's and not the frame's, is frozen -/
theorem StOk.ownZ (st : StOk g f Z H σ env) {p : Addr} {o : HO} (n : Z p = none) (hH : H p = some o) (fn : f.H p = none) (nm : ¬ Muts σ env p) : StOk g f (upd Z p o) H σ env ∧ Same Z (upd Z p o) := by
  have zz : Same Z (upd Z p o) := same_upd n
  refine ⟨⟨st.z0.trans zz, fun b u q => ?_, st.fr, fun b o q m z => ?_, st.pr, st.mh, st.ln, fun j c ej => ?_, st.sep⟩, zz⟩
  · by_cases hb : b = p
    · subst hb; rw [upd_same] at q; cases q; exact hH
    · rw [upd_ne hb] at q; exact st.zh _ _ q
  · have : b ≠ p := fun z => by subst z; rw [fn] at q; cases q
    rw [upd_ne this]; exact st.nz b _ q m z
  · have q := st.sl j c ej
    cases c with
    | un => trivial
    | v x => obtain ⟨v, e1, r1⟩ := q; exact ⟨v, e1, r1.mono zz⟩
    | m own zs =>
      obtain ⟨b, ws, e1, e2, e3, l', r', e4⟩ := q
      have : b ≠ p := fun z => by subst z; exact nm ⟨j, _, ej, rfl, e1⟩
      exact ⟨b, ws, e1, by rw [upd_ne this]; exact e2, e3, l', r'.mono zz, e4⟩
    | d own ks ws =>
      obtain ⟨b, kvs, e1, e2, e3, l', hk, ho, r', e4⟩ := q
      have : b ≠ p := fun z => by subst z; exact nm ⟨j, _, ej, rfl, e1⟩
      exact ⟨b, kvs, e1, by rw [upd_ne this]; exact e2, e3, l', hk, ho, r'.mono zz, e4⟩
    | o own c ns ws =>
      obtain ⟨b, fs, e1, e2, e3, hk, r', e4⟩ := q
      have : b ≠ p := fun z => by subst z; exact nm ⟨j, _, ej, rfl, e1⟩
      exact ⟨b, fs, e1, by rw [upd_ne this]; exact e2, e3, hk, r'.mono zz, e4⟩
theorem StOk.ownD (st : StOk g f Z H σ env) {p : Addr} {kvs : List (Key × V)} {kps : KP} (n : H p = none) (l : kvs.length ≤ sizeLine) (r : RepK g Z kvs kps) :
    StOk g f Z (upd H p (.dK kvs)) σ env ∧ RD g f σ Z (upd H p (.dK kvs)) env (.ref p) kps :=
  ⟨st.new n, p, kvs, rfl, st.zn n, upd_same, l, r, st.fH n, fun m => by obtain ⟨_, ⟨o, q⟩, _⟩ := st.muts m; rw [n] at q; cases q⟩
/-- the rule behind setM, for any cell that changes -/
theorem StOk.setC (st : StOk g f Z H σ env) {i : Nat} {a : Addr} {c : Cell} (hm : c.mut = true) (sl : Slot g f Z H (σ.set i (some (.ref a))) i c) (own : ¬ Muts σ env a) (hi : i < σ.length) :
    StOk g f Z H (σ.set i (some (.ref a))) (env.set i c) := by
  have hi' : i < env.length := by rw [st.ln]; exact hi
  refine ⟨st.z0, st.zh, st.fr, st.nz, st.pr, st.mh, by rw [List.length_set, List.length_set]; exact st.ln, fun j c' ej => ?_, fun j k x y b ej ek mx my sj sk => ?_⟩
  · by_cases hj : i = j
    · subst hj
      rw [List.getElem?_set_self hi'] at ej
      cases ej
      exact sl
    · rw [List.getElem?_set_ne hj] at ej
      have q := st.sl j c' ej
      unfold Slot at q ⊢
      rw [List.getElem?_set_ne hj]
      exact q
  · by_cases hj : i = j
    · by_cases hk : i = k
      · exact hj.symm.trans hk
      · subst hj
        rw [List.getElem?_set_self hi] at sj
        cases sj
        rw [List.getElem?_set_ne hk] at ek sk
        exact absurd ⟨k, y, ek, my, sk⟩ own
    · by_cases hk : i = k
      · subst hk
        rw [List.getElem?_set_self hi] at sk
        cases sk
        rw [List.getElem?_set_ne hj] at ej sj
        exact absurd ⟨j, x, ej, mx, sj⟩ own
      · rw [List.getElem?_set_ne hj] at ej sj
        rw [List.getElem?_set_ne hk] at ek sk
        exact st.sep j k x y b ej ek mx my sj sk
/-- a changing dict's name: its content is changed in place -/
theorem StOk.putC (st : StOk g f Z H σ env) {i : Nat} {a : Addr} {c c' : Cell} {o : HO} (e : env[i]? = some c) (m : c.mut = true) (m' : c'.mut = true) (s : σ[i]? = some (some (.ref a))) (sl : Slot g f Z (upd H a o) σ i c') :
    StOk g f Z (upd H a o) σ (env.set i c') := by
  have hm := st.muts (a := a) ⟨i, _, e, m, s⟩
  have hi : i < env.length := (List.getElem?_eq_some_iff.mp e).1
  refine ⟨st.z0, fun b u q => ?_, fun b o q m => ?_, st.nz, fun b o q => ?_, st.mh, by rw [List.length_set]; exact st.ln, fun j cj ej => ?_, fun j k x y b ej ek mx my sj sk => ?_⟩
  · have : b ≠ a := fun z => by rw [z, hm.1] at q; cases q
    rw [upd_ne this]; exact st.zh _ _ q
  · have : b ≠ a := fun z => by
      subst z
      rcases hm.2.2 with z | z
      · rw [z] at q; cases q
      · exact m z
    rw [upd_ne this]; exact st.fr _ _ q m
  · by_cases hb : b = a
    · exact ⟨_, by rw [hb, upd_same]⟩
    · obtain ⟨o', z⟩ := st.pr b o q
      exact ⟨o', by rw [upd_ne hb]; exact z⟩
  · by_cases hj : i = j
    · subst hj
      rw [List.getElem?_set_self hi] at ej
      cases ej
      exact sl
    · rw [List.getElem?_set_ne hj] at ej
      have q := st.sl j cj ej
      cases cj with
      | un => trivial
      | v x => exact q
      | m own' zs =>
        obtain ⟨b, ws, e1, e2, e3, l', r', e4⟩ := q
        have : b ≠ a := fun z => by subst z; exact hj (st.sep i j _ _ b e ej m rfl s e1)
        exact ⟨b, ws, e1, e2, by rw [upd_ne this]; exact e3, l', r', e4⟩
      | d own' ks ws =>
        obtain ⟨b, kvs, e1, e2, e3, l', hk, ho, r', e4⟩ := q
        have : b ≠ a := fun z => by subst z; exact hj (st.sep i j _ _ b e ej m rfl s e1)
        exact ⟨b, kvs, e1, e2, by rw [upd_ne this]; exact e3, l', hk, ho, r', e4⟩
      | o own' c ns ws =>
        obtain ⟨b, fs, e1, e2, ⟨C, dx, e3, hc⟩, hk, r', e4⟩ := q
        have : b ≠ a := fun z => by subst z; exact hj (st.sep i j _ _ b e ej m rfl s e1)
        exact ⟨b, fs, e1, e2, ⟨C, dx, by rw [upd_ne this]; exact e3, hc⟩, hk, r', e4⟩
  · have back : ∀ {j : Nat} {x : Cell}, (env.set i c')[j]? = some x → x.mut = true → ∃ x', env[j]? = some x' ∧ x'.mut = true := fun {j x} ej mx => by
      by_cases hj : i = j
      · subst hj; exact ⟨_, e, m⟩
      · rw [List.getElem?_set_ne hj] at ej; exact ⟨x, ej, mx⟩
    obtain ⟨x', e1, m1⟩ := back ej mx
    obtain ⟨y', e2, m2⟩ := back ek my
    exact st.sep j k x' y' b e1 e2 m1 m2 sj sk
end
def Cell.dOf (own : Bool) (kps : KP) : Cell := .d own (kps.map (·.1)) (kps.map (·.2))
def sSetD (i : Nat) (d : Den KP) : SDen := sOf d fun v e => some (.nx (e.set i (.dOf true v)))
section
variable {X : Cx} {W : WX} {e : Expr} {pos pos' : Pos} {i : Nat} {x : Str} {d : Den KP}
theorem px_ownD (h : PD X W e d) : PX X W e (dDicOf d) := peimp h fun σ H Q ⟨f, Z, env, a⟩ =>
  ⟨f, Z, env, a.bind.imp fun u H1 ⟨Z1, env1, kps, s1, r1, a1⟩ => by
    obtain ⟨p, kvs, rfl, n, hH, l, r, fn, nm⟩ := r1
    obtain ⟨st2, zz⟩ := a1.st.ownZ n hH fn nm
    exact a1.ret (.ref p) _ H1 zz st2 ((r.mono zz).rep (.inl upd_same) l)⟩
theorem pd_new : PD X W (.Dict [] [] pos) (Den.ret []) := peimp pe_dnewK fun σ H Q ⟨f, Z, env, a⟩ p n => by
  obtain ⟨st2, r2⟩ := a.st.ownD (kps := []) n (Nat.zero_le _) .nil
  exact a.ret (.ref p) Z _ (Same.refl _) st2 r2
theorem psx_setD (hN : X.N.Nodup) (hi : X.N[i]? = some x) (hx : Loc X.env.scope x) (h : PD X W e d) (hs : swapsWith e (some (.Name x pos')) pos.line X.env = pure false := by rfl)
    (hf : X.fn x = true ∨ X.env.scope.names.lookup x = some .local := by first | exact .inl rfl | exact .inr rfl | assumption) : PSX X W (.Assign [.Name x pos'] e pos) (sSetD i d) := by
  refine ⟨fun pins s σ H D I ⟨f, Z, env, a⟩ => (ps_set hN hi hx h hs hf).run pins s σ H D I ?_⟩
  have hσ : i < σ.length := by rw [I.len]; exact (List.getElem?_eq_some_iff.mp hi).1
  refine ⟨f, Z, env, a.of.imp fun u H1 ⟨Z1, env1, v, s1, r1, a1⟩ => ?_⟩
  obtain ⟨st, o, e, p⟩ := a1
  cases e
  obtain ⟨q, kvs, rfl, n, hH, l, r, fn, nm⟩ := r1
  obtain ⟨h1, h2, h3⟩ := r.parts
  refine p _ Z1 H1 (Same.refl _) (st.setC rfl ⟨q, kvs, List.getElem?_set_self hσ, n, hH, l, h1, by rw [← h1]; exact h2, h3, fn⟩ nm hσ)
end

/-! ### dict comprehensions -/
def dcLoop (gx : PV → Cells → Option Cells) (dc dk dv : Den PV) (own : List Nat) : List PV → KP → Den KP
  | [], acc => Den.ret acc
  | x :: xs, acc => fun e => match gx x e with
    | none => none
    | some e1 => match dc e1 with
      | some (.ok (.bl true) e2) => (match dk e2 with
        | some (.ok y e3) => (match dv e3 with
          | some (.ok z e4) => (match y.key with
            | some k => dcLoop gx dc dk dv own xs (putP acc k z) (wipeE e4 own)
            | none => none)
          | _ => none)
        | _ => none)
      | some (.ok (.bl false) e2) => dcLoop gx dc dk dv own xs acc (wipeE e2 own)
      | _ => none
def dDc (di : Den (List PV)) (gx : PV → Cells → Option Cells) (dc dk dv : Den PV) (own : List Nat) : Den KP := di.bind fun xs e => dcLoop gx dc dk dv own xs [] (wipeE e own)
section
variable {X : Cx} {W : WX} {tg it kx vx : Expr} {ifs : List Expr} {scope : Scope} {own : List (Str × Nat)} {pos : Pos} {di : Den (List PV)} {t : TG} {is : List Nat} {gx : PV → Cells → Option Cells} {dc dk dv : Den PV}
theorem dc_it {J : It} {n : Nat} {Gd : Hp → Prop} {Y : Nat → Hp → V → Hp → Prop} {g : TG} {tt : TT} {tk tv : TE} {vs : List Nat} {σ : L2.St} {H1 : Hp} {D : Addr} {Qd : Hp → Prop} (hw : Walk J n Gd Y) (Pv : Nat → Hp → Prop) (h0 : Pv 0 (upd H1 D (.dK []))) (hp : ∀ i H, i ≤ n → Pv i H → Gd H)
    (hs : ∀ i v H H', i < n → Pv i H → Y i H v H' → g v (wipe σ vs) H' fun σ2 H2 => wipe σ2 vs = wipe σ vs ∧ tt σ2 H2 fun b H3 => if b = true then tk σ2 H3 fun y H4 => tv σ2 H4 fun z H5 => ∃ kvs k, y = kV k ∧ H5 D = some (.dK kvs) ∧ kvs.length < sizeLine ∧ Pv (i + 1) (upd H5 D (.dK (putK kvs k z))) else Pv (i + 1) H3) (hd : ∀ H, Pv n H → Qd H) :
    ∃ W : Nat → Nat → Hp → Prop, (∃ m, W 0 m (upd H1 D (.dK []))) ∧ ∀ i m H, W i m H →
      (J.stop i H ∧ Qd H) ∨ (J.go i H ∧ ∃ Nx : Hp → Prop, (∀ H', Nx H' → ∃ m', m' < m ∧ W (i + 1) m' H') ∧ ∀ x H', J.yld i H x H' → g x (wipe σ vs) H' fun σ2 H2 => wipe σ2 vs = wipe σ vs ∧ tt σ2 H2 fun b H3 => if b = true then tk σ2 H3 fun y H4 => tv σ2 H4 fun z H5 => ∃ kvs k, y = kV k ∧ H5 D = some (.dK kvs) ∧ kvs.length < sizeLine ∧ Nx (upd H5 D (.dK (putK kvs k z))) else Nx H3) := by
  refine ⟨fun i m H => m = n - i ∧ i ≤ n ∧ Pv i H, ⟨n, by omega, Nat.zero_le _, h0⟩, ?_⟩
  rintro i m H ⟨rfl, hi, p⟩
  by_cases hlt : i < n
  · exact .inr ⟨hw.goes i H hlt (hp i H hi p), Pv (i + 1), fun H' p' => ⟨n - (i + 1), by omega, rfl, hlt, p'⟩, fun x H' y => hs i x H H' hlt p (hw.yields i H x H' hlt (hp i H hi p) y)⟩
  · have e : i = n := by omega
    subst e
    exact .inl ⟨hw.stops H (hp i H hi p), hd H p⟩
theorem t_dc {σ : L2.St} {H : Hp} {Q : VK} {own : List Nat} (hg : ∀ (f : Frm) (Z : Hp) (env : Cells) (σ : L2.St) (H : Hp) (v : V) (x : PV) (env' : Cells) (Q : L2.St → Hp → Prop), StOk (gOf X) f Z H σ env → Rep (gOf X) Z v x → gx x env = some env' →
      (∀ σ', StOk (gOf X) f Z H σ' env' → (∀ vs : List Nat, (∀ i ∈ is, i ∈ vs) → wipe σ' vs = wipe σ vs) → Q σ' H) → t v σ H Q) (his : ∀ i ∈ is, i ∈ own)
    (h : tD (gOf X) W (dDc di gx dc dk dv own) σ H Q) : tDc (tI (gOf X) W di) t (tB (tP (gOf X) W0 dc)) (tP (gOf X) W0 dk) (tP (gOf X) W0 dv) own σ H Q := by
  obtain ⟨f, Z, env, a⟩ := h
  refine ⟨f, Z, env, a.bind.imp fun J H1 ⟨Z1, env1, xs, s1, r1, a1⟩ D nD => ?_⟩
  obtain ⟨n, G', Y, w, en, lz, hG, hY⟩ := r1.ex
  obtain ⟨st1, o, eo, po⟩ := a1
  have fD : f.H D = none := st1.fH nD
  have fZD : f.Z D = none := by
    cases q : f.Z D with
    | none => rfl
    | some u => rw [st1.zh _ _ (st1.z0 _ _ q)] at nD; cases nD
  have nmD : ∀ {σ : L2.St} {e : Cells}, StOk (gOf X) f Z1 H1 σ e → ¬ Muts σ e D := fun st m => by
    obtain ⟨_, ⟨u, q⟩, _⟩ := st.muts m
    rw [nD] at q; cases q
  refine dc_it w (fun i H => ∃ Zi e acc kvs, Same Z1 Zi ∧ H D = some (.dK kvs) ∧ kvs.length ≤ i ∧ RepK (gOf X) Zi kvs acc ∧ Zi D = none ∧ ¬ Muts (wipe σ own) (wipeE e own) D ∧ StOk (gOf X) f Zi H (wipe σ own) (wipeE e own) ∧
      dcLoop gx dc dk dv own (xs.drop i) acc (wipeE e own) = some o) ?_ (fun i H hi ⟨Zi, e, acc, vs, sz, _, _, _, _, _, st, _⟩ => hG H (sz.trans st.zh)) ?_ ?_
  · exact ⟨Z1, env1, [], [], Same.refl _, upd_same, Nat.zero_le _, .nil, st1.zn nD, nmD (st1.wipes own), (st1.wipes own).new nD, eo⟩
  · rintro i v H H' hi ⟨Zi, e, acc, vs, sz, hD, lv, rv, zD, nm, st, ei⟩ y
    obtain ⟨x, ex, k⟩ := hY i H v H' hi y
    rw [drop_at ex] at ei
    have stp := st.plus fD hD zD nm
    obtain ⟨Z2, s2, st2, r2⟩ := k (f.plus D (.dK vs)) Zi (wipe σ own) (wipeE e own) sz stp
    cases hgx : gx x (wipeE e own) with
    | none => simp only [dcLoop, hgx] at ei; cases ei
    | some e1 =>
      simp only [dcLoop, hgx] at ei
      refine hg (f.plus D (.dK vs)) Z2 (wipeE e own) (wipe σ own) H' v x e1 _ st2 r2 hgx fun σ' st3 hw => ?_
      have hw' : wipe σ' own = wipe (wipe σ own) own := hw own his
      have hw2 : wipe σ' own = wipe σ own := hw'.trans (wipe_twice σ own own fun _ h => h)
      refine ⟨hw2, ?_⟩
      have fin : ∀ {Z' : Hp} {H4 : Hp} {e4 : Cells} {ys : KP} {us : List (L2.Key × V)}, Same Z2 Z' → StOk (gOf X) (f.plus D (.dK vs)) Z' H4 σ' e4 → us.length ≤ i + 1 → RepK (gOf X) Z' us ys → dcLoop gx dc dk dv own (xs.drop (i + 1)) ys (wipeE e4 own) = some o →
          H4 D = some (.dK vs) ∧ ∃ Zi e acc vs', Same Z1 Zi ∧ upd H4 D (.dK us) D = some (.dK vs') ∧ vs'.length ≤ i + 1 ∧ RepK (gOf X) Zi vs' acc ∧ Zi D = none ∧ ¬ Muts (wipe σ own) (wipeE e own) D ∧ StOk (gOf X) f Zi (upd H4 D (.dK us)) (wipe σ own) (wipeE e own) ∧
            dcLoop gx dc dk dv own (xs.drop (i + 1)) acc (wipeE e own) = some o := fun {Z' H4 e4 ys us} s st4 l r e => by
        have st5 := st4.wipes own
        rw [hw2] at st5
        obtain ⟨st6, h6, z6, m6⟩ := st5.minus st.mh fZD fD
        exact ⟨h6, Z', e4, ys, us, (sz.trans s2).trans s, upd_same, l, r, z6, m6, st6.poke fD z6 m6, e⟩
      cases hdc : dc e1 with
      | none => rw [hdc] at ei; cases ei
      | some oc =>
        rw [hdc] at ei
        cases oc with
        | ex c e2 => cases ei
        | ok b e2 =>
          cases b with
          | bl b =>
            refine ⟨f.plus D (.dK vs), Z2, e1, st3, _, hdc, fun u Z3 H3 s3 st4 r3 => ?_⟩
            cases r3
            refine ⟨b, rfl, ?_⟩
            cases b with
            | false =>
              rw [if_neg Bool.false_ne_true]
              obtain ⟨h6, Zi', e', acc', vs', q1, q2, q3, q4, q5, q6, q7, q8⟩ := fin (ys := acc) (us := vs) s3 st4 (Nat.le_succ_of_le lv) ((rv.mono s2).mono s3) ei
              have same : upd H3 D (.dK vs) = H3 := by
                funext b
                by_cases hb : b = D
                · subst hb; rw [upd_same, h6]
                · rw [upd_ne hb]
              rw [same] at q2 q7
              exact ⟨Zi', e', acc', vs', q1, q2, q3, q4, q5, q6, q7, q8⟩
            | true =>
              rw [if_pos rfl]
              cases hdk : dk e2 with
              | none => simp only [hdk] at ei; cases ei
              | some oe =>
                cases oe with
                | ex c e3 => simp only [hdk] at ei; cases ei
                | ok yv e3 =>
                  simp only [hdk] at ei
                  refine ⟨f.plus D (.dK vs), Z3, e2, st4, _, hdk, fun u Z4 H4 s4 st5 r4 => ?_⟩
                  cases hdv : dv e3 with
                  | none => simp only [hdv] at ei; cases ei
                  | some oz =>
                    cases oz with
                    | ex c e4 => simp only [hdv] at ei; cases ei
                    | ok zv e4 =>
                      simp only [hdv] at ei
                      refine ⟨f.plus D (.dK vs), Z4, e3, st5, _, hdv, fun u2 Z5 H5 s5 st6 r5 => ?_⟩
                      cases hk : yv.key with
                      | none => simp only [hk] at ei; cases ei
                      | some kk =>
                        simp only [hk] at ei
                        obtain ⟨rfl, ok⟩ := PV.key_of r4 hk
                        obtain ⟨h6, q⟩ := fin (us := putK vs kk u2) ((s3.trans s4).trans s5) st6 (Nat.le_trans (length_putK vs kk u2) (Nat.succ_le_succ lv)) (((((rv.mono s2).mono s3).mono s4).mono s5).put ok r5) ei
                        exact ⟨vs, kk, rfl, h6, Nat.lt_of_le_of_lt lv (Nat.lt_of_lt_of_le hi lz), q⟩
          | _ => cases ei
  · rintro H ⟨Zi, e, acc, vs, sz, hD, lv, rv, zD, nm, st, ei⟩
    rw [en, List.drop_length] at ei
    cases ei
    have nm' : ¬ Muts σ (wipeE e own) D := fun ⟨j, c, ej, m, sj⟩ => by
      have nj : j ∉ own := fun h => by rw [wipeE_in h ej] at m; cases m
      exact nm ⟨j, c, ej, m, by rw [wipe_get nj]; exact sj⟩
    exact po (.ref D) Zi H sz st.unwipe ⟨D, vs, rfl, zD, hD, Nat.le_trans lv lz, rv, fD, nm'⟩
theorem pd_dc (hc : X.calm = true) (hN : X.N.Nodup) (hi : PIX X W tg it di) (ok : BlkOk X.N X.env.scope scope own)
    (hg : ∀ (s : Shared) (H : Hp) (C : Addr) (cl : List (Str × Addr)) (fp : List Addr), PGX (X.blk s H scope (compEnvC scope cl C X.env) fp) tg t is gx) (his : ∀ i ∈ is, i ∈ own.map (·.2))
    (ht : ∀ (s : Shared) (H : Hp) (C : Addr) (cl : List (Str × Addr)) (fp : List Addr), PTsX (X.blk s H scope (compEnvC scope cl C X.env) fp) W0 ifs dc)
    (hk : ∀ (s : Shared) (H : Hp) (C : Addr) (cl : List (Str × Addr)) (fp : List Addr), PX (X.blk s H scope (compEnvC scope cl C X.env) fp) W0 kx dk)
    (he : ∀ (s : Shared) (H : Hp) (C : Addr) (cl : List (Str × Addr)) (fp : List Addr), PX (X.blk s H scope (compEnvC scope cl C X.env) fp) W0 vx dv) (hs : ∀ x, foldedSetIterable it X.env x = pure x := by intro _; rfl) :
    PD X W (.DictComp kx vx [⟨tg, it, ifs, 0⟩] scope pos) (dDc di gx dc dk dv (own.map (·.2))) :=
  ⟨fun pins s σ H Q I h => (pe_dc (tt := tB (tP (gOf X) W0 dc)) (tk := tP (gOf X) W0 dk) (tv := tP (gOf X) W0 dv) hc hN hi ok (fun s H C cl fp => (hg s H C cl fp).pg) ht hk he hs).run pins s σ H Q I
    (t_dc (is := is) (fun f Z env σ H v x env' Q st r e k => (hg s (fun _ => none) 0 [] []).ok f Z env σ H v x env' Q st r e k) his h)⟩
end

/-! ### sorted -/
section
variable {α : Type}
def insertBy (lt : α → α → Bool) (x : α) : List α → List α
  | [] => [x]
  | y :: ys => if lt y x then y :: insertBy lt x ys else x :: y :: ys
def sortBy (lt : α → α → Bool) : List α → List α
  | [] => []
  | x :: xs => insertBy lt x (sortBy lt xs)
theorem insertBy_perm (lt : α → α → Bool) (x : α) : ∀ ys, (insertBy lt x ys).Perm (x :: ys)
  | [] => List.Perm.refl _
  | y :: ys => by
    unfold insertBy
    split
    · exact ((insertBy_perm lt x ys).cons y).trans (List.Perm.swap x y ys)
    · exact List.Perm.refl _
theorem sortBy_perm (lt : α → α → Bool) : ∀ xs, (sortBy lt xs).Perm xs
  | [] => List.Perm.refl _
  | x :: xs => (insertBy_perm lt x (sortBy lt xs)).trans ((sortBy_perm lt xs).cons x)
theorem insertBy_sorted (lt : α → α → Bool) (as : ∀ x y, lt x y = true → lt y x = false) (tr : ∀ x y z, lt y x = false → lt z y = false → lt z x = false) (x : α) : ∀ ys, ys.Pairwise (fun a b => lt b a = false) → (insertBy lt x ys).Pairwise (fun a b => lt b a = false)
  | [], _ => List.pairwise_singleton _ _
  | y :: ys, h => by
    rw [List.pairwise_cons] at h
    unfold insertBy
    by_cases e : lt y x = true
    · rw [if_pos e, List.pairwise_cons]
      refine ⟨fun z hz => ?_, insertBy_sorted lt as tr x ys h.2⟩
      rcases List.mem_cons.mp ((insertBy_perm lt x ys).mem_iff.mp hz) with rfl | hz
      · exact as _ _ e
      · exact h.1 z hz
    · rw [if_neg e, List.pairwise_cons]
      have e : lt y x = false := by cases q : lt y x with | true => exact absurd q e | false => rfl
      refine ⟨fun z hz => ?_, List.pairwise_cons.mpr h⟩
      rcases List.mem_cons.mp hz with rfl | hz
      · exact e
      · exact tr x y z e (h.1 z hz)
theorem sortBy_sorted (lt : α → α → Bool) (as : ∀ x y, lt x y = true → lt y x = false) (tr : ∀ x y z, lt y x = false → lt z y = false → lt z x = false) : ∀ xs, (sortBy lt xs).Pairwise (fun a b => lt b a = false)
  | [] => List.Pairwise.nil
  | x :: xs => insertBy_sorted lt as tr x _ (sortBy_sorted lt as tr xs)
end
abbrev ltI (a b : Int) : Bool := decide (a < b)
def sortI (ns : List Int) : List Int := sortBy ltI ns
theorem sortI_eq {ns ms : List Int} (p : ms.Perm ns) (s : ms.Pairwise (· ≤ ·)) : ms = sortI ns := by
  have h1 : (sortI ns).Pairwise (· ≤ ·) := (sortBy_sorted ltI (fun x y h => by have := of_decide_eq_true h; exact decide_eq_false (by omega)) (fun x y z h1 h2 => by
    have a := of_decide_eq_false h1
    have b := of_decide_eq_false h2
    exact decide_eq_false (by omega)) ns).imp fun {a b} h => by have := of_decide_eq_false h; omega
  exact (p.trans (sortBy_perm ltI ns).symm).eq_of_pairwise (fun a b _ _ h1 h2 => Int.le_antisymm h1 h2) s h1

abbrev ltS (a b : Str) : Bool := Spec.ltCps a.cps.toList b.cps.toList
def sortS (ss : List Str) : List Str := sortBy ltS ss
theorem ltS_eq (a b : Str) : ltS a b = decide (a.cps.toList < b.cps.toList) := PyProof.Rows.ltCps_eq _ _
theorem Str.eq_of {a b : Str} (h : a.cps.toList = b.cps.toList) : a = b := by
  cases a with
  | mk a =>
    cases b with
    | mk b => exact congrArg Str.mk (Array.toList_inj.mp h)
theorem ltS_asymm (x y : Str) (h : ltS x y = true) : ltS y x = false := by
  rw [ltS_eq] at h ⊢
  exact decide_eq_false (List.lt_asymm (of_decide_eq_true h))
theorem ltS_trans (x y z : Str) (h1 : ltS y x = false) (h2 : ltS z y = false) : ltS z x = false := by
  rw [ltS_eq] at h1 h2 ⊢
  have a := of_decide_eq_false h1
  have b := of_decide_eq_false h2
  refine decide_eq_false ?_
  rw [List.not_lt] at a b ⊢
  exact List.le_trans a b
theorem ltS_anti (x y : Str) (h1 : ltS x y = false) (h2 : ltS y x = false) : x = y := by
  rw [ltS_eq] at h1 h2
  have a := of_decide_eq_false h1
  have b := of_decide_eq_false h2
  rw [List.not_lt] at a b
  exact Str.eq_of (List.le_antisymm b a)
theorem risingS_pw : ∀ (ss : List Str) (p : Str), risingS p ss = true → (p :: ss).Pairwise (fun a b => ltS b a = false)
  | [], p, _ => List.pairwise_singleton _ _
  | x :: r, p, h => by
    have h := Bool.and_eq_true_iff.mp (show ((!Spec.ltCps x.cps.toList p.cps.toList) && risingS x r) = true from h)
    have t := risingS_pw r x h.2
    refine List.pairwise_cons.mpr ⟨fun z hz => ?_, t⟩
    have e : ltS x p = false := by simpa using h.1
    rcases List.mem_cons.mp hz with rfl | hz
    · exact e
    · exact ltS_trans p x z e ((List.pairwise_cons.mp t).1 z hz)
theorem sortS_eq {ns ms : List Str} (p : ms.Perm ns) (s : sortedS ms = true) : ms = sortS ns := by
  have h0 : ms.Pairwise (fun a b => ltS b a = false) := by
    cases ms with
    | nil => exact List.Pairwise.nil
    | cons x r => exact risingS_pw r x s
  exact (p.trans (sortBy_perm ltS ns).symm).eq_of_pairwise (fun a b _ _ h1 h2 => ltS_anti a b h2 h1) h0 (sortBy_sorted ltS ltS_asymm ltS_trans ns)
def intsP : List PV → Option (List Int)
  | [] => some []
  | .int i :: r => (intsP r).map (i :: ·)
  | _ :: _ => none
def strsP : List PV → Option (List Str)
  | [] => some []
  | .str i :: r => (strsP r).map (i :: ·)
  | _ :: _ => none
def intsK : List Key → Option (List Int)
  | [] => some []
  | .inl i :: r => (intsK r).map (i :: ·)
  | _ :: _ => none
def strsK : List Key → Option (List Str)
  | [] => some []
  | .inr i :: r => (strsK r).map (i :: ·)
  | _ :: _ => none
theorem intsP_of : ∀ {xs : List PV} {ns : List Int}, intsP xs = some ns → xs = ns.map .int
  | [], _, h => by cases h; rfl
  | x :: r, ns, h => by
    cases x with
    | int i =>
      have h : (intsP r).map (i :: ·) = some ns := h
      cases hr : intsP r with
      | none => rw [hr] at h; cases h
      | some ms => rw [hr] at h; cases h; rw [List.map_cons, ← intsP_of hr]
    | _ => cases h
theorem strsP_of : ∀ {xs : List PV} {ns : List Str}, strsP xs = some ns → xs = ns.map .str
  | [], _, h => by cases h; rfl
  | x :: r, ns, h => by
    cases x with
    | str i =>
      have h : (strsP r).map (i :: ·) = some ns := h
      cases hr : strsP r with
      | none => rw [hr] at h; cases h
      | some ms => rw [hr] at h; cases h; rw [List.map_cons, ← strsP_of hr]
    | _ => cases h
theorem intsK_of : ∀ {xs : List Key} {ns : List Int}, intsK xs = some ns → xs = ns.map .inl
  | [], _, h => by cases h; rfl
  | x :: r, ns, h => by
    cases x with
    | inl i =>
      have h : (intsK r).map (i :: ·) = some ns := h
      cases hr : intsK r with
      | none => rw [hr] at h; cases h
      | some ms => rw [hr] at h; cases h; rw [List.map_cons, ← intsK_of hr]
    | inr _ => cases h
theorem strsK_of : ∀ {xs : List Key} {ns : List Str}, strsK xs = some ns → xs = ns.map .inr
  | [], _, h => by cases h; rfl
  | x :: r, ns, h => by
    cases x with
    | inr i =>
      have h : (strsK r).map (i :: ·) = some ns := h
      cases hr : strsK r with
      | none => rw [hr] at h; cases h
      | some ms => rw [hr] at h; cases h; rw [List.map_cons, ← strsK_of hr]
    | inl _ => cases h
def sortK (ks : List Key) : Option (List PV) := if ks.length < 64 then match intsK ks, strsK ks with
  | some ns, _ => some ((sortI ns).map .int)
  | none, some ss => some ((sortS ss).map .str)
  | none, none => none else none
def qSorted1 : PV → Option (List PV)
  | .dic ks _ => sortK ks
  | .lst xs => match intsP xs, strsP xs with
    | some ns, _ => some ((sortI ns).map .int)
    | none, some ss => if ss.length < 64 then some ((sortS ss).map .str) else none
    | none, none => none
  | _ => none
abbrev qSorted := one qSorted1
section
variable {g : G} {Z H : Hp}
theorem Reps.ints : ∀ {vs : List V} {ns : List Int}, Reps g Z vs (ns.map .int) → vs = ns.map .int
  | [], ns, h => by
    cases ns with
    | nil => rfl
    | cons _ _ => cases h
  | v :: vs, ns, h => by
    cases ns with
    | nil => cases h
    | cons n ns =>
      cases h with
      | cons a b => cases a; rw [List.map_cons, ← Reps.ints b]
theorem Reps.strs : ∀ {vs : List V} {ns : List Str}, Reps g Z vs (ns.map .str) → vs = ns.map .str ∧ ns.all PyData.strOk = true
  | [], ns, h => by
    cases ns with
    | nil => exact ⟨rfl, rfl⟩
    | cons _ _ => cases h
  | v :: vs, ns, h => by
    cases ns with
    | nil => cases h
    | cons n ns =>
      cases h with
      | cons a b =>
        obtain ⟨h1, h2⟩ := Reps.strs b
        cases a with
        | str _ q => exact ⟨by rw [List.map_cons, ← h1], by rw [List.all_cons, q, h2]; rfl⟩
theorem reps_int : ∀ (ns : List Int), Reps g Z (ns.map .int) (ns.map .int)
  | [] => .nil
  | n :: ns => .cons (.int n) (reps_int ns)
theorem reps_str : ∀ (ns : List Str), ns.all PyData.strOk = true → Reps g Z (ns.map .str) (ns.map .str)
  | [], _ => .nil
  | n :: ns, h => by
    rw [List.all_cons, Bool.and_eq_true] at h
    exact .cons (.str n h.1) (reps_str ns h.2)
end
theorem all_perm {α : Type} {p : α → Bool} {xs ys : List α} (h : xs.Perm ys) (a : ys.all p = true) : xs.all p = true := by
  rw [List.all_eq_true] at a ⊢
  exact fun x hx => a x (h.mem_iff.mp hx)
section
variable {X : Cx} {W : WX} {a : Expr} {ds : Den (List PV)} {p pos : Pos}
def rSrt (K : PySem.W.Frag) : List V → Hp → VK → Prop := fun xs H Q => rSortedI K xs H Q ∨ rSortedS K xs H Q ∨ (∃ (a : Addr) (kvs : List (L2.Key × V)) (ks : List Str), xs = [.ref a] ∧ Rd H a (.dK kvs) ∧ kvs.map (·.1) = ks.map Sum.inr ∧ ks.length < 64 ∧
    ∀ ys p, ys.Perm ks → sortedS ys = true → H p = none → Q (.ref p) (upd H p (.lst (ys.map V.str)))) ∨ (∃ (a : Addr) (kvs : List (L2.Key × V)) (ks : List Int), xs = [.ref a] ∧ Rd H a (.dK kvs) ∧ kvs.map (·.1) = ks.map Sum.inl ∧ ks.length < 64 ∧
    ∀ (ys : List Int) (p : Addr), ys.Perm ks → ys.Pairwise (· ≤ ·) → H p = none → Q (.ref p) (upd H p (.lst (ys.map V.int))))
theorem call_srt (hc : X.calm = true) : CallR X (.builtin "sorted") (rSrt X.K) := cr_sortedI.or (cr_sortedS.or ((call_sortedD hc).or (call_sortedDI hc)))
theorem sortedP : CallO (gOf X) W (rSrt X.K) qSorted := by
  refine callO_one fun f Z env σ H u x v Q st ru e k => ?_
  have fin : ∀ {p : Addr} {vs : List V} {xs : List PV}, H p = none → vs.length ≤ sizeLine → Reps (gOf X) Z vs xs → xs = v → Q (.ref p) (upd H p (.lst vs)) := fun {p vs xs} n l r e => by
    subst e
    obtain ⟨st2, r2⟩ := st.own n l r
    exact k _ Z _ (Same.refl _) st2 r2
  cases x with
  | lst xs =>
    cases ru with
    | lst h l rv =>
      rename_i a vs
      have e : (match intsP xs, strsP xs with
        | some ns, _ => some ((sortI ns).map PV.int)
        | none, some ss => if ss.length < 64 then some ((sortS ss).map .str) else none
        | none, none => none) = some v := e
      cases hi : intsP xs with
      | some ns =>
        rw [hi] at e
        cases e
        rw [intsP_of hi] at rv
        have ev := rv.ints
        subst ev
        refine .inl ⟨a, ns, rfl, Same.sql st.zh h, fun ns' p hp hs n => fin n ?_ (reps_int ns') (by rw [sortI_eq hp hs])⟩
        rw [List.length_map, hp.length_eq]
        rw [List.length_map] at l
        exact l
      | none =>
        rw [hi] at e
        cases hs : strsP xs with
        | none => rw [hs] at e; cases e
        | some ss =>
          rw [hs] at e
          obtain ⟨l64, rfl⟩ := of_ite e
          rw [strsP_of hs] at rv
          obtain ⟨ev, ok⟩ := rv.strs
          subst ev
          refine .inr (.inl ⟨a, ss, rfl, Same.sql st.zh h, l64, fun ns' p hp hs n => fin n ?_ (reps_str ns' (all_perm hp ok)) (by rw [sortS_eq hp hs])⟩)
          rw [List.length_map, hp.length_eq]
          rw [List.length_map] at l
          exact l
  | dic ks vs =>
    cases ru with
    | dic h l ok rv =>
      rename_i a kvs
      have e : sortK (kvs.map (·.1)) = some v := e
      unfold sortK at e
      split at e
      · rename_i l64
        cases hi : intsK (kvs.map (·.1)) with
        | some ns =>
          rw [hi] at e
          cases e
          have ev := intsK_of hi
          have ln : ns.length < 64 := by rw [ev, List.length_map] at l64; exact l64
          refine .inr (.inr (.inr ⟨a, kvs, ns, rfl, Same.rd st.zh h, ev, ln, fun ns' p hp hs n => fin n ?_ (reps_int ns') (by rw [sortI_eq hp hs])⟩))
          rw [List.length_map, hp.length_eq]
          exact small64 ln
        | none =>
          rw [hi] at e
          cases hs : strsK (kvs.map (·.1)) with
          | none => rw [hs] at e; cases e
          | some ss =>
            rw [hs] at e
            cases e
            have ev := strsK_of hs
            have ln : ss.length < 64 := by rw [ev, List.length_map] at l64; exact l64
            have ok' : ss.all PyData.strOk = true := by
              rw [ev, List.all_map] at ok
              exact ok
            refine .inr (.inr (.inl ⟨a, kvs, ss, rfl, Same.rd st.zh h, ev, ln, fun ns' p hp hs n => fin n ?_ (reps_str ns' (all_perm hp ok')) (by rw [sortS_eq hp hs])⟩))
            rw [List.length_map, hp.length_eq]
            exact small64 ln
      · cases e
  | _ => cases e
theorem po_sorted (hc : X.calm = true) (hg : Gl X "sorted") (hm : X.mg "sorted" = none) (ha : PAX X W [a] ds) (he : starEach [a] X.env = (false, eval a X.env) :: starEach [] X.env := by rfl) : PO' X W (.Call (.Name "sorted" p) [a] [] pos) (dArgs qSorted ds) :=
  po_callB (call_srt hc) sortedP hg hm boot_sorted ha (he := he)
end

/-! ### a changing dict's name -/
/-- name, a changing dict, as data at this time, handed on for good -/
def dFreezeD (i : Nat) : Den PV := fun e => match e[i]? with
  | some (.d true ks vs) => some (.ok (.dic ks vs) (e.set i (.v (.dic ks vs))))
  | _ => none
def mergeK (kvs more : List (L2.Key × V)) : List (L2.Key × V) := more.foldl (fun acc kv => putK acc kv.1 kv.2) kvs
def mergeP (kps more : KP) : KP := more.foldl (fun acc kv => putP acc kv.1 kv.2) kps
theorem RepK.merge {g : G} {Z : Hp} {kvs more : List (L2.Key × V)} {kps mps : KP} (h : RepK g Z kvs kps) (h' : RepK g Z more mps) : RepK g Z (mergeK kvs more) (mergeP kps mps) := by
  induction h' generalizing kvs kps with
  | nil => exact h
  | cons k r t ih => exact ih (h.put k r)
theorem kv_merge {kvs more : List (L2.Key × V)} {vs ws : List (L2.Key × Value)} (h : KV kvs vs) (h' : KV more ws) : KV (mergeK kvs more) (merged vs ws) := by
  unfold KV at h'
  induction h' generalizing kvs vs with
  | nil => exact h
  | @cons p q ps qs hh t ih =>
    have e : KV (putK kvs p.1 p.2) (stored vs p.1 q.2) := h.put p.1 hh.2
    rw [hh.1] at e
    have : KV (mergeK (putK kvs q.1 p.2) ps) (merged (stored vs q.1 q.2) qs) := ih e
    rw [← hh.1] at this
    show KV (mergeK (putK kvs p.1 p.2) ps) (merged (stored vs q.1 q.2) qs)
    rw [← hh.1]
    exact this
theorem mergeK_len : ∀ (more kvs : List (L2.Key × V)), (mergeK kvs more).length ≤ kvs.length + more.length
  | [], kvs => Nat.le_refl _
  | p :: more, kvs => by
    have h1 := mergeK_len more (putK kvs p.1 p.2)
    have h2 := length_putK kvs p.1 p.2
    have h3 : mergeK kvs (p :: more) = mergeK (putK kvs p.1 p.2) more := rfl
    rw [h3, List.length_cons]
    omega
section
variable {X : Cx}
def rUpdK : V → List V → Hp → VK → Prop := fun x xs H Q => ∃ (a b : Addr) (kvs more : List (L2.Key × V)), x = .ref a ∧ xs = [.ref b] ∧ a ≠ b ∧ H a = some (.dK kvs) ∧ Rd H b (.dK more) ∧ kvs.length + more.length ≤ sizeLine ∧ Q .non (upd H a (.dK (mergeK kvs more)))
theorem mt_updK : MtR X "dict.update" rUpdK := by
  intro pins s σ H x xs v us Q I rx rxs h
  obtain ⟨a, b, kvs, more, rfl, rfl, hab, ha, hb, hz, q⟩ := h
  cases rx
  obtain ⟨u, rfl, ru⟩ := rxs.one
  cases ru
  obtain ⟨z, lo, vs, rel, dd⟩ := dk_of I.hok ha
  obtain ⟨z2, lo2, ws, rel2, dd2⟩ := dk_rd I.hok hb
  refine call_meetsIn PySem.F.slot_dict_update dd.typeIs PySem.F.entry_dict_update (PySem.F.args_dict_update_2 _ _) (meets_dict_update (mixKind X.prog X.w) a b hab lo2) ⟨vs, ws, dd, dd2, ?_, fun h' hd' ho' sb => ?_⟩
  · rw [← rel.length, ← rel2.length]; exact hz
  · have he : ∃ q, h'.get? a = some q := let ⟨q, _, _, hq, _⟩ := hd'; ⟨q, hq⟩
    exact ⟨.non, _, d_write (t' := s.toks) I (by rw [ha]; exact True.intro) sb he (dk_new (Nat.le_trans (mergeK_len more kvs) hz) lo (kv_merge rel rel2) hd'), rfl, q⟩
end
/-- name.update(e) of a changing dict -/
def dUpdM (i : Nat) (da : Den PV) : Den PV := fun e => match e[i]? with
  | some (.d _ _ _) => da.bind (fun y e1 => match e1[i]?, y with
    | some (.d own ks vs), .dic ks' vs' => if ks.length + ks'.length ≤ sizeLine then some (.ok .non (e1.set i (.dOf own (mergeP (ks.zip vs) (ks'.zip vs'))))) else none
    | _, _ => none) e
  | _ => none
section
variable {X : Cx} {W : WX} {i : Nat} {x : Str} {e b : Expr} {dv dk : Den PV} {p pos pos' apos cpos : Pos}
theorem px_updM (h : PE X (.Name x p) (tVar i)) (ha : PX X W e dv)
    (hbase : attributeBase (.Name x p) "update" X.env (eval (.Name x p) X.env) = eval (.Name x p) X.env := by rfl)
    (hfew : ((backTo cpos (starEach [e] X.env)).all (fun x => !x.1) && (backToKw cpos (keywordEach [] X.env)).all (fun x => x.1.isSome)
      && decide ([e].length + ([] : List Keyword).length + (if ([] : List Keyword).isEmpty then 0 else 1) < 30)) = true := by rfl)
    (hline : (apos.endLine == cpos.line) = true := by rfl) (hs : starEach [e] X.env = (false, eval e X.env) :: starEach [] X.env := by rfl) (hplain : (backTo cpos (starEach [] X.env)).any (·.1) = false := by rfl) :
    PX X W (.Call (.Attribute (.Name x p) "update" apos) [e] [] cpos) (dUpdM i dv) :=
  peimp (pe_bm PySem.F.plainAttrs_dict PySem.F.slot_dict_update PySem.F.type_dict_update mt_updK h (pax_cons ha pax_nil hs) hbase hfew hline hs hplain) fun σ H Q ⟨f, Z, env, st, o, e, pp⟩ => by
    unfold dUpdM at e
    split at e
    · rename_i own ks vs hx
      obtain ⟨a, kvs, e1, n, hH, l, hk, ho, r, ow⟩ := st.sl i _ hx
      refine ⟨.ref a, e1, .inr (.inr (.inl ⟨rfl, .inl ⟨_, hH⟩⟩)), ?_⟩
      have a0 : At (gOf X) W f Z env (dv.bind _) (RV (gOf X)) Q σ H := ⟨st, o, e, pp⟩
      have a1 := a0.bind (R := RV (gOf X))
      refine ⟨f, Z, env, a1.st, ?_⟩
      obtain ⟨o1, eo1, po1⟩ := a1.to
      unfold dCons dNil Den.bind
      cases hd : dv env with
      | none => rw [hd] at eo1; cases eo1
      | some od =>
        rw [hd] at eo1
        cases eo1
        cases o1 with
        | ex c e2 => exact ⟨_, rfl, fun cls dd Z' H' s st' r => po1 cls dd Z' H' s st' r⟩
        | ok y e2 =>
          refine ⟨_, rfl, fun us Z1 H1 s1 st1 r1 => ?_⟩
          obtain ⟨u, rfl, ru⟩ := r1.one
          obtain ⟨Z2, env2, y2, s2, r2, a2⟩ := po1 u Z1 H1 s1 st1 ru
          obtain ⟨st2, o2, eo2, po2⟩ := a2
          split at eo2
          · rename_i own' ks1 vs1 ks2 vs2 hx'
            split at eo2
            · rename_i hl
              cases eo2
              obtain ⟨a', kvs', e1', n', hH', l', hk', ho', r', ow'⟩ := st2.sl i _ hx'
              rw [e1] at e1'
              cases e1'
              cases r2 with
              | dic h2 l2 ok2 rv2 =>
                rename_i b more
                have ne : a ≠ b := fun z => by
                  subst z
                  rcases h2 with h2 | ⟨o', h2⟩ <;> rw [n'] at h2 <;> cases h2
                obtain ⟨k1, k2, k3⟩ := RepK.of hk' ho' r'
                obtain ⟨j1, j2, j3⟩ := RepK.of rfl ok2 rv2
                have km := k1.merge j1
                obtain ⟨m1, m2, m3⟩ := km.parts
                have lz : kvs'.length + more.length ≤ sizeLine := by
                  rw [← hk', List.length_map, List.length_map] at hl; exact hl
                refine ⟨a, b, kvs', more, rfl, rfl, ne, hH', Same.rd st2.zh h2, lz, ?_⟩
                refine po2 .non Z2 _ (Same.refl _) (st2.putC hx' rfl rfl e1 ⟨a, _, e1, n', upd_same, Nat.le_trans (mergeK_len more kvs') lz, m1, by rw [← m1]; exact m2, m3, ow'⟩) .non
            · cases eo2
          · cases eo2
    · cases e
end
end Pu
set_option Elab.async false
set_option linter.all false
set_option maxRecDepth 100000
set_option maxHeartbeats 4000000
/-! Pu, part J: defs whose first parameter is a list that they change; defs that make a list; written constants; a changing list, read. -/
namespace Pu
open PySem PySem.Spec PyProof.Rows L2

/-! ### the first parameter is changed -/
abbrev FnM := List PV → List PV → Option (PV × List PV)
structure ExtM (a : Addr) (Z H Z' H' : Hp) : Prop where
  zz : Same Z Z'
  hh : ∀ b o, b ≠ a → H b = some o → H' b = some o
  zh : Same Z' H'
  nz : ∀ b o, b ≠ a → H b = some o → Z b = none → Z' b = none
  na : Z' a = none
def SpM (g : G) (n : Nat) (F : FnM) : Sp := fun vs H Q E => ∃ Z a ws us xs args r ys, vs = V.ref a :: ws ∧ Same Z H ∧ Z a = none ∧ H a = some (.lst us) ∧ us.length ≤ sizeLine ∧ Reps g Z us xs ∧ Reps g Z ws args ∧ args.length + 1 = n ∧ F xs args = some (r, ys) ∧
  ∀ u Z' H' us', ExtM a Z H Z' H' → H' a = some (.lst us') → us'.length ≤ sizeLine → Reps g Z' us' ys → Rep g Z' u r → Q u H'
def cellsM (m : Nat) (xs args : List PV) : Cells := .m false xs :: (args.map .v ++ List.replicate (m - (args.length + 1)) .un)
def outM (v : PV) (e : Cells) : Option (PV × List PV) := match (e[(0 : Nat)]? : Option Cell) with
  | some (.m false ys) => some (v, ys)
  | _ => none
def fnDenM (m : Nat) (d : SDen) : FnM := fun xs args => match d (cellsM m xs args) with
  | some (.rt v e) => outM v e
  | some (.nx e) => outM .non e
  | _ => none
theorem stok_startM {g : G} {Z H : Hp} {N : List Str} {a : Addr} {ws us : List V} {xs args : List PV} (e : Same Z H) (n : Z a = none) (hH : H a = some (.lst us)) (l : us.length ≤ sizeLine) (rx : Reps g Z us xs) (r : Reps g Z ws args) (h : ws.length + 1 ≤ N.length) :
    StOk g ⟨Z, H, fun b => b = a⟩ Z H (start N (.ref a :: ws)) (cellsM N.length xs args) where
  z0 := Same.refl _
  zh := e
  fr := fun _ _ q _ => q
  nz := fun _ _ _ _ z => z
  pr := fun _ o q => ⟨o, q⟩
  mh := fun b m => by
    have m : b = a := m
    subst m; exact ⟨_, hH⟩
  ln := by
    rw [start_len (by rw [List.length_cons]; exact h)]
    unfold cellsM
    rw [List.length_cons, List.length_append, List.length_map, List.length_replicate, ← r.length]; omega
  sl := fun i c ei => by
    cases i with
    | zero =>
      cases ei
      exact ⟨a, us, rfl, n, hH, l, rx, rfl⟩
    | succ i =>
      have ei : (args.map Cell.v ++ List.replicate (N.length - (args.length + 1)) .un)[i]? = some c := ei
      by_cases hi : i < args.length
      · rw [List.getElem?_append_left (by rw [List.length_map]; exact hi), List.getElem?_map] at ei
        cases ea : args[i]? with
        | none => rw [ea] at ei; cases ei
        | some x =>
          rw [ea] at ei
          cases ei
          obtain ⟨v, hv, rv⟩ := r.get' ea
          refine ⟨v, ?_, rv⟩
          unfold L2.start
          show (((V.ref a) :: ws).map some ++ _)[i + 1]? = _
          rw [List.getElem?_append_left (by rw [List.length_map, List.length_cons, r.length]; omega), List.getElem?_map, List.getElem?_cons_succ, hv]
          rfl
      · rw [List.getElem?_append_right (by rw [List.length_map]; omega)] at ei
        rw [List.getElem?_replicate] at ei
        split at ei
        · cases ei; trivial
        · cases ei
  sep := fun i j x y b ei ej mx my si sj => by
    have no : ∀ {i : Nat} {c : Cell}, (cellsM N.length xs args)[i]? = some c → c.mut = true → i = 0 := fun {i c} ei m => by
      cases i with
      | zero => rfl
      | succ i =>
        have ei : (args.map Cell.v ++ List.replicate (N.length - (args.length + 1)) .un)[i]? = some c := ei
        rcases List.mem_append.mp (List.mem_of_getElem? ei) with h | h
        · obtain ⟨x, _, rfl⟩ := List.mem_map.mp h; cases m
        · rw [(List.mem_replicate.mp h).2] at m; cases m
    rw [no ei mx, no ej my]
section
variable {P : Program} {w : World} {K : PySem.W.Frag} {mg : Str → Option Value} {base : Heap}
theorem fnM {x qual : Str} {params : Arguments} {body : List Stmt} {scope : Scope} {dvs : List V} {kws : List (Str × V)} {f : Addr} {fd : FuncData} {N ps : List Str} {k : Nat} {d : SDen} (F : FunD K x qual params body scope dvs kws f fd) (S : FnScope N ps scope)
    (hb : ∀ (cdv : Value) (A : Around) (outer : List PySem.Env) (s : Shared) (H : Hp) (E : XK), RoomG k (A.deeper (envOfC qual scope s.heap.objs.size f cdv)) →
      Takes (cxOf (L2.CX P w) P w K mg base N qual scope f cdv A outer s H E) (fun cls dd _ H' => E cls dd H') →
      PSsX (cxOf (L2.CX P w) P w K mg base N qual scope f cdv A outer s H E) (fun cls dd _ H' => E cls dd H') body d) :
    FnG P w K mg base (L2.CX P w) (k + 1) f fd ps (SpM ⟨K, mg⟩ ps.length (fnDenM N.length d)) := by
  refine fnG_of F S (fun vs H Q E ⟨Z, a, ws, us, xs, args, r, ys, ev, _, _, _, _, _, rw', l, _⟩ => by rw [ev, List.length_cons, rw'.length]; exact l) fun cdv A outer s H vs Q E hr h => ?_
  refine ⟨_, hb cdv A outer s H E hr (takes_of rfl rfl rfl rfl), ?_⟩
  obtain ⟨Z, a, ws, us, xs, args, r, ys, ev, e, n, hH, lu, rx, ra, l, hF, ho⟩ := h
  subst ev
  have hpl : ps.length ≤ N.length := by have := congrArg List.length S.pre; rw [List.length_take] at this; omega
  have st : StOk ⟨K, mg⟩ ⟨Z, H, fun b => b = a⟩ Z H (start N (.ref a :: ws)) (cellsM N.length xs args) := stok_startM e n hH lu rx ra (by rw [ra.length]; omega)
  have fin : ∀ {Z' H' : Hp} {σ' : L2.St} {e' : Cells} {v : PV} {u : V}, Same Z Z' → StOk ⟨K, mg⟩ ⟨Z, H, fun b => b = a⟩ Z' H' σ' e' → Rep ⟨K, mg⟩ Z' u v → outM v e' = some (r, ys) → Q u H' := fun {Z' H' σ' e' v u} s st' rv eo => by
    unfold outM at eo
    split at eo
    · rename_i zs hz
      cases eo
      obtain ⟨b, vs, e1, n', hH', l', r', ow⟩ := st'.sl 0 _ hz
      have ow : b = a := ow
      subst ow
      exact ho u Z' H' vs ⟨s, fun c o hc q => st'.fr c o q hc, st'.zh, fun c o hc q z => st'.nz c o q hc z, n'⟩ hH' l' r' rv
    · cases eo
  refine ⟨_, Z, _, st, ?_⟩
  unfold fnDenM at hF
  cases hd : d (cellsM N.length xs args) with
  | none => rw [hd] at hF; cases hF
  | some so =>
    rw [hd] at hF
    cases so with
    | rt v e1 => exact ⟨_, rfl, fun u σ' Z' H' s st' rv => fin s st' rv hF⟩
    | nx e1 => exact ⟨_, rfl, fun σ' Z' H' s st' => fin s st' .non hF⟩
    | ex c e1 => cases hF
    | bk e1 => cases hF
    | ct e1 => cases hF
end
structure DefM (X : Cx) (x : Str) (ps : List Str) (k : Nat) (F : FnM) : Prop where
  ex : ∃ (f : Addr) (fd : FuncData), X.mg x = some (.ref f) ∧ PySem.W.keepIn X.K (.ref f) = true ∧ Binds X.K fd ps [] ∧
    FnG X.prog X.w X.K X.mg X.base (L2.CX X.prog X.w) k f fd ps (SpM (gOf X) ps.length F)
def dCallM (i : Nat) (F : FnM) (ds : Den (List PV)) : Den PV := fun e => match e[i]? with
  | some (.m _ _) => ds.bind (fun args e1 => match e1[i]? with
    | some (.m own xs) => (match F xs args with
      | some (r, ys) => some (.ok r (e1.set i (.m own ys)))
      | none => none)
    | _ => none) e
  | _ => none
section
variable {X : Cx} {W : WX} {k i : Nat} {x y : Str} {ps : List Str} {F : FnM} {p p2 pos : Pos} {es : List Expr} {ds : Den (List PV)}
theorem px_callM (D : DefM X x ps k F) (tk : Takes X W) (hr : RoomG k X.A) (hg : Gl X x) (hy : PE X (.Name y p2) (tVar i)) (ha : PAX X W es ds) {n : Nat} (hl : Len ds n) (hn : n + 1 = ps.length := by rfl) (hdb : (x == ("__debug__" : Str)) = false := by decide)
    (he : starEach (.Name y p2 :: es) X.env = (false, eval (.Name y p2) X.env) :: starEach es X.env := by rfl) (hpl : (backTo pos (starEach es X.env)).any (·.1) = false := by rfl) : PX X W (.Call (.Name x p) (.Name y p2 :: es) [] pos) (dCallM i F ds) := by
  obtain ⟨f, fd, hm, hk, hb, ok⟩ := D.ex
  refine peimp (pe_callSD (E := WE W) ok hr hg hm hk hb (dvs := []) .nil (passAt tk) (pa_cons hy ha he) hdb he hpl) fun σ H Q ⟨fr, Z, env, st, o, eo, po⟩ => ?_
  unfold dCallM at eo
  split at eo
  · rename_i own0 xs0 hx0
    obtain ⟨a, us0, ea, _, _, _, _, _⟩ := st.sl i _ hx0
    refine ⟨.ref a, ea, ?_⟩
    have a0 : At (gOf X) W fr Z env (ds.bind _) (RV (gOf X)) Q σ H := ⟨st, o, eo, po⟩
    obtain ⟨o0, e0, _⟩ := a0.bind (R := RVs (gOf X)) |>.to
    refine ⟨fr, Z, env, (a0.bind (R := RVs (gOf X))).st, o0, e0, ?_⟩
    obtain ⟨o1, e1, p1⟩ := a0.bind (R := RVs (gOf X)) |>.to
    rw [e0] at e1
    cases e1
    cases o0 with
    | ex c e1 => exact fun cls dd Z' H' s st' r => p1 cls dd Z' H' s st' r
    | ok args e1 =>
      intro ws Z1 H1 s1 st1 r1
      have la : args.length = n := hl _ _ _ e0
      obtain ⟨Z2, env2, args2, s2, r2, a2⟩ := p1 ws Z1 H1 s1 st1 r1
      obtain ⟨st2, o2, eo2, po2⟩ := a2
      have la2 : args2.length = n := by rw [← r2.length, r1.length]; exact la
      split at eo2
      · rename_i own xs hx
        cases hF : F xs args2 with
        | none => rw [hF] at eo2; cases eo2
        | some ry =>
          obtain ⟨r, ys⟩ := ry
          rw [hF] at eo2
          cases eo2
          obtain ⟨a', us, ea', n', hH', l', r', ow'⟩ := st2.sl i _ hx
          rw [ea] at ea'
          cases ea'
          refine ⟨Z2, a, ws, us, xs, args2, r, ys, by rw [List.append_nil], st2.zh, n', hH', l', r', r2, by rw [la2]; exact hn, hF, fun u Z' H' us' ex hA lA rA ru => ?_⟩
          have hmid : Ext Z2 H1 Z' (upd H' a (.lst us)) := ⟨ex.zz, fun b o q => by
            by_cases hb : b = a
            · subst hb; rw [upd_same, ← hH', q]
            · rw [upd_ne hb]; exact ex.hh b o hb q, fun b o q => by
            have hb : b ≠ a := fun z => by subst z; rw [ex.na] at q; cases q
            rw [upd_ne hb]; exact ex.zh _ _ q, fun b o q z => by
            by_cases hb : b = a
            · subst hb; exact ex.na
            · exact ex.nz b o hb q z⟩
          have st3 := (st2.ext hmid).putM (ys := ys) (vs := us') hx ea upd_same lA rA
          have eH : upd (upd H' a (.lst us)) a (.lst us') = H' := by
            funext b
            by_cases hb : b = a
            · subst hb; rw [upd_same, hA]
            · rw [upd_ne hb, upd_ne hb]
          rw [eH] at st3
          exact po2 u Z' H' ex.zz st3 ru
      · cases eo2
  · cases eo
end

/-! ### a def that makes a list of its own -/
def FnO := List PV → Option (List PV)
def SpO (g : G) (n : Nat) (F : FnO) : Sp := fun vs H Q _ => ∃ Z args xs, Same Z H ∧ Reps g Z vs args ∧ args.length = n ∧ F args = some xs ∧
  ∀ p us Z' H', Ext Z H Z' H' → Z' p = none → H p = none → H' p = some (.lst us) → us.length ≤ sizeLine → Reps g Z' us xs → Q (.ref p) H'
def fnDenO (m : Nat) (d : Den (List PV)) : FnO := fun args => match d (args.map .v ++ List.replicate (m - args.length) .un) with
  | some (.ok xs _) => some xs
  | _ => none
section
variable {P : Program} {w : World} {K : PySem.W.Frag} {mg : Str → Option Value} {base : Heap}
theorem fnO {x qual : Str} {params : Arguments} {e : Expr} {pos : Pos} {scope : Scope} {dvs : List V} {kws : List (Str × V)} {f : Addr} {fd : FuncData} {N ps : List Str} {k : Nat} {d : Den (List PV)} (F : FunD K x qual params [.Return (some e) pos] scope dvs kws f fd) (S : FnScope N ps scope)
    (hb : ∀ (cdv : Value) (A : Around) (outer : List PySem.Env) (s : Shared) (H : Hp) (E : XK), RoomG k (A.deeper (envOfC qual scope s.heap.objs.size f cdv)) →
      Takes (cxOf (L2.CX P w) P w K mg base N qual scope f cdv A outer s H E) (fun cls dd _ H' => E cls dd H') →
      PO' (cxOf (L2.CX P w) P w K mg base N qual scope f cdv A outer s H E) (fun cls dd _ H' => E cls dd H') e d) :
    FnG P w K mg base (L2.CX P w) (k + 1) f fd ps (SpO ⟨K, mg⟩ ps.length (fnDenO N.length d)) := by
  refine fnG_of F S (fun vs H Q E ⟨Z, args, xs, _, r, l, _⟩ => r.length.trans l) fun cdv A outer s H vs Q E hr h => ?_
  refine ⟨_, pss_one (ps_ret (hb cdv A outer s H E hr (takes_of rfl rfl rfl rfl))), ?_⟩
  obtain ⟨Z, args, xs, e, r, l, hF, ho⟩ := h
  have hpl : ps.length ≤ N.length := by have := congrArg List.length S.pre; rw [List.length_take] at this; omega
  have st : StOk ⟨K, mg⟩ ⟨Z, H, fun _ => False⟩ Z H (start N vs) (args.map .v ++ List.replicate (N.length - args.length) .un) := stok_start e r (by rw [r.length, l]; exact hpl)
  refine ⟨_, Z, _, st, ?_⟩
  unfold fnDenO at hF
  cases hd : d (args.map .v ++ List.replicate (N.length - args.length) .un) with
  | none => rw [hd] at hF; cases hF
  | some so =>
    rw [hd] at hF
    cases so with
    | ok v e1 =>
      cases hF
      refine ⟨_, rfl, fun u Z' H' s st' ⟨p, us, eu, n, hH, lu, ru, fn, _⟩ => ?_⟩
      subst eu
      exact ho p us Z' H' ⟨s, fun a o q => st'.fr a o q (fun z => z), st'.zh, fun a o q z => st'.nz a o q (fun z => z) z⟩ n fn hH lu ru
    | ex c e1 => cases hF
end
structure DefO (X : Cx) (x : Str) (ps : List Str) (k : Nat) (F : FnO) : Prop where
  ex : ∃ (f : Addr) (fd : FuncData), X.mg x = some (.ref f) ∧ PySem.W.keepIn X.K (.ref f) = true ∧ Binds X.K fd ps [] ∧
    FnG X.prog X.w X.K X.mg X.base (L2.CX X.prog X.w) k f fd ps (SpO (gOf X) ps.length F)
def dCallO (F : FnO) (ds : Den (List PV)) : Den (List PV) := ds.bind fun xs => Den.lift (F xs)
section
variable {X : Cx} {W : WX} {k : Nat} {x : Str} {ps : List Str} {F : FnO} {p pos : Pos} {e : Expr} {es : List Expr} {ds : Den (List PV)}
theorem po_callO (D : DefO X x ps k F) (tk : Takes X W) (hr : RoomG k X.A) (hg : Gl X x) (ha : PAX X W (e :: es) ds) {n : Nat} (hl : Len ds n) (hn : n = ps.length := by rfl) (hdb : (x == ("__debug__" : Str)) = false := by decide)
    (he : starEach (e :: es) X.env = (false, eval e X.env) :: starEach es X.env := by rfl) (hpl : (backTo pos (starEach es X.env)).any (·.1) = false := by rfl) : PO' X W (.Call (.Name x p) (e :: es) [] pos) (dCallO F ds) := by
  obtain ⟨f, fd, hm, hk, hb, ok⟩ := D.ex
  refine peimp (pe_callSD (E := WE W) ok hr hg hm hk hb (dvs := []) .nil (passAt tk) ha hdb he hpl) fun σ H Q ⟨fr, Z, env, a⟩ => ?_
  have a0 := a
  obtain ⟨o1, e1, p1⟩ := a0.bind (R := RVs (gOf X)) |>.to
  refine ⟨fr, Z, env, a.st, o1, e1, ?_⟩
  cases o1 with
  | ex c e2 => exact fun cls dd Z' H' s st' r => p1 cls dd Z' H' s st' r
  | ok args e2 =>
    intro ws Z1 H1 s1 st1 r1
    have la : args.length = n := hl _ _ _ e1
    obtain ⟨Z2, env2, args2, s2, r2, a2⟩ := p1 ws Z1 H1 s1 st1 r1
    have la2 : args2.length = n := by rw [← r2.length, r1.length]; exact la
    obtain ⟨xs, hF, kk⟩ := a2.lift
    refine ⟨Z2, args2, xs, a2.st.zh, by rw [List.append_nil]; exact r2, by rw [la2]; exact hn, hF, fun q us Z' H' ex n' hn' hH lu ru => ?_⟩
    have st3 := a2.st.ext ex
    exact kk (.ref q) Z' H' ex.zz st3 ⟨q, us, rfl, n', hH, lu, ru, a2.st.fH hn', fun m => by obtain ⟨_, ⟨o, z⟩, _⟩ := a2.st.muts m; rw [hn'] at z; cases z⟩
end

/-! ### written constants -/
section
variable {X : Cx} {W : WX} {i : Nat} {x : Str} {pos p p1 : Pos}
/-- a written tuple -/
theorem TupAt.written {K : PySem.W.Frag} {Z : Hp} {a : Addr} {vs : List V} {o : Obj} {its : Array Value} {n : Nat} (h : K.lookup a = some o) (c : o.cls = .type "tuple") (d : o.dict = none) (dt : o.data = .seq its n) (l : its.size ≤ sizeLine) (r : Vals vs its.toList) : TupAt K Z a vs :=
  .inr ⟨o, its, n, h, c, d, dt, l, r⟩
/-- a changing dict's name, for good -/
theorem px_freezeD (h : PE X (.Name x pos) (tVar i)) : PX X W (.Name x pos) (dFreezeD i) := peimp h fun σ H Q ⟨f, Z, env, st, o, e, pp⟩ => by
  unfold dFreezeD at e
  split at e
  · rename_i ks vs hx
    cases e
    obtain ⟨a, kvs, e1, n, hH, l, hk, ho, r, ow⟩ := st.sl i _ hx
    have nm : ¬ Muts σ (env.set i .un) a := fun ⟨j, c, ej, m, sj⟩ => by
      by_cases hj : i = j
      · subst hj
        rw [List.getElem?_set_self (List.getElem?_eq_some_iff.mp hx).1] at ej
        cases ej; cases m
      · rw [List.getElem?_set_ne hj] at ej
        exact hj (st.sep i j _ _ a hx ej rfl m e1 sj)
    obtain ⟨st2, zz⟩ := (st.forget (i := i)).ownZ n hH ow nm
    have hi : i < σ.length := by rw [← st.ln]; exact (List.getElem?_eq_some_iff.mp hx).1
    have rr : Rep (gOf X) (upd Z a (.dK kvs)) (.ref a) (.dic ks vs) := by
      rw [← hk]
      exact .dic (.inl upd_same) l (by rw [hk]; exact ho) (r.mono zz)
    have st3 := st2.setV rr hi
    rw [List.set_set] at st3
    have eσ : σ.set i (some (V.ref a)) = σ := by
      apply List.ext_getElem?
      intro j
      by_cases hj : i = j
      · subst hj; rw [List.getElem?_set_self hi, e1]
      · rw [List.getElem?_set_ne hj]
    rw [eσ] at st3
    exact ⟨.ref a, e1, pp _ _ H zz st3 rr⟩
  · cases e
end
end Pu
set_option Elab.async false
set_option linter.all false
set_option maxRecDepth 100000
set_option maxHeartbeats 4000000
/-! Pu, part K: sums of any kind; what stands behind the top; levels. -/
namespace Pu
open PySem PySem.Spec PyProof.Rows L2

/-! ### sums -/
def qAddG : PV → PV → Option PV
  | .int i, .int j => some (.int (i + j))
  | .str a, .str b => if a.length + b.length ≤ sizeLine ∧ PyData.strOk (a ++ b) = true then some (.str (a ++ b)) else none
  | .tup xs, .tup ys => if xs.length + ys.length ≤ 100000 then some (.tup (xs ++ ys)) else none
  | _, _ => none
def dAdd (da db : Den PV) : Den PV := da.bind fun x => db.bind fun y => Den.lift (qAddG x y)
section
variable {X : Cx} {W : WX} {a b : Expr} {da db : Den PV} {pos : Pos}
theorem px_add (ha : PX X W a da) (hb : PX X W b db) : PX X W (.BinOp a .Add b pos) (dAdd da db) := peimp (pe_op (op_add.or (op_add_str.or op_catF)) ha hb) fun σ H Q ⟨f, Z, env, at0⟩ => by
  refine (at0.bind.imp fun u H1 ⟨Z1, env1, x, s1, r1, a1⟩ => ?_).here
  refine (a1.bind.imp fun w H2 ⟨Z2, env2, y, s2, r2, a2⟩ => ?_).here
  obtain ⟨v, e, k⟩ := a2.lift
  have r1' := r1.mono s2
  clear a1 r1 at0
  suffices key : ∀ x y, Rep (gOf X) Z2 u x → Rep (gOf X) Z2 w y → qAddG x y = some v → ((fun x y H Q => (rI0 fun i j => V.int (i + j)) x y H Q ∨ (∃ i j, x = .str i ∧ y = .str j ∧ i.length + j.length ≤ sizeLine ∧ Q (.str (i ++ j)) H) ∨ rCatF X.K x y H Q) : R2) u w H2 Q by
    exact key x y r1' r2 e
  clear e r1' r2
  intro x y r1' r2 e
  unfold qAddG at e
  split at e
  · cases e; cases r1'; cases r2
    exact .inl ⟨_, _, rfl, rfl, k _ Z2 H2 (Same.refl _) a2.st (.int _)⟩
  · obtain ⟨⟨l, ok⟩, rfl⟩ := of_ite e
    cases r1'; cases r2
    exact .inr (.inl ⟨_, _, rfl, rfl, l, k _ Z2 H2 (Same.refl _) a2.st (.str _ ok)⟩)
  · rename_i xs ys
    obtain ⟨l, rfl⟩ := of_ite e
    have big : 100000 ≤ sizeLine := by decide
    generalize hx : PV.tup xs = x' at r1'
    generalize hy : PV.tup ys = y' at r2
    cases r1' with
    | @tup a' vs xs' ht l1 rv =>
      cases hx
      cases r2 with
      | @tup b' ws ys' ht2 l2 rw2 =>
        cases hy
        have z1 := rv.length
        have z2 := rw2.length
        refine .inr (.inr ⟨a', b', vs, ws, rfl, rfl, Same.sqt a2.st.zh ht.sqt, Same.sqt a2.st.zh ht2.sqt, by omega, fun e => ?_, fun _ e => ?_, fun _ _ p o n d => ?_⟩)
        · subst e
          cases rv
          exact k _ Z2 H2 (Same.refl _) a2.st (.tup ht2 l2 rw2)
        · subst e
          cases rw2
          rw [List.append_nil] at k
          exact k _ Z2 H2 (Same.refl _) a2.st (.tup ht l1 rv)
        · obtain ⟨Z3, s3, st3, r3⟩ := a2.st.tupF n d (by rw [List.length_append]; omega) (rv.append rw2)
          exact k _ Z3 _ s3 st3 r3
      | _ => cases hy
    | _ => cases hx
  · cases e
end

/-! ### what stands behind the top -/
abbrev DefK (P : Program) (w : World) (K : PySem.W.Frag) (mg : Str → Option Value) (base : Heap) (x : Str) (ps : List Str) (dv : List PV) (k : Nat) (F : Fn) : Prop :=
  ∃ (f : Addr) (fd : FuncData) (dvs : List V) (dsv : List Value), mg x = some (.ref f) ∧ PySem.W.keepIn K (.ref f) = true ∧ Binds K fd ps dsv ∧ Vals dvs dsv ∧ (∀ Z, Reps ⟨K, mg⟩ Z dvs dv) ∧
    FnG P w K mg base (L2.CX P w) k f fd ps (SpP ⟨K, mg⟩ ps.length F)
abbrev DefMK (P : Program) (w : World) (K : PySem.W.Frag) (mg : Str → Option Value) (base : Heap) (x : Str) (ps : List Str) (k : Nat) (F : FnM) : Prop :=
  ∃ (f : Addr) (fd : FuncData), mg x = some (.ref f) ∧ PySem.W.keepIn K (.ref f) = true ∧ Binds K fd ps [] ∧ FnG P w K mg base (L2.CX P w) k f fd ps (SpM ⟨K, mg⟩ ps.length F)
abbrev DefOK (P : Program) (w : World) (K : PySem.W.Frag) (mg : Str → Option Value) (base : Heap) (x : Str) (ps : List Str) (k : Nat) (F : FnO) : Prop :=
  ∃ (f : Addr) (fd : FuncData), mg x = some (.ref f) ∧ PySem.W.keepIn K (.ref f) = true ∧ Binds K fd ps [] ∧ FnG P w K mg base (L2.CX P w) k f fd ps (SpO ⟨K, mg⟩ ps.length F)
/-- a global constant -/
def GC (K : PySem.W.Frag) (mg : Str → Option Value) (x : Str) (v : PV) : Prop := ∃ (u : Value) (y : V), mg x = some u ∧ RelV y u ∧ ∀ Z, Rep ⟨K, mg⟩ Z y v
theorem px_glob {X : Cx} {W : WX} {x : Str} {v : PV} {pos : Pos} (h : GC X.K X.mg x v) (hg : Gl X x) (hd : (x == ("__debug__" : Str)) = false := by decide) : PX X W (.Name x pos) (Den.ret v) := by
  obtain ⟨u, y, hm, r, rep⟩ := h
  exact px_c (pe_glob hg hm r hd) rep
section
variable {P : Program} {w : World} {K : PySem.W.Frag} {mg : Str → Option Value} {base : Heap} {x : Str} {ps : List Str} {dv : List PV} {k : Nat}
/-- the level at which nothing is promised -/
theorem fn_none {CX : CXT} {f : Addr} {fd : FuncData} {g : G} : FnG P w K mg base CX k f fd ps (SpP g ps.length fun _ => none) :=
  ⟨fun vs H Q E ⟨_, args, _, _, r, l, _⟩ => r.length.trans l, fun _ _ _ _ _ _ _ _ _ _ _ _ _ ⟨_, _, _, _, _, _, h, _⟩ => by cases h⟩
theorem fn_noneM {CX : CXT} {f : Addr} {fd : FuncData} {g : G} : FnG P w K mg base CX k f fd ps (SpM g ps.length fun _ _ => none) :=
  ⟨fun vs H Q E ⟨Z, a, ws, us, xs, args, r, ys, ev, _, _, _, _, _, rw', l, _⟩ => by rw [ev, List.length_cons, rw'.length]; exact l, fun _ _ _ _ _ _ _ _ _ _ _ _ _ ⟨_, _, _, _, _, _, _, _, _, _, _, _, _, _, _, _, h, _⟩ => by cases h⟩
end

theorem defK_mono {P : Program} {w : World} {K : PySem.W.Frag} {mg : Str → Option Value} {base : Heap} {x : Str} {ps : List Str} {dv : List PV} {j k : Nat} {F : Fn} (h : DefK P w K mg base x ps dv j F) (l : j ≤ k) : DefK P w K mg base x ps dv k F := by
  obtain ⟨f, fd, dvs, dsv, h1, h2, h3, h4, h5, h6⟩ := h
  exact ⟨f, fd, dvs, dsv, h1, h2, h3, h4, h5, h6.mono l⟩
theorem defMK_mono {P : Program} {w : World} {K : PySem.W.Frag} {mg : Str → Option Value} {base : Heap} {x : Str} {ps : List Str} {j k : Nat} {F : FnM} (h : DefMK P w K mg base x ps j F) (l : j ≤ k) : DefMK P w K mg base x ps k F := by
  obtain ⟨f, fd, h1, h2, h3, h6⟩ := h
  exact ⟨f, fd, h1, h2, h3, h6.mono l⟩
theorem defOK_mono {P : Program} {w : World} {K : PySem.W.Frag} {mg : Str → Option Value} {base : Heap} {x : Str} {ps : List Str} {j k : Nat} {F : FnO} (h : DefOK P w K mg base x ps j F) (l : j ≤ k) : DefOK P w K mg base x ps k F := by
  obtain ⟨f, fd, h1, h2, h3, h6⟩ := h
  exact ⟨f, fd, h1, h2, h3, h6.mono l⟩
/-- a written tuple of texts and numbers -/
theorem gc_tup {K : PySem.W.Frag} {mg : Str → Option Value} {x : Str} {a : Addr} {its : Array Value} {n : Nat} {sl : Array (Option Value)} {vs : List V} {xs : List PV} (hm : mg x = some (.ref a)) (hl : K.lookup a = some ⟨.type "tuple", none, .seq its n, sl⟩)
    (hz : its.size ≤ sizeLine) (hv : Vals vs its.toList) (hr : ∀ Z, Reps ⟨K, mg⟩ Z vs xs) : GC K mg x (.tup xs) :=
  ⟨_, .ref a, hm, rfl, fun Z => .tup (.inr ⟨_, its, n, hl, rfl, rfl, rfl, hz, hv⟩) (by rw [hv.length]; simpa using hz) (hr Z)⟩
/-! ### the law -/
def spLaw (K : PySem.W.Frag) : Sp := fun vs H Q _ => ∃ (a : Addr) (ns : List Int), vs = [.ref a] ∧ SqL K H a (ns.map V.int) ∧ ns.length ≤ 63 ∧ ∀ H', Q (.bl true) H'
theorem law_imp {K : PySem.W.Frag} {mg : Str → Option Value} {F : Fn} (tr : ∀ ns : List Int, ns.length ≤ 63 → F [.lst (ns.map .int)] = some (.ok (.bl true))) (vs : List V) (H : Hp) (Q : VK) (E : XK) (h : spLaw K vs H Q E) : SpP ⟨K, mg⟩ 1 F vs H Q E := by
  obtain ⟨a, ns, rfl, hs, hl, q⟩ := h
  refine ⟨H, [.lst (ns.map .int)], _, Same.refl _, .cons (.lst hs (by rw [List.length_map]; exact Nat.le_trans hl (by decide)) (reps_int ns)) .nil, rfl, tr ns hl, fun u Z' H' _ r => ?_⟩
  cases r
  exact q H'
/-- the script's list at a is all that may be tracked -/
def one1 (a : Addr) (u : HO) : Hp := fun b => if b = a then some u else none
theorem lawG {P : Program} {w : World} {K : PySem.W.Frag} {mg mb : Str → Option Value} {k : Nat} {fa a : Addr} {fd : FuncData} {s1 : Shared} {vs : List Value} {ns : List Int}
    (KX : K.In s1.heap) (hns : s1.heap.Ns mainGlobals mg) (hb : s1.heap.Ns builtinsNs mb) (hbb : ∀ x : Str, x ≠ "__name__" → mb x = bootBuiltins x) (hlim : s1.heap.NoLimit) (hg : s1.gens = #[])
    (ha : s1.heap.get? a = some { cls := .type "list", data := .seq vs.toArray }) (hi : IntsAre vs ns) (hl : ns.length ≤ 63) (hr : RoomG k callerA)
    (F : ∀ base : Heap, K.In base → base.Ns mainGlobals mg → FnG P w K mg base (L2.CX P w) k fa fd ["script"] (spLaw K)) (hbind : ∀ (s : Shared) (u : Value), BindsTo s fd ⟨[u], []⟩ [("script", u)]) :
    codeAny (model P w) callerA (.call (.ref fa) ⟨[.ref a], []⟩) (fun r s' => r = .ok (.ret (.bool true)) ∧ PySem.OldK s1.heap s'.heap ∧ s'.os = s1.os ∧ AllBare s'.gens) s1 := by
  have rv : Vals (ns.map V.int) vs := vals_of_ints hi
  have lz : (ns.map V.int).length ≤ sizeLine := by rw [List.length_map]; exact Nat.le_trans hl (by decide)
  suffices core : ∀ H : Hp, SqL K H a (ns.map V.int) → HOk P w H s1.heap → (∀ b u, H b = some u → b = a ∧ K.lookup a = none ∧ ∃ o xs, u = .frz o (.lst xs)) →
      codeAny (model P w) callerA (.call (.ref fa) ⟨[.ref a], []⟩) (fun r s' => r = .ok (.ret (.bool true)) ∧ PySem.OldK s1.heap s'.heap ∧ s'.os = s1.os ∧ AllBare s'.gens) s1 by
    cases hk : K.lookup a with
    | some o =>
      have e := KX a o hk
      rw [ha] at e
      cases e
      exact core (fun _ => none) (.inr ⟨_, vs.toArray, _, hk, rfl, rfl, rfl, by rw [List.size_toArray, ← rv.length]; exact lz, by simpa using rv⟩) (fun b u z => by cases z) fun b u z => by cases z
    | none =>
      refine core (one1 a (.frz { cls := .type "list", data := .seq vs.toArray } (.lst (ns.map V.int)))) (.inl (.inr ⟨_, if_pos rfl⟩)) (fun b u z => ?_) fun b u z => ?_
      · unfold one1 at z
        split at z
        · rename_i hb'
          cases z
          subst hb'
          exact ⟨ha, lz, vs, 0, rv, ha⟩
        · cases z
      · unfold one1 at z
        split at z
        · rename_i hb'
          cases z
          exact ⟨hb', hk, _, _, rfl⟩
        · cases z
  intro H hS hok only
  have free : ∀ {b : Addr} {o : Obj}, s1.heap.get? b = some o → (b = a → False) → (hidT s1.heap H).get? b = some o := fun {b o} e n => hidT_get e (by
    cases q : H b with
    | none => rfl
    | some u => exact (n (only b u q).1).elim)
  have notA : ∀ {b : Addr} {m : Str → Option Value}, s1.heap.Ns b m → b ≠ a := fun {b m} ⟨o, es, ep, e, d, _⟩ z => by
    subst z
    rw [ha] at e
    cases e
    cases (show Data.seq vs.toArray _ = Data.dict es ep from d)
  have nsB : ∀ {b : Addr} {m : Str → Option Value}, s1.heap.Ns b m → (hidT s1.heap H).Ns b m := fun {b m} h => by
    have n := notA h
    obtain ⟨o, es, ep, e, d, r⟩ := h
    exact ⟨o, es, ep, free e n, d, r⟩
  have kB : K.In (hidT s1.heap H) := fun b o e => hidT_get (KX b o e) (by
    cases q : H b with
    | none => rfl
    | some u =>
      obtain ⟨rfl, hk, _⟩ := only b u q
      rw [hk] at e; cases e)
  have md : Mod K mg (hidT s1.heap H) := ⟨kB, nsB hns, ⟨mb, nsB hb, hbb⟩, by obtain ⟨mc, h1, h2⟩ := hlim; exact ⟨mc, nsB h1, h2⟩⟩
  have e0 : Env0 P w K mg (hidT s1.heap H) callerA [] s1 H := ⟨rfl, md, fun b o e => of_hidT e, Nat.le_of_eq (hidT_size _ _), trivial, fun b hb => (List.not_mem_nil hb).elim, hok, .of_eq hg⟩
  have run := (F _ kB (nsB hns)).run callerA [] s1 H ⟨[.ref a], []⟩ [.ref a] [.ref a] (fun v _ => v = .bl true) (fun _ _ _ => False) hr e0 (hbind s1 (.ref a)) (.cons rfl .nil) ⟨a, ns, rfl, hS, hl, fun _ => rfl⟩
  refine codeAny_mono run fun r s' h => ?_
  cases r with
  | error e =>
    obtain ⟨_, _, _, _, _, _, _, _, _, _, _, _, z⟩ := h
    exact z.elim
  | ok fl =>
    cases fl with
    | ret u =>
      obtain ⟨v, H', os, bare, un, hok', r', q⟩ := h
      cases (show v = .bl true from q)
      cases (show u = Value.bool true from r')
      refine ⟨rfl, OldK.of_keep fun b o e => ?_, os, bare⟩
      cases qb : H b with
      | none => exact un.keep b o e qb (fun z => (List.not_mem_nil z).elim) (fun z => (List.not_mem_nil z).elim)
      | some u =>
        obtain ⟨_, _, ob, xs, rfl⟩ := only b u qb
        have k1 := (hok b _ qb).1
        have k2 := (hok' b _ (un.frzs b ob _ qb)).1
        rw [e] at k1
        cases k1
        exact k2
    | next => exact False.elim h
    | brk => exact False.elim h
    | cont => exact False.elim h
theorem walkP {l : PySem.W.OpenLaw} {k : Nat} {q : Program} {loose : List Str} {XP : (Str → Option Value) → Heap → Prop} {YP : World → Heap → Prop} {d : DefRec} {K : Params → PySem.W.Frag} (hn : l.most = some 63) (hdf : d.params.defaults = []) (hr : RoomG k callerA)
    (hY : ∀ (w : World) (h : Heap), YP w h → (K w.params).In h)
    (F : ∀ (w : World) (mg : Str → Option Value) (fa : Addr) (h : Heap), (K w.params).In h → h.Ns mainGlobals mg → mg d.name = some (.ref fa) →
      ∃ fd : FuncData, (∀ (s : Shared) (u : Value), BindsTo s fd ⟨[u], []⟩ [("script", u)]) ∧ ∀ base : Heap, (K w.params).In base → base.Ns mainGlobals mg → FnG l.prog w (K w.params) mg base (L2.CX l.prog w) k fa fd ["script"] (spLaw (K w.params))) :
    PySem.W.WalkO q loose XP YP l.row.toRowW d [] (fun f vs => PySem.call f vs) :=
  Att.attach_call hn hdf fun w s0 s1 mg mb fa o pm cd doc a vs ns G Y _ _ _ hmg hobj hints hlen hg => by
    have KX := hY w _ Y
    obtain ⟨fd, hb, hF⟩ := F w mg fa _ KX G.T.g hmg
    exact lawG KX G.T.g G.T.b G.T.builtins G.T.nolimit hg hobj hints hlen hr hF hb
end Pu
set_option Elab.async false
set_option linter.all false
set_option maxRecDepth 100000
set_option maxHeartbeats 4000000
/-! Pu, part L: while. -/
namespace Pu
open PySem PySem.Spec PyProof.Rows L2

/-- at most n turns -/
def sWhile (c : Den PV) (b : SDen) : Nat → SDen
  | 0 => fun _ => none
  | n + 1 => fun e => match c e with
    | some (.ok (.bl true) e1) => (match b e1 with
      | some (.nx e2) => sWhile c b n e2
      | some (.ct e2) => sWhile c b n e2
      | some (.bk e2) => some (.nx e2)
      | o => o)
    | some (.ok (.bl false) e1) => some (.nx e1)
    | some (.ex x e1) => some (.ex x e1)
    | _ => none
section
variable {X : Cx} {W : WX} {c : Expr} {body : List Stmt} {pos : Pos} {dc : Den PV} {db : SDen}
theorem psx_while (n : Nat) (hp : PassesOwn (model X.prog X.w) X.A X.env X.xe) (hc : PTX X W c dc) (hb : PSsX X W body db) : PSX X W (.While c body [] pos) (sWhile dc db n) :=
  psimp (ps_while hp hc hb) fun D σ H ⟨f, Z, env, a⟩ => by
    refine ⟨fun m σ H => ∃ Z1 env1, SAt (gOf X) W f Z1 env1 (sWhile dc db m) D σ H, ⟨n, Z, env, a⟩, ?_⟩
    rintro m σ H ⟨Z1, env1, st, o, eo, po⟩
    cases m with
    | zero => cases eo
    | succ m =>
      refine ⟨f, Z1, env1, st, ?_⟩
      unfold sWhile at eo
      cases hd : dc env1 with
      | none => simp only [hd] at eo; cases eo
      | some oc =>
        cases oc with
        | ex x e1 =>
          simp only [hd] at eo
          cases eo
          exact ⟨_, rfl, fun cls dd Z' H' s st' r => po cls dd σ Z' H' s st' r⟩
        | ok v e1 =>
          refine ⟨_, rfl, fun u Z2 H2 s2 st2 r2 => ?_⟩
          cases v with
          | bl b =>
            cases r2
            refine ⟨b, rfl, ?_⟩
            cases b with
            | false =>
              simp only [hd] at eo
              cases eo
              rw [if_neg Bool.false_ne_true]
              exact po σ Z2 H2 s2 st2
            | true =>
              simp only [hd] at eo
              rw [if_pos rfl]
              refine ⟨fun σ' H' => ∃ Z3 env3, SAt (gOf X) W f Z3 env3 (sWhile dc db m) D σ' H', fun σ' H' h => ⟨m, Nat.lt_succ_self m, h⟩, f, Z2, e1, st2, ?_⟩
              cases hb' : db e1 with
              | none => rw [hb'] at eo; cases eo
              | some ob =>
                rw [hb'] at eo
                refine ⟨_, rfl, ?_⟩
                have po := po.weak s2
                cases ob with
                | nx e2 => exact fun σ' Z' H' s st' => ⟨Z', e2, st', o, eo, po.weak s⟩
                | ct e2 => exact fun σ' Z' H' s st' => ⟨Z', e2, st', o, eo, po.weak s⟩
                | bk e2 => cases eo; exact po
                | rt v e2 => cases eo; exact po
                | ex x e2 => cases eo; exact po
          | _ => simp only [hd] at eo; cases eo
end
end Pu
set_option Elab.async false
set_option linter.all false
set_option maxRecDepth 100000
set_option maxHeartbeats 4000000
/-! Pu, part M: changing lists and dicts, read and taken from. -/
namespace Pu
open PySem PySem.Spec PyProof.Rows L2

/-- len(name) of a changing list -/
def dLenM (i : Nat) : Den PV := fun e => match e[i]? with
  | some (.m _ xs) => some (.ok (.int xs.length) e)
  | _ => none
/-- name.pop() -/
def dPopM (i : Nat) : Den PV := fun e => match e[i]? with
  | some (.m own xs) => (match xs[xs.length - 1]? with
    | some x => some (.ok x (e.set i (.m own xs.dropLast)))
    | none => none)
  | _ => none
theorem Reps.dropLast {g : G} {Z : Hp} : ∀ {vs : List V} {xs : List PV}, Reps g Z vs xs → Reps g Z vs.dropLast xs.dropLast
  | _, _, .nil => .nil
  | _, _, .cons a .nil => .nil
  | _, _, .cons a (.cons b c) => .cons a (Reps.dropLast (.cons b c))
section
variable {X : Cx} {W : WX} {i : Nat} {x : Str} {p p2 pos apos cpos : Pos}
theorem px_lenM (hg : Gl X "len") (hm : X.mg "len" = none) (h : PE X (.Name x p) (tVar i)) (he : starEach [.Name x p] X.env = (false, eval (.Name x p) X.env) :: starEach [] X.env := by rfl) (hpl : (backTo pos (starEach [] X.env)).any (·.1) = false := by rfl) : PX X W (.Call (.Name "len" p2) [.Name x p] [] pos) (dLenM i) :=
  peimp (pe_callB call_lenP hg hm PySem.boot_len (pa_cons h pa_nil he) (by decide) (by decide) he hpl) fun σ H Q ⟨f, Z, env, st, o, e, pp⟩ => by
    unfold dLenM at e
    split at e
    · rename_i own xs hx
      cases e
      obtain ⟨a, vs, e1, n, hH, l, r, ow⟩ := st.sl i _ hx
      refine ⟨.ref a, e1, .inl ⟨a, vs, rfl, .inl (SqL.of hH), ?_⟩⟩
      rw [r.length]
      exact pp _ Z H (Same.refl _) st (.int _)
    · cases e
theorem px_popM (h : PE X (.Name x p) (tVar i))
    (hbase : attributeBase (.Name x p) "pop" X.env (eval (.Name x p) X.env) = eval (.Name x p) X.env := by rfl) (hline : (apos.endLine == cpos.line) = true := by rfl) :
    PX X W (.Call (.Attribute (.Name x p) "pop" apos) [] [] cpos) (dPopM i) :=
  peimp (pe_bm0 PySem.F.plainAttrs_list PySem.F.slot_list_pop PySem.F.type_list_pop mt_pop h hbase hline) fun σ H Q ⟨f, Z, env, st, o, e, pp⟩ => by
    unfold dPopM at e
    split at e
    · rename_i own xs hx
      obtain ⟨a, vs, e1, n, hH, l, r, ow⟩ := st.sl i _ hx
      cases hl : xs[xs.length - 1]? with
      | none => rw [hl] at e; cases e
      | some y =>
        rw [hl] at e
        cases e
        have hl' := hl
        rw [← r.length] at hl'
        obtain ⟨v, hv, rv⟩ := r.get' hl'
        refine ⟨.ref a, e1, .inl ⟨rfl, _, SqL.of hH⟩, a, vs, v, rfl, rfl, hH, hv, ?_⟩
        exact pp v Z _ (Same.refl _) (st.putM hx e1 hH (by rw [List.length_dropLast]; omega) r.dropLast) rv
    · cases e
end
end Pu
set_option Elab.async false
set_option linter.all false
set_option maxRecDepth 100000
set_option maxHeartbeats 4000000
/-! Pu, part N: keys in changing dicts; items of dicts. -/
namespace Pu
open PySem PySem.Spec PyProof.Rows L2

def rInK (neg : Bool) : R2 := fun x y H Q => ∃ (a : Addr) (kvs : List (L2.Key × V)) (k : L2.Key), y = .ref a ∧ x = kV k ∧ Rd H a (.dK kvs) ∧ Q (.bl (neg ^^ (valV kvs k).isSome)) H
section
variable {X : Cx} {k : Nat}
theorem op_inDK (hr : RoomG k X.A) : OpR X (compareOp .In) (rInK false) := by
  intro pins s σ H x y v u Q I rx ry h
  obtain ⟨a, kvs, kk, rfl, rfl, hd, q⟩ := h
  cases ry
  exact d_in (by have := hr.un; omega) I (.inl ⟨kvs, kk, hd, rfl, rfl⟩) rx fun s' I' => ⟨.bl _, H, I', rfl, by simpa using q⟩
theorem op_notInDK (hr : RoomG k X.A) : OpR X (compareOp .NotIn) (rInK true) := by
  intro pins s σ H x y v u Q I rx ry h
  obtain ⟨a, kvs, kk, rfl, rfl, hd, q⟩ := h
  cases ry
  exact d_notIn (by have := hr.un; omega) I (.inl ⟨kvs, kk, hd, rfl, rfl⟩) rx fun s' I' => ⟨.bl _, H, I', rfl, by simpa using q⟩
end
/-- k in name, name a changing dict -/
def dInM (neg : Bool) (i : Nat) (da : Den PV) : Den PV := da.bind fun x e => match e[i]?, x.key with
  | some (.d _ ks vs), some k => some (.ok (.bl (neg ^^ (getP (ks.zip vs) k).isSome)) e)
  | _, _ => none
theorem RepK.some {g : G} {Z : Hp} {kvs : List (L2.Key × V)} {kps : KP} (h : RepK g Z kvs kps) (k : L2.Key) : (valV kvs k).isSome = (getP kps k).isSome := by
  cases e : getP kps k with
  | none => rw [h.getN e]; rfl
  | some x => obtain ⟨v, e2, _⟩ := h.get e; rw [e2]; rfl
section
variable {X : Cx} {W : WX} {i k : Nat} {x : Str} {a : Expr} {da : Den PV} {p pos : Pos}
theorem t_inM {neg : Bool} {σ : L2.St} {H : Hp} {Q : VK} (h : tP (gOf X) W (dInM neg i da) σ H Q) : tOp (rInK neg) (tP (gOf X) W da) (tVar i) σ H Q := by
  obtain ⟨f, Z, env, a⟩ := h
  refine (a.bind.imp fun u H1 ⟨Z1, env1, y, s1, r1, a1⟩ => ?_).here
  obtain ⟨st, o, e, pp⟩ := a1
  split at e
  · rename_i own ks vs kk hx hk
    cases e
    obtain ⟨b, kvs, e1, n, hH, l, hks, ho, r, ow⟩ := st.sl i _ hx
    obtain ⟨rfl, ok⟩ := PV.key_of r1 hk
    obtain ⟨k1, k2, k3⟩ := RepK.of hks ho r
    refine ⟨.ref b, e1, b, kvs, kk, rfl, rfl, .inl hH, ?_⟩
    rw [k1.some kk]
    exact pp _ Z1 H1 (Same.refl _) st (.bl _)
  · cases e
theorem px_inM (hr : RoomG k X.A) (ha : PX X W a da) (h : PE X (.Name x p) (tVar i)) : PX X W (.Compare a [.In] [.Name x p] pos) (dInM false i da) := peimp (pe_cmpR (op_inDK hr) ha h (by with_unfolding_all rfl)) fun _ _ _ h => t_inM h
theorem px_notInM (hr : RoomG k X.A) (ha : PX X W a da) (h : PE X (.Name x p) (tVar i)) : PX X W (.Compare a [.NotIn] [.Name x p] pos) (dInM true i da) := peimp (pe_cmpR (op_notInDK hr) ha h (by with_unfolding_all rfl)) fun _ _ _ h => t_inM h
theorem ptx_inM (hr : RoomG k X.A) (ha : PX X W a da) (h : PE X (.Name x p) (tVar i)) : PTX X W (.Compare a [.In] [.Name x p] pos) (dInM false i da) := ptimp (pt_cmpR (op_inDK hr) ha h (by with_unfolding_all rfl)) fun _ _ _ h => tB_imp (fun _ h => t_inM h) h
theorem ptx_notInM (hr : RoomG k X.A) (ha : PX X W a da) (h : PE X (.Name x p) (tVar i)) : PTX X W (.Compare a [.NotIn] [.Name x p] pos) (dInM true i da) := ptimp (pt_cmpR (op_notInDK hr) ha h (by with_unfolding_all rfl)) fun _ _ _ h => tB_imp (fun _ h => t_inM h) h
end
/-- name[k] = v, name a changing dict -/
def sSetKM (i : Nat) (dv dk : Den PV) : SDen := sOf dv fun v e0 => match e0[i]? with
  | some (.d _ _ _) => sOf dk (fun y e => match e[i]?, y.key with
    | some (.d own ks vs), some k => if ks.length < sizeLine then some (.nx (e.set i (.dOf own (putP (ks.zip vs) k v)))) else none
    | _, _ => none) e0
  | _ => none
section
variable {X : Cx} {W : WX} {i k : Nat} {x : Str} {e b : Expr} {dv dk : Den PV} {p pos pos' : Pos}
theorem psx_setKM (hr : RoomG k X.A) (h : PE X (.Name x p) (tVar i)) (hv : PX X W e dv) (hk : PX X W b dk)
    (ha : ∀ v, assign (.Subscript (.Name x p) b pos) X.env v = (do
      let ov ← holding [v] (eval (.Name x p) X.env)
      let iv ← holding [v, ov] (eval b X.env)
      standAt pos
      holding [v, ov, iv] (setItem ov iv v)
      release [v, ov, iv] []) := by intro _; rfl) (hs : swapsWithSole [.Subscript (.Name x p) b pos] e pos'.line X.env = pure false := by rfl) (hw : swappedStores [.Subscript (.Name x p) b pos] e X.env = pure none := by rfl)
    (h1 : (assignEach [.Subscript (.Name x p) b pos] X.env).map (·.2) = [assign (.Subscript (.Name x p) b pos) X.env] := by rfl) : PSX X W (.Assign [.Subscript (.Name x p) b pos] e pos') (sSetKM i dv dk) :=
  psimp (ps_asg hv (pg_sub h hk (set_dict (by have := hr.un; omega)) ha) hs hw h1) fun D σ H ⟨f, Z, env, a⟩ => by
    refine (a.of.imp fun u H1 ⟨Z1, env1, v, s1, r1, a1⟩ => ?_).here
    obtain ⟨st1, o1, e1, p1⟩ := a1
    split at e1
    · rename_i own ks vs hx
      obtain ⟨q, kvs, eq, n, hH, l, hks, ho, r, ow⟩ := st1.sl i _ hx
      refine ⟨.ref q, eq, ?_⟩
      have a2 : SAt (gOf X) W f Z1 env1 (sOf dk _) D σ H1 := ⟨st1, o1, e1, p1⟩
      refine (a2.of.imp fun w H2 ⟨Z2, env2, y, s2, r2, a3⟩ => ?_).here
      obtain ⟨st2, o2, e2, p2⟩ := a3
      split at e2
      · rename_i own' ks' vs' kk hx' hkk
        split at e2
        · rename_i hl
          cases e2
          obtain ⟨q', kvs', eq', n', hH', l', hks', ho', r', ow'⟩ := st2.sl i _ hx'
          rw [eq] at eq'
          cases eq'
          obtain ⟨rfl, ok⟩ := PV.key_of r2 hkk
          obtain ⟨k1, k2, k3⟩ := RepK.of hks' ho' r'
          have kp := k1.put (k := kk) ok (r1.mono s2)
          obtain ⟨m1, m2, m3⟩ := kp.parts
          have lz : kvs'.length < sizeLine := by rw [← hks', List.length_map] at hl; exact hl
          refine ⟨q, _, rfl, .inl ⟨kvs', kk, hH', rfl, lz, rfl⟩, ?_⟩
          refine p2 σ Z2 _ (Same.refl _) (st2.putC hx' rfl rfl eq ⟨q, _, eq, n', upd_same, Nat.le_trans (length_putK kvs' kk u) lz, m1, by rw [← m1]; exact m2, m3, ow'⟩)
        · cases e2
      · cases e2
    · cases e1
end
end Pu
set_option Elab.async false
set_option linter.all false
set_option maxRecDepth 100000
set_option maxHeartbeats 4000000
/-! Pu, part O: repr of data. -/
namespace Pu
open PySem PySem.Spec PyProof.Rows L2

/-- data that repr shows -/
def PV.shows (x : PV) : Bool := x.plain && decide (x.depth ≤ 190) && x.toD.showable && !x.toD.hasDict && decide (x.toD.shown.length ≤ sizeLine) && PyData.strOk x.toD.shown
def qRepr1 : PV → Option PV
  | .tup xs => if (PV.tup xs).shows = true then some (.str (PV.tup xs).toD.shown) else none
  | .lst xs => if (PV.lst xs).shows = true then some (.str (PV.lst xs).toD.shown) else none
  | _ => none
abbrev qRepr := one qRepr1
section
variable {X : Cx} {W : WX} {k : Nat} {a : Expr} {ds : Den (List PV)} {p pos : Pos}
def rRep (K : PySem.W.Frag) : List V → Hp → VK → Prop := fun xs H Q => ∃ (a : Addr) (d : PyData), xs = [.ref a] ∧ Dp K H (.ref a) d ∧ d.showable = true ∧ d.hasDict = false ∧ d.depth ≤ 190 ∧ d.shown.length ≤ sizeLine ∧ Q (.str d.shown) H
theorem call_repr (hr : RoomG k X.A) : CallR X (.builtin "repr") (rRep X.K) := by
  intro pins s σ H xs us Q I r h
  obtain ⟨a, d, rfl, hd, h1, h2, h3, h4, q⟩ := h
  obtain ⟨u, rfl, rx⟩ := vals1 r
  obtain ⟨as, r1⟩ := Dp.reads I d (.ref a) u hd rx
  cases rx
  refine repr_of_reads' (h₀ := s.heap) r1 h1 (fun z => by rw [h2] at z; cases z) hr.gd (by have := hr.un; omega) (fun _ _ e => e) (fun h' u tk kp => ?_) h4
  exact ⟨.str d.shown, H, I.kept (t' := tk) kp, ⟨u, rfl⟩, q⟩
theorem shows_all {x : PV} (h : x.shows = true) : x.plain = true ∧ x.depth ≤ 190 ∧ x.toD.showable = true ∧ x.toD.hasDict = false ∧ x.toD.shown.length ≤ sizeLine ∧ PyData.strOk x.toD.shown = true := by
  unfold PV.shows at h
  simp only [Bool.and_eq_true, decide_eq_true_eq, Bool.not_eq_true'] at h
  obtain ⟨⟨⟨⟨⟨h1, h2⟩, h3⟩, h4⟩, h5⟩, h6⟩ := h
  exact ⟨h1, h2, h3, h4, h5, h6⟩
theorem reprP : CallP (gOf X) W (rRep X.K) qRepr := by
  refine callP_one fun f Z env σ H u x v Q st ru e kk => ?_
  have fin : ∀ a', u = .ref a' → x.shows = true → v = .str x.toD.shown → rRep X.K [u] H Q := fun a' eu hs ev => by
    subst eu ev
    obtain ⟨h1, h2, h3, h4, h5, h6⟩ := shows_all hs
    obtain ⟨d1, c1⟩ := ru.dp st.zh h1
    exact ⟨a', x.toD, rfl, d1, h3, h4, by rw [toD_depth x h1]; exact h2, h5, kk _ Z H (Same.refl _) st (.str _ h6)⟩
  cases x with
  | tup xs =>
    obtain ⟨hs, rfl⟩ := of_ite (show (if (PV.tup xs).shows = true then some (PV.str (PV.tup xs).toD.shown) else none) = some v from e)
    cases ru with | tup h l rv => exact fin _ rfl hs rfl
  | lst xs =>
    obtain ⟨hs, rfl⟩ := of_ite (show (if (PV.lst xs).shows = true then some (PV.str (PV.lst xs).toD.shown) else none) = some v from e)
    cases ru with | lst h l rv => exact fin _ rfl hs rfl
  | _ => cases e
theorem px_repr (hr : RoomG k X.A) (hg : Gl X "repr") (hm : X.mg "repr" = none) (ha : PAX X W [a] ds) (he : starEach [a] X.env = (false, eval a X.env) :: starEach [] X.env := by rfl) : PX X W (.Call (.Name "repr" p) [a] [] pos) (dArgs qRepr ds) :=
  px_callB (call_repr hr) reprP hg hm (by decide +kernel) ha (he := he)
end
end Pu
set_option Elab.async false
set_option linter.all false
set_option maxRecDepth 100000
set_option maxHeartbeats 4000000
/-! Pu, part P: name += e of numbers. -/
namespace Pu
open PySem PySem.Spec PyProof.Rows L2

/-- name op= e of numbers -/
def sAugI (i : Nat) (k : Int → Int → Int) (de : Den PV) : SDen := fun e0 => match e0[i]? with
  | some (.v (.int x)) => sOf de (fun y e => match y with
    | .int z => some (.nx (e.set i (.v (.int (k x z)))))
    | _ => none) e0
  | _ => none
section
variable {X : Cx} {W : WX} {i : Nat} {x : Str} {e : Expr} {de : Den PV} {pos pos' : Pos} {op : Operator} {k : Int → Int → Int}
theorem psx_augI (hp : PIp X op (ipI k)) (hN : X.N.Nodup) (hi : X.N[i]? = some x) (hx : Loc X.env.scope x) (h : PX X W e de) (hf : X.fn x = true ∨ X.env.scope.names.lookup x = some .local := by first | exact .inl rfl | exact .inr rfl | assumption) :
    PSX X W (.AugAssign (.Name x pos') op e pos) (sAugI i k de) := by
  refine ⟨fun pins s σ H D I ⟨f, Z, env, st, o, eo, po⟩ => (ps_aug hN hi hx h hp hf).run pins s σ H D I ?_⟩
  have hσ : i < σ.length := by rw [I.len]; exact (List.getElem?_eq_some_iff.mp hi).1
  unfold sAugI at eo
  split at eo
  · rename_i n hn
    obtain ⟨v, e1, r⟩ := st.sl i _ hn
    cases r
    refine ⟨.int n, e1, ?_⟩
    have a : SAt (gOf X) W f Z env (sOf de _) D σ H := ⟨st, o, eo, po⟩
    refine (a.of.imp fun w H1 ⟨Z1, env1, y, s1, r1, a1⟩ => ?_).here
    obtain ⟨st1, o1, e2, p1⟩ := a1
    split at e2
    · rename_i z
      cases e2
      cases r1
      exact ⟨n, z, rfl, rfl, p1 _ Z1 H1 (Same.refl _) (st1.setV (.int _) hσ)⟩
    · cases e2
  · cases eo
theorem psx_add (hN : X.N.Nodup) (hi : X.N[i]? = some x) (hx : Loc X.env.scope x) (h : PX X W e de) (hf : X.fn x = true ∨ X.env.scope.names.lookup x = some .local := by first | exact .inl rfl | exact .inr rfl | assumption) :
    PSX X W (.AugAssign (.Name x pos') .Add e pos) (sAugI i (fun a b => a + b) de) := psx_augI ip_add hN hi hx h hf
end
end Pu
set_option Elab.async false
set_option linter.all false
set_option maxRecDepth 100000
set_option maxHeartbeats 4000000
/-! Pu, part Q: name.extend of a list of its own. -/
namespace Pu
open PySem PySem.Spec PyProof.Rows L2

def dExtM (i : Nat) (d : Den (List PV)) : Den PV := fun e => match e[i]? with
  | some (.m _ _) => d.bind (fun ys e1 => match e1[i]? with
    | some (.m own xs) => if xs.length + ys.length ≤ sizeLine then some (.ok .non (e1.set i (.m own (xs ++ ys)))) else none
    | _ => none) e
  | _ => none
section
variable {X : Cx} {W : WX} {i : Nat} {x : Str} {e : Expr} {d : Den (List PV)} {p apos cpos : Pos}
theorem px_extM (h : PE X (.Name x p) (tVar i)) (ha : PO' X W e d)
    (hbase : attributeBase (.Name x p) "extend" X.env (eval (.Name x p) X.env) = eval (.Name x p) X.env := by rfl)
    (hfew : ((backTo cpos (starEach [e] X.env)).all (fun x => !x.1) && (backToKw cpos (keywordEach [] X.env)).all (fun x => x.1.isSome)
      && decide ([e].length + ([] : List Keyword).length + (if ([] : List Keyword).isEmpty then 0 else 1) < 30)) = true := by rfl)
    (hline : (apos.endLine == cpos.line) = true := by rfl) (hs : starEach [e] X.env = (false, eval e X.env) :: starEach [] X.env := by rfl) (hplain : (backTo cpos (starEach [] X.env)).any (·.1) = false := by rfl) :
    PX X W (.Call (.Attribute (.Name x p) "extend" apos) [e] [] cpos) (dExtM i d) :=
  peimp (pe_bm PySem.F.plainAttrs_list PySem.F.slot_list_extend PySem.F.type_list_extend mt_extend h (pa_cons ha pa_nil hs) hbase hfew hline hs hplain) fun σ H Q ⟨f, Z, env, st, o, e, pp⟩ => by
    unfold dExtM at e
    split at e
    · rename_i own xs hx
      obtain ⟨a, vs, e1, n, hH, l, r, ow⟩ := st.sl i _ hx
      refine ⟨.ref a, e1, .inl ⟨rfl, _, SqL.of hH⟩, ?_⟩
      have a0 : At (gOf X) W f Z env (d.bind _) (RV (gOf X)) Q σ H := ⟨st, o, e, pp⟩
      refine ⟨f, Z, env, a0.bind.imp fun u H1 ⟨Z1, env1, ys, s1, r1, a1⟩ => ?_⟩
      obtain ⟨q, us, rfl, nq, hq, lq, rq, fq, mq⟩ := r1
      obtain ⟨st2, o2, e2, p2⟩ := a1
      split at e2
      · rename_i own' xs' hx'
        split at e2
        · rename_i hl
          cases e2
          obtain ⟨a', vs', e1', n', hH', l', r', ow'⟩ := st2.sl i _ hx'
          rw [e1] at e1'
          cases e1'
          have lv : vs'.length + us.length ≤ sizeLine := by rw [r'.length, rq.length]; exact hl
          refine ⟨a, q, vs', us, rfl, rfl, hH', hq, lv, ?_⟩
          exact p2 .non Z1 _ (Same.refl _) (st2.putM hx' e1 hH' (by rw [List.length_append]; exact lv) (r'.append rq)) .non
        · cases e2
      · cases e2
    · cases e
end
end Pu
set_option Elab.async false
set_option linter.all false
set_option maxRecDepth 100000
set_option maxHeartbeats 4000000
/-! Pu, part R: fields of instances. -/
namespace Pu
open PySem PySem.Spec PyProof.Rows L2

/-- what the top has written of a class whose instances keep fields: no class of it has the names fs -/
def ClsF (K : PySem.W.Frag) (mg : Str → Option Value) (c : Str) (fs : List Str) : Prop := ∃ C : Addr, mg c = some (.ref C) ∧ Cls K C ∧ ∀ f ∈ fs, NoAttr K C f
def fldOf (f : Str) : List Str → List PV → Option PV
  | n :: ns, x :: xs => if f == n then some x else fldOf f ns xs
  | _, _ => none
/-- e.f, e an instance of one of the classes cs -/
def dFld (cs : List Str) (f : Str) (da : Den PV) : Den PV := da.bind fun x => Den.lift (match x with
  | .ins c ns vs => if c ∈ cs then fldOf f ns vs else none
  | _ => none)
theorem Reps.fld {g : G} {Z : Hp} {f : Str} : ∀ {fs : List (Str × V)} {vs : List PV} {y : PV}, Reps g Z (fs.map (·.2)) vs → fldOf f (fs.map (·.1)) vs = some y → ∃ v, fs.lookup f = some v ∧ Rep g Z v y
  | [], vs, y, r, e => by cases r; cases e
  | (n, v) :: fs, vs, y, r, e => by
    rw [List.map_cons] at r e
    cases r with
    | cons a b =>
      have e : (if f == n then some _ else fldOf f (fs.map (·.1)) _) = some y := e
      by_cases h : (f == n) = true
      · rw [if_pos h] at e
        cases e
        exact ⟨v, by rw [List.lookup_cons, h], a⟩
      · rw [if_neg h] at e
        obtain ⟨w, h1, h2⟩ := Reps.fld b e
        have h : (f == n) = false := by simpa using h
        exact ⟨w, by rw [List.lookup_cons, h]; exact h1, h2⟩
section
variable {X : Cx} {W : WX} {e : Expr} {de : Den PV} {f : Str} {cs : List Str} {pos : Pos}
theorem px_fld (hc : ∀ c ∈ cs, ClsF X.K X.mg c [f]) (he : PX X W e de) (hb : attributeBase e f X.env (eval e X.env) = eval e X.env := by rfl) : PX X W (.Attribute e f pos) (dFld cs f de) :=
  peimp (pe_fld he hb) fun σ H Q ⟨fr, Z, env, a⟩ => (a.bind.imp fun u H1 ⟨Z1, env1, x, s1, r1, a1⟩ => by
    obtain ⟨y, e, k⟩ := a1.lift
    cases x with
    | ins c ns vs =>
      obtain ⟨hm, e⟩ : c ∈ cs ∧ fldOf f ns vs = some y := by
        have e : (if c ∈ cs then fldOf f ns vs else none) = some y := e
        by_cases h : c ∈ cs
        · rw [if_pos h] at e; exact ⟨h, e⟩
        · rw [if_neg h] at e; cases e
      obtain ⟨C, h1, h2, h3⟩ := hc c hm
      cases r1 with
      | @ins a C' dx _ fs _ hz hg rv =>
        rw [show X.mg c = some (.ref C') from hg] at h1
        cases h1
        obtain ⟨v, l1, l2⟩ := rv.fld e
        exact ⟨a, C, dx, fs, v, rfl, a1.st.zh _ _ hz, h2, h3 f (List.mem_singleton.mpr rfl), l1, k v Z1 H1 (Same.refl _) a1.st l2⟩
    | _ => cases e).here
end
end Pu
set_option Elab.async false
set_option linter.all false
set_option maxRecDepth 100000
set_option maxHeartbeats 4000000
/-! Pu, part S: making an instance. -/
namespace Pu
open PySem PySem.Spec PyProof.Rows L2
theorem RoomG.make {k : Nat} {A : Around} (r : RoomG (k + 1) A) (C : Addr) (us : List Value) (kw : List (Str × Value)) : RoomG k (A.under (.builtin "type.__call__" ⟨.ref C :: us, kw⟩)) := ⟨r.toRoom.make C us kw, r.gd⟩
section
variable {X : Cx} {CX : CXT} {E : XK} {k : Nat} {f C : Addr} {fd : FuncData} {ps : List Str} {sp : Sp} {dvs : List V} {ds : List Value}
theorem run_makeG {pins : List (Addr × Obj)} {σ : L2.St} {H : Hp} {s : Shared} {Q : VK} {us : List Value} {vs : List V} (M : Mk X.K C f) (F : FnG X.prog X.w X.K X.mg X.base CX k f fd ps sp) (hr : RoomG (k + 1) X.A) (hb : Binds X.K fd ps ds) (hd : Vals dvs ds)
    (hx : PassesAt CX X σ E) (I : Inv X pins σ H s) (r : Vals vs us)
    (h : ∀ x dx, H x = none → H dx = none → dx ≠ x → sp (.ref x :: (vs ++ dvs)) (upd (upd H dx (.own x)) x (.ins C dx [])) (fun v H2 => v = .non ∧ Q (.ref x) H2) E) :
    wpAny (model X.prog X.w) X.A (call (.ref C) us) (EP X pins σ Q) X.xe s := by
  have n0 : H s.heap.objs.size = none := I.hok.fresh (Nat.le_refl _)
  have n1 : H (s.heap.objs.size + 1) = none := I.hok.fresh (Nat.le_succ _)
  have told := h _ _ n1 n0 (Nat.ne_of_lt (Nat.lt_succ_self _))
  have J := Inv.made (C := C) I
  have rel : Vals (V.ref (s.heap.objs.size + 1) :: (vs ++ dvs)) (Value.ref (s.heap.objs.size + 1) :: (us ++ ds)) := Paired.cons rfl (r.append hd)
  have len : (Value.ref (s.heap.objs.size + 1) :: us ++ ds).length = ps.length := rel.length.symm.trans (F.len _ _ _ _ told)
  have inner := F.run _ X.stack _ _ ⟨Value.ref (s.heap.objs.size + 1) :: us, []⟩ (Value.ref (s.heap.objs.size + 1) :: (us ++ ds)) _ _ E (hr.make C us [])
    (J.env0.make C us []) (hb _ (Value.ref (s.heap.objs.size + 1) :: us) J.kIn len) rel told
  refine wpAny_call (make_map (f := f) I.kIn M.makes M.init (beq_iff_eq.mp M.fn) (codeAny_mono inner ?_))
  intro r s' hq
  cases r with
  | ok fl =>
    cases fl with
    | ret u =>
      obtain ⟨v, H', I3, rv, ev, q3⟩ := J.after hq
      cases ev
      refine ⟨rv, .ref (s.heap.objs.size + 1), H', I3, ?_, q3⟩
      rfl
    | next => exact False.elim hq
    | brk => exact False.elim hq
    | cont => exact False.elim hq
  | error e => exact hx pins _ _ e s' J hq
end
end Pu
set_option Elab.async false
set_option linter.all false
set_option maxRecDepth 100000
set_option maxHeartbeats 4000000
/-! Pu, part T: fields of an instance under way. -/
namespace Pu
open PySem PySem.Spec PyProof.Rows L2

def putPF (f : Str) (y : PV) : List Str → List PV → List Str × List PV
  | n :: ns, x :: xs => if n = f then (n :: ns, y :: xs) else (n :: (putPF f y ns xs).1, x :: (putPF f y ns xs).2)
  | _, _ => ([f], [y])
theorem putF_rep {g : G} {Z : Hp} {f : Str} {v : V} {y : PV} (r : Rep g Z v y) : ∀ {fs : List (Str × V)} {vs : List PV}, Reps g Z (fs.map (·.2)) vs → (putF f v fs).map (·.1) = (putPF f y (fs.map (·.1)) vs).1 ∧ Reps g Z ((putF f v fs).map (·.2)) (putPF f y (fs.map (·.1)) vs).2
  | [], vs, h => by cases h; exact ⟨rfl, .cons r .nil⟩
  | (n, u) :: fs, vs, h => by
    rw [List.map_cons] at h ⊢
    cases h with
    | @cons _ _ x xs a b =>
      obtain ⟨k1, k2⟩ := putF_rep r b
      have e1 : putF f v ((n, u) :: fs) = if n = f then (n, v) :: fs else (n, u) :: putF f v fs := rfl
      have e2 : putPF f y (n :: fs.map (·.1)) (x :: xs) = if n = f then (n :: fs.map (·.1), y :: xs) else (n :: (putPF f y (fs.map (·.1)) xs).1, x :: (putPF f y (fs.map (·.1)) xs).2) := rfl
      show (putF f v ((n, u) :: fs)).map (·.1) = (putPF f y (n :: fs.map (·.1)) (x :: xs)).1 ∧ Reps g Z ((putF f v ((n, u) :: fs)).map (·.2)) (putPF f y (n :: fs.map (·.1)) (x :: xs)).2
      rw [e1, e2]
      by_cases hn : n = f
      · rw [if_pos hn, if_pos hn]
        exact ⟨rfl, .cons r b⟩
      · rw [if_neg hn, if_neg hn]
        exact ⟨by rw [List.map_cons, k1], .cons a k2⟩
/-- name.f = e -/
def sSetFld (cs : List Str) (i : Nat) (f : Str) (de : Den PV) : SDen := sOf de fun y e => match e[i]? with
  | some (.o own c ns vs) => if c ∈ cs ∧ ns.length < 1000 then some (.nx (e.set i (.o own c (putPF f y ns vs).1 (putPF f y ns vs).2))) else none
  | _ => none
/-- name.f -/
def dFldM (cs : List Str) (i : Nat) (f : Str) : Den PV := fun e => match e[i]? with
  | some (.o _ c ns vs) => if c ∈ cs then (match fldOf f ns vs with | some y => some (.ok y e) | none => none) else none
  | _ => none
section
variable {X : Cx} {W : WX} {e : Expr} {de : Den PV} {f x : Str} {cs : List Str} {i : Nat} {p pos pos' : Pos}
theorem psx_setFld (hc : ∀ c ∈ cs, ClsF X.K X.mg c [f]) (h : PE X (.Name x p) (tVar i)) (he : PX X W e de) (hs : swapsWith e (some (.Attribute (.Name x p) f pos')) pos.line X.env = pure false := by rfl) : PSX X W (.Assign [.Attribute (.Name x p) f pos'] e pos) (sSetFld cs i f de) :=
  psimp (ps_fld h he hs) fun D σ H ⟨fr, Z, env, a⟩ => by
    refine (a.of.imp fun u H1 ⟨Z1, env1, y, s1, r1, a1⟩ => ?_).here
    obtain ⟨st, o, eo, po⟩ := a1
    split at eo
    · rename_i own c ns vs hx
      obtain ⟨⟨hm, hl⟩, rfl⟩ := of_ite eo
      obtain ⟨b, fs, e1, n, ⟨C, dx, hH, hg⟩, hk, r, ow⟩ := st.sl i _ hx
      obtain ⟨C', h1, h2, h3⟩ := hc c hm
      rw [show X.mg c = some (.ref C) from hg] at h1
      cases h1
      subst hk
      obtain ⟨k1, k2⟩ := putF_rep (f := f) r1 r
      refine ⟨.ref b, e1, b, C, dx, fs, rfl, hH, h2, h3 f (List.mem_singleton.mpr rfl), by rw [List.length_map] at hl; exact hl, ?_⟩
      exact po σ Z1 _ (Same.refl _) (st.putC hx rfl rfl e1 ⟨b, _, e1, n, ⟨C, dx, upd_same, hg⟩, k1, k2, ow⟩)
    · cases eo
theorem px_fldM (hc : ∀ c ∈ cs, ClsF X.K X.mg c [f]) (h : PE X (.Name x p) (tVar i)) (hb : attributeBase (.Name x p) f X.env (eval (.Name x p) X.env) = eval (.Name x p) X.env := by rfl) : PX X W (.Attribute (.Name x p) f pos) (dFldM cs i f) :=
  peimp (pe_fld h hb) fun σ H Q ⟨fr, Z, env, st, o, eo, po⟩ => by
    unfold dFldM at eo
    split at eo
    · rename_i own c ns vs hx
      split at eo
      · rename_i hm
        cases hf : fldOf f ns vs with
        | none => rw [hf] at eo; cases eo
        | some y =>
          rw [hf] at eo
          cases eo
          obtain ⟨b, fs, e1, n, ⟨C, dx, hH, hg⟩, hk, r, ow⟩ := st.sl i _ hx
          obtain ⟨C', h1, h2, h3⟩ := hc c hm
          rw [show X.mg c = some (.ref C) from hg] at h1
          cases h1
          subst hk
          obtain ⟨v, l1, l2⟩ := r.fld hf
          exact ⟨.ref b, e1, b, C, dx, fs, v, rfl, hH, h2, h3 f (List.mem_singleton.mpr rfl), l1, po v Z H (Same.refl _) st l2⟩
      · cases eo
    · cases eo
end
end Pu
set_option Elab.async false
set_option linter.all false
set_option maxRecDepth 100000
set_option maxHeartbeats 4000000
/-! Pu, part U: defs whose first parameter is an instance under way. -/
namespace Pu
open PySem PySem.Spec PyProof.Rows L2

/-- as ExtM, whatever became of a -/
structure ExtE (a : Addr) (Z H Z' H' : Hp) : Prop where
  zz : Same Z Z'
  hh : ∀ b o, b ≠ a → H b = some o → H' b = some o
  zh : Same Z' H'
  nz : ∀ b o, b ≠ a → H b = some o → Z b = none → Z' b = none
/-- fields' names, their values, the arguments: the answer and the fields behind it, or an exception -/
abbrev FnI := List Str → List PV → List PV → Option (Except Exn (PV × List Str × List PV))
def SpI (g : G) (c : Str) (n : Nat) (F : FnI) : Sp := fun vs H Q E => ∃ Z a ws fs xs args o C dx, vs = V.ref a :: ws ∧ Same Z H ∧ Z a = none ∧ H a = some (.ins C dx fs) ∧ g.mg c = some (.ref C) ∧ Reps g Z (fs.map (·.2)) xs ∧ Reps g Z ws args ∧ args.length + 1 = n ∧ F (fs.map (·.1)) xs args = some o ∧ match o with
  | .ok (r, ns', vs') => ∀ u Z' H' fs' C' dx', ExtM a Z H Z' H' → H' a = some (.ins C' dx' fs') → g.mg c = some (.ref C') → fs'.map (·.1) = ns' → Reps g Z' (fs'.map (·.2)) vs' → Rep g Z' u r → Q u H'
  | .error x => ∀ cls dd Z' H', ExtE a Z H Z' H' → ExRep g x cls dd Z' H' → E cls dd H'
def cellsI (m : Nat) (c : Str) (ns : List Str) (xs args : List PV) : Cells := .o false c ns xs :: (args.map .v ++ List.replicate (m - (args.length + 1)) .un)
def outI (c : Str) (v : PV) (e : Cells) : Option (Except Exn (PV × List Str × List PV)) := match (e[(0 : Nat)]? : Option Cell) with
  | some (.o false c0 ns vs) => if c0 = c then some (.ok (v, ns, vs)) else none
  | _ => none
def fnDenI (m : Nat) (c : Str) (d : SDen) : FnI := fun ns xs args => match d (cellsI m c ns xs args) with
  | some (.rt v e) => outI c v e
  | some (.nx e) => outI c .non e
  | some (.ex x _) => some (.error x)
  | _ => none
theorem stok_startI {g : G} {Z H : Hp} {N : List Str} {a : Addr} {c : Str} {C dx : Addr} {fs : List (Str × V)} {ws : List V} {xs args : List PV} (e : Same Z H) (n : Z a = none) (hH : H a = some (.ins C dx fs)) (hg : g.mg c = some (.ref C)) (rx : Reps g Z (fs.map (·.2)) xs) (r : Reps g Z ws args) (h : ws.length + 1 ≤ N.length) :
    StOk g ⟨Z, H, fun b => b = a⟩ Z H (start N (.ref a :: ws)) (cellsI N.length c (fs.map (·.1)) xs args) where
  z0 := Same.refl _
  zh := e
  fr := fun _ _ q _ => q
  nz := fun _ _ _ _ z => z
  pr := fun _ o q => ⟨o, q⟩
  mh := fun b m => by
    have m : b = a := m
    subst m; exact ⟨_, hH⟩
  ln := by
    rw [start_len (by rw [List.length_cons]; exact h)]
    unfold cellsI
    rw [List.length_cons, List.length_append, List.length_map, List.length_replicate, ← r.length]; omega
  sl := fun i cc ei => by
    cases i with
    | zero =>
      cases ei
      exact ⟨a, fs, rfl, n, ⟨C, dx, hH, hg⟩, rfl, rx, rfl⟩
    | succ i =>
      have ei : (args.map Cell.v ++ List.replicate (N.length - (args.length + 1)) .un)[i]? = some cc := ei
      by_cases hi : i < args.length
      · rw [List.getElem?_append_left (by rw [List.length_map]; exact hi), List.getElem?_map] at ei
        cases ea : args[i]? with
        | none => rw [ea] at ei; cases ei
        | some x =>
          rw [ea] at ei
          cases ei
          obtain ⟨v, hv, rv⟩ := r.get' ea
          refine ⟨v, ?_, rv⟩
          unfold L2.start
          show (((V.ref a) :: ws).map some ++ _)[i + 1]? = _
          rw [List.getElem?_append_left (by rw [List.length_map, List.length_cons, r.length]; omega), List.getElem?_map, List.getElem?_cons_succ, hv]
          rfl
      · rw [List.getElem?_append_right (by rw [List.length_map]; omega)] at ei
        rw [List.getElem?_replicate] at ei
        split at ei
        · cases ei; trivial
        · cases ei
  sep := fun i j x y b ei ej mx my si sj => by
    have no : ∀ {i : Nat} {cc : Cell}, (cellsI N.length c (fs.map (·.1)) xs args)[i]? = some cc → cc.mut = true → i = 0 := fun {i cc} ei m => by
      cases i with
      | zero => rfl
      | succ i =>
        have ei : (args.map Cell.v ++ List.replicate (N.length - (args.length + 1)) .un)[i]? = some cc := ei
        rcases List.mem_append.mp (List.mem_of_getElem? ei) with h | h
        · obtain ⟨x, _, rfl⟩ := List.mem_map.mp h; cases m
        · rw [(List.mem_replicate.mp h).2] at m; cases m
    rw [no ei mx, no ej my]
section
variable {P : Program} {w : World} {K : PySem.W.Frag} {mg : Str → Option Value} {base : Heap}
theorem fnI {c : Str} {x qual : Str} {params : Arguments} {body : List Stmt} {scope : Scope} {dvs : List V} {kws : List (Str × V)} {f : Addr} {fd : FuncData} {N ps : List Str} {k : Nat} {d : SDen} (F : FunD K x qual params body scope dvs kws f fd) (S : FnScope N ps scope)
    (hb : ∀ (cdv : Value) (A : Around) (outer : List PySem.Env) (s : Shared) (H : Hp) (E : XK), RoomG k (A.deeper (envOfC qual scope s.heap.objs.size f cdv)) →
      Takes (cxOf (L2.CX P w) P w K mg base N qual scope f cdv A outer s H E) (fun cls dd _ H' => E cls dd H') →
      PSsX (cxOf (L2.CX P w) P w K mg base N qual scope f cdv A outer s H E) (fun cls dd _ H' => E cls dd H') body d) :
    FnG P w K mg base (L2.CX P w) (k + 1) f fd ps (SpI ⟨K, mg⟩ c ps.length (fnDenI N.length c d)) := by
  refine fnG_of F S (fun vs H Q E ⟨Z, a, ws, fs, xs, args, o, C, dx, ev, _, _, _, _, _, rw', l, _⟩ => by rw [ev, List.length_cons, rw'.length]; exact l) fun cdv A outer s H vs Q E hr h => ?_
  refine ⟨_, hb cdv A outer s H E hr (takes_of rfl rfl rfl rfl), ?_⟩
  obtain ⟨Z, a, ws, fs, xs, args, o, C, dx, ev, e, n, hH, hg, rx, ra, l, hF, ho⟩ := h
  subst ev
  have hpl : ps.length ≤ N.length := by have := congrArg List.length S.pre; rw [List.length_take] at this; omega
  have st : StOk ⟨K, mg⟩ ⟨Z, H, fun b => b = a⟩ Z H (start N (.ref a :: ws)) (cellsI N.length c (fs.map (·.1)) xs args) := stok_startI e n hH hg rx ra (by rw [ra.length]; omega)
  refine ⟨_, Z, _, st, ?_⟩
  have fin : ∀ {Z' H' : Hp} {σ' : L2.St} {e' : Cells} {v : PV} {u : V}, Same Z Z' → StOk ⟨K, mg⟩ ⟨Z, H, fun b => b = a⟩ Z' H' σ' e' → Rep ⟨K, mg⟩ Z' u v → outI c v e' = some o → Q u H' := fun {Z' H' σ' e' v u} s st' rv eo => by
    unfold outI at eo
    split at eo
    · rename_i c0 ns0 vs0 hz
      obtain ⟨rfl, rfl⟩ := of_ite eo
      obtain ⟨b, fs', e1, n', ⟨C', dx', hH', hg'⟩, hk, r', ow⟩ := st'.sl 0 _ hz
      have ow : b = a := ow
      subst ow
      exact ho u Z' H' fs' C' dx' ⟨s, fun c o hc q => st'.fr c o q hc, st'.zh, fun c o hc q z => st'.nz c o q hc z, n'⟩ hH' hg' hk r' rv
    · cases eo
  unfold fnDenI at hF
  cases hd : d (cellsI N.length c (fs.map (·.1)) xs args) with
  | none => rw [hd] at hF; cases hF
  | some so =>
    rw [hd] at hF
    cases so with
    | rt v e1 => exact ⟨_, rfl, fun u σ' Z' H' s st' rv => fin s st' rv hF⟩
    | nx e1 => exact ⟨_, rfl, fun σ' Z' H' s st' => fin s st' .non hF⟩
    | ex x e1 =>
      cases hF
      exact ⟨_, rfl, fun cls dd σ' Z' H' s st' r => ho cls dd Z' H' ⟨s, fun c o hc q => st'.fr c o q hc, st'.zh, fun c o hc q z => st'.nz c o q hc z⟩ r⟩
    | bk e1 => cases hF
    | ct e1 => cases hF
end
end Pu
set_option Elab.async false
set_option linter.all false
set_option maxRecDepth 100000
set_option maxHeartbeats 4000000
/-! Pu, part V: C(e, ..), an instance made and frozen. -/
namespace Pu
open PySem PySem.Spec PyProof.Rows L2

def dMake (c : Str) (F : FnI) (ds : Den (List PV)) : Den PV := ds.bind fun args e => match F [] [] args with
  | some (.ok (.non, ns, vs)) => some (.ok (.ins c ns vs) e)
  | some (.error x) => some (.ex x e)
  | _ => none
structure DefI (X : Cx) (c : Str) (ps : List Str) (k : Nat) (F : FnI) : Prop where
  ex : ∃ (C f : Addr) (fd : FuncData), X.mg c = some (.ref C) ∧ Mk X.K C f ∧ Binds X.K fd ps [] ∧ FnG X.prog X.w X.K X.mg X.base (L2.CX X.prog X.w) k f fd ps (SpI (gOf X) c ps.length F)
section
variable {X : Cx} {W : WX} {k : Nat} {c : Str} {ps : List Str} {F : FnI} {p pos : Pos} {e : Expr} {es : List Expr} {ds : Den (List PV)}
theorem px_make (D : DefI X c ps k F) (tk : Takes X W) (hr : RoomG (k + 1) X.A) (hg : Gl X c) (ha : PAX X W (e :: es) ds) {n : Nat} (hl : Len ds n) (hn : n + 1 = ps.length := by rfl) (hdb : (c == ("__debug__" : Str)) = false := by decide)
    (he : starEach (e :: es) X.env = (false, eval e X.env) :: starEach es X.env := by rfl) (hpl : (backTo pos (starEach es X.env)).any (·.1) = false := by rfl) : PX X W (.Call (.Name c p) (e :: es) [] pos) (dMake c F ds) := by
  obtain ⟨C, f, fd, hm, M, hb, ok⟩ := D.ex
  refine ⟨fun pins s σ H Q I ⟨fr, Z, env, a⟩ => ?_⟩
  refine wpAny_Call_Name_kw (ld_glob I hg hm ?_ hdb)
  have a0 := a
  obtain ⟨o1, e1, p1⟩ := a0.bind (R := RVs (gOf X)) |>.to
  refine PySem.W.callWith_K (h₀ := X.base) I.ok.mod.kin M.kp (thn (ha.run pos pins s σ H (fun vs H1 => ∃ Z1 env1 args, args.length = n ∧ Reps (gOf X) Z1 vs args ∧ At (gOf X) W fr Z1 env1 (fun e => match F [] [] args with
      | some (.ok (.non, ns, vs)) => some (.ok (.ins c ns vs) e)
      | some (.error x) => some (.ex x e)
      | _ => none) (RV (gOf X)) Q σ H1) I ⟨fr, Z, env, a.st, o1, e1, ?_⟩) fun us s1 ⟨vs, H1, I1, r, q⟩ => ⟨I1.kIn, ?_⟩) he hpl
  · cases o1 with
    | ex x e2 => exact fun cls dd Z' H' s st' r => p1 cls dd Z' H' s st' r
    | ok args e2 =>
      intro ws Z1 H1 s1 st1 r1
      have la : args.length = n := hl _ _ _ e1
      obtain ⟨Z2, env2, args2, s2, r2, a2⟩ := p1 ws Z1 H1 s1 st1 r1
      exact ⟨Z2, env2, args2, by rw [← r2.length, r1.length]; exact la, r2, a2⟩
  · obtain ⟨Z1, env1, args, la, ra, a1⟩ := q
    obtain ⟨st, o, eo, po⟩ := a1
    refine run_makeG (E := WE W σ) (dvs := []) M ok hr hb .nil (passAt tk σ) I1 r fun x dx nx ndx hne => ?_
    have sz : ∀ b u, H1 b = some u → (upd (upd H1 dx (.own x)) x (.ins C dx [])) b = some u := fun b u q => by
      rw [upd_ne (ne_of_none q nx), upd_ne (ne_of_none q ndx)]; exact q
    rw [List.append_nil]
    have zx : Z1 x = none := st.zn nx
    have go : ∀ {Z' H' : Hp} {Z2 : Hp}, (∀ b u, Z1 b = some u → Z2 b = some u) → ExtE x Z1 (upd (upd H1 dx (.own x)) x (.ins C dx [])) Z' H' → Same Z2 H' → (∀ b, b ≠ x → Z2 b = Z' b) → StOk (gOf X) fr Z2 H' σ env1 := fun {Z' H' Z2} hz ex zh eq =>
      st.grow hz (fun b u q => ex.hh b u (ne_of_none q nx) (sz b u q)) zh fun b u q z => by
        rw [eq b (ne_of_none q nx)]; exact ex.nz b u (ne_of_none q nx) (sz b u q) z
    cases hF : F [] [] args with
    | none => rw [hF] at eo; cases eo
    | some oF =>
      refine ⟨Z1, x, vs, [], [], args, oF, C, dx, rfl, fun b u q => sz b u (st.zh _ _ q), zx, upd_same, hm, .nil, ra, by rw [la]; exact hn, hF, ?_⟩
      cases oF with
      | error xx =>
        rw [hF] at eo
        cases eo
        exact fun cls dd Z' H' ex rr => po cls dd Z' H' ex.zz (go ex.zz ex ex.zh fun _ _ => rfl) rr
      | ok t =>
        obtain ⟨rv, ns', vs'⟩ := t
        intro u Z' H' fs' C' dx' ex hH hg' hk rr ru
        cases rv with
        | non =>
          rw [hF] at eo
          cases eo
          cases ru
          refine ⟨rfl, ?_⟩
          have zz' : Same Z' (upd Z' x (.ins C' dx' fs')) := same_upd ex.na
          have st3 : StOk (gOf X) fr (upd Z' x (.ins C' dx' fs')) H' σ env1 := go (Z' := Z') (fun b u q => zz' _ _ (ex.zz _ _ q)) ⟨ex.zz, ex.hh, ex.zh, ex.nz⟩ (fun b u q => by
            by_cases hb : b = x
            · subst hb; rw [upd_same] at q; cases q; exact hH
            · rw [upd_ne hb] at q; exact ex.zh _ _ q) fun b hb => upd_ne hb
          subst hk
          exact po (.ref x) _ H' (fun b u q => zz' _ _ (ex.zz _ _ q)) st3 (.ins upd_same hg' (rr.mono zz'))
        | _ => rw [hF] at eo; cases eo
end
end Pu
set_option Elab.async false
set_option linter.all false
set_option maxRecDepth 100000
set_option maxHeartbeats 4000000
/-! Pu, part W: o.m(e), list + list, list.index, targets that are tuples, zip, try .. except X: return. -/
namespace Pu
open PySem PySem.Spec PyProof.Rows L2 RZ

/-! ### o.m(e, ..) -/
/-- what a caller needs of a method of the class c -/
structure DefT (X : Cx) (c m : Str) (ps : List Str) (k : Nat) (F : Fn) : Prop where
  ex : ∃ (C f : Addr) (fd : FuncData), X.mg c = some (.ref C) ∧ Cls X.K C ∧ Meth X.K C m f ∧ Binds X.K fd ps [] ∧ FnG X.prog X.w X.K X.mg X.base (L2.CX X.prog X.w) k f fd ps (SpP (gOf X) ps.length F)
def dMeth (c m : Str) (F : Fn) (da : Den PV) (ds : Den (List PV)) : Den PV := da.bind fun x => match x with
  | .ins c' ns _ => if c' = c ∧ m ∉ ns then dCall F [] (ds.bind fun xs => Den.ret (x :: xs)) else fun _ => none
  | _ => fun _ => none
theorem lookup_notin {α : Type} {m : Str} : ∀ {fs : List (Str × α)}, m ∉ fs.map (·.1) → fs.lookup m = none
  | [], _ => rfl
  | (n, v) :: fs, h => by
    rw [List.map_cons, List.mem_cons, not_or] at h
    rw [List.lookup_cons, show (m == n) = false by simpa using h.1]
    exact lookup_notin h.2
section
variable {X : Cx} {W : WX} {k : Nat} {c m : Str} {ps : List Str} {F : Fn} {apos pos : Pos} {o e : Expr} {es : List Expr} {da : Den PV} {ds : Den (List PV)}
theorem px_meth {pl : Sem Bool} (D : DefT X c m ps k F) (tk : Takes X W) (hr : RoomG k X.A) (ho : PX X W o da) (ha : PAX X W (e :: es) ds) {n : Nat} (hl : Len ds n) (hn : n + 1 = ps.length := by rfl)
    (hst : starEach (e :: es) X.env = (false, eval e X.env) :: starEach es X.env := by rfl) (hpl : (backTo pos (starEach es X.env)).any (·.1) = false := by rfl)
    (ht : eval (.Call (.Attribute o m apos) (e :: es) [] pos) X.env = (eval o X.env >>= fun ov => standAt apos.atName >>= fun _ => holding [ov] (getMethod ov m pl) >>= fun p =>
      callWith pos p.1 p.2 (backTo pos (starEach (e :: es) X.env)) (backToKw pos (keywordEach [] X.env))) := by rfl) :
    PX X W (.Call (.Attribute o m apos) (e :: es) [] pos) (dMeth c m F da ds) := by
  obtain ⟨C, f, fd, hm, hc, me, hb, ok⟩ := D.ex
  refine ⟨fun pins s σ H Q I ⟨fr, Z, env, a⟩ => ?_⟩
  have q0 : tP (gOf X) W da σ H (fun x H1 => ∃ b dx fs, x = .ref b ∧ H1 b = some (.ins C dx fs) ∧ fs.lookup m = none ∧ tPs (gOf X) W ds σ H1 fun vs H2 => SpP (gOf X) ps.length F (.ref b :: vs) H2 Q (WE W σ)) := by
    refine (a.bind.imp fun u H1 ⟨Z1, env1, x, s1, r1, a1⟩ => ?_).here
    obtain ⟨st, o1, eo, po⟩ := a1
    cases x with
    | ins c' ns vs =>
      replace eo : (if c' = c ∧ m ∉ ns then dCall F [] (ds.bind fun xs => Den.ret (PV.ins c' ns vs :: xs)) else fun _ => none) env1 = some o1 := eo
      by_cases hcm : c' = c ∧ m ∉ ns
      · rw [if_pos hcm] at eo
        obtain ⟨rfl, hni⟩ := hcm
        have r1' := r1
        cases r1 with
        | @ins b C' dx _ fs _ hz hg rv =>
          rw [show X.mg c' = some (.ref C') from hg] at hm
          cases hm
          refine ⟨b, dx, fs, rfl, st.zh _ _ hz, lookup_notin hni, ?_⟩
          refine ⟨fr, Z1, env1, st, ?_⟩
          unfold dCall Den.bind at eo
          cases hds : ds env1 with
          | none => simp only [hds] at eo; cases eo
          | some o2 =>
            simp only [hds] at eo
            cases o2 with
            | ex c2 e2 =>
              have eo : some (Out.ex c2 e2) = some o1 := eo
              cases eo
              exact ⟨_, rfl, fun cls dd Z' H' s st' r => po cls dd Z' H' s st' r⟩
            | ok xs e2 =>
              have eo : callK F (PV.ins c' (fs.map (·.1)) vs :: xs ++ []) e2 = some o1 := eo
              refine ⟨_, rfl, fun us Z2 H2 s2 st2 r2 => ?_⟩
              rw [List.append_nil] at eo
              unfold callK at eo
              cases hF : F (PV.ins c' (fs.map (·.1)) vs :: xs) with
              | none => rw [hF] at eo; cases eo
              | some r =>
                rw [hF] at eo
                refine ⟨Z2, PV.ins c' (fs.map (·.1)) vs :: xs, r, st2.zh, .cons (r1'.mono s2) r2, by rw [List.length_cons, hl _ _ _ hds]; exact hn, hF, ?_⟩
                cases r with
                | ok v => cases eo; exact fun u Z' H' ex rv => po u Z' H' (s2.trans ex.zz) (st2.ext ex) rv
                | error cc => cases eo; exact fun cls dd Z' H' ex rv => po cls dd Z' H' (s2.trans ex.zz) (st2.ext ex) rv
      · rw [if_neg hcm] at eo; cases eo
    | _ => cases eo
  refine PySem.W.methodCall_KW (pl := pl) (thn (ho.run pins s σ H _ I q0) fun u s1 ⟨x, H1, I1, rx, b, dx, fs, ex, ea, l, q⟩ => ?_) ht
  subst ex
  obtain rfl : u = Value.ref b := rx
  refine getmeth_ok I1 ea hc me l (PySem.W.callWith_K (first := [.ref b]) (h₀ := X.base) I1.ok.mod.kin me.kp (thn (ha.run pos pins s1 σ H1 _ I1 q) fun us s2 ⟨vs, H2, I2, r, q2⟩ => ⟨I2.kIn, ?_⟩) hst hpl)
  exact run_fnSD (E := WE W) (us := .ref b :: us) (vs := .ref b :: vs) (dvs := []) ok hr hb .nil (passAt tk σ) I2 (.cons rfl r) (by rw [List.append_nil]; exact q2)
end

/-! ### list + list -/
def rCatL (K : PySem.W.Frag) : R2 := fun x y H Q => ∃ a b xs ys, x = .ref a ∧ y = .ref b ∧ SqL K H a xs ∧ SqL K H b ys ∧ xs.length + ys.length ≤ sizeLine ∧ ∀ p, H p = none → Q (.ref p) (upd H p (.lst (xs ++ ys)))
theorem op_catL {X : Cx} : OpR X (binaryOp .Add) (rCatL X.K) := by
  intro pins s σ H x y v u Q I rx ry h
  obtain ⟨a, b, xs, ys, rfl, rfl, ha, hb, hz, q⟩ := h
  cases rx
  cases ry
  obtain ⟨its, r1, p1, l1⟩ := I.list ha
  obtain ⟨its2, r2, p2, l2⟩ := I.list hb
  obtain ⟨⟨cls, dd, data, sl⟩, n, ho, hc, hd, ht⟩ := p1
  obtain ⟨⟨cls2, dd2, data2, sl2⟩, n2, ho2, hc2, hd2, ht2⟩ := p2
  simp only at hc hd ht hc2 hd2 ht2
  subst hc hd ht hc2 hd2 ht2
  have lz : its.toArray.size + its2.toArray.size ≤ sizeLine := by rw [List.size_toArray, List.size_toArray, ← r1.length, ← r2.length]; exact hz
  refine concat_meets ⟨_, ho, rfl⟩ ⟨_, ho2, rfl⟩ noFill_list_add seq_list_add PySem.F.slot_list_add PySem.F.entry_list_add (PySem.F.args_list_add_2 _ _) (list_addW a b its.toArray its2.toArray n n2 none none sl sl2 lz) ⟨ho, ho2, ?_⟩
  rw [show its.toArray ++ its2.toArray = (its ++ its2).toArray by simp]
  exact ⟨.ref s.heap.objs.size, _, I.lnew (t' := s.toks) (r1.append r2) (by rw [List.length_append]; exact hz), rfl, q _ I.fresh⟩
def dCatL (da db : Den PV) : Den (List PV) := da.bind fun x => db.bind fun y => Den.lift (match x, y with
  | .lst xs, .lst ys => if xs.length + ys.length ≤ 100000 then some (xs ++ ys) else none
  | _, _ => none)
section
variable {X : Cx} {W : WX} {a b : Expr} {da db : Den PV} {pos : Pos}
theorem po_catL (ha : PX X W a da) (hb : PX X W b db) : PO' X W (.BinOp a .Add b pos) (dCatL da db) := peimp (pe_op op_catL ha hb) fun σ H Q ⟨f, Z, env, at0⟩ => by
  refine (at0.bind.imp fun u H1 ⟨Z1, env1, x, s1, r1, a1⟩ => ?_).here
  refine (a1.bind.imp fun w H2 ⟨Z2, env2, y, s2, r2, a2⟩ => ?_).here
  obtain ⟨v, e, k⟩ := a2.lift
  have r1' := r1.mono s2
  have key : ∀ x y, Rep (gOf X) Z2 u x → Rep (gOf X) Z2 w y → (match x, y with
      | .lst xs, .lst ys => if xs.length + ys.length ≤ 100000 then some (xs ++ ys) else none
      | _, _ => none) = some v → rCatL X.K u w H2 Q := fun x y r1 r2 e => by
    split at e
    · rename_i xs ys
      obtain ⟨l, rfl⟩ := of_ite e
      have big : 100000 ≤ sizeLine := by decide
      generalize hx : PV.lst xs = x' at r1
      generalize hy : PV.lst ys = y' at r2
      cases r1 with
      | @lst a' vs xs' hs l1 rv =>
        cases hx
        cases r2 with
        | @lst b' ws ys' hs2 l2 rw2 =>
          cases hy
          have z1 := rv.length
          have z2 := rw2.length
          refine ⟨a', b', vs, ws, rfl, rfl, Same.sql a2.st.zh hs, Same.sql a2.st.zh hs2, by omega, fun p n => ?_⟩
          obtain ⟨st3, r3⟩ := a2.st.own n (by rw [List.length_append]; omega) (rv.append rw2)
          exact k _ Z2 _ (Same.refl _) st3 r3
        | _ => cases hy
      | _ => cases hx
    · cases e
  exact key x y r1' r2 e
end

/-! ### l.index(x) -/
/-- data to be compared with little room -/
def PV.small (x : PV) : Bool := x.plain && decide (x.depth ≤ 60)
def dIndexL (da db : Den PV) : Den PV := da.bind fun x => match x with
  | .lst xs => db.bind fun y => Den.lift (if (PV.lst xs).small = true ∧ y.small = true then (idxP y xs 0).map fun n => .int (n : Nat) else none)
  | _ => fun _ => none
section
variable {X : Cx} {W : WX} {k : Nat} {e o : Expr} {da db : Den PV} {apos cpos : Pos}
theorem px_indexL (hr : RoomG k X.A) (ho : PX X W o da) (ha : PX X W e db)
    (hbase : attributeBase o "index" X.env (eval o X.env) = eval o X.env := by rfl)
    (hfew : ((backTo cpos (starEach [e] X.env)).all (fun x => !x.1) && (backToKw cpos (keywordEach [] X.env)).all (fun x => x.1.isSome)
      && decide ([e].length + ([] : List Keyword).length + (if ([] : List Keyword).isEmpty then 0 else 1) < 30)) = true := by rfl)
    (hline : (apos.endLine == cpos.line) = true := by rfl) (hs : starEach [e] X.env = (false, eval e X.env) :: starEach [] X.env := by rfl) (hplain : (backTo cpos (starEach [] X.env)).any (·.1) = false := by rfl) :
    PX X W (.Call (.Attribute o "index" apos) [e] [] cpos) (dIndexL da db) :=
  peimp (pe_bm PySem.F.plainAttrs_list PySem.F.slot_list_index PySem.F.type_list_index (mt_indexD (by have := hr.un; omega)) ho (pa_cons ha pa_nil hs) hbase hfew hline hs hplain) fun σ H Q ⟨f, Z, env, a⟩ => by
    refine (a.bind.imp fun u H1 ⟨Z1, env1, x, s1, r1, a1⟩ => ?_).here
    cases x with
    | lst xs =>
      cases r1 with
      | @lst a' vs _ ht l rv =>
        refine ⟨.inl ⟨rfl, vs, Same.sql a1.st.zh ht⟩, ?_⟩
        refine ((show At (gOf X) W f Z1 env1 (db.bind fun y => Den.lift (if (PV.lst xs).small = true ∧ y.small = true then (idxP y xs 0).map fun n => PV.int (n : Nat) else none)) (RV (gOf X)) Q σ H1 from a1).bind.imp fun w H2 ⟨Z2, env2, y, s2, r2, a2⟩ => ?_).here
        obtain ⟨v, e, k⟩ := a2.lift
        split at e
        · rename_i hf
          cases hi : idxP y xs 0 with
          | none => rw [hi] at e; cases e
          | some j =>
            rw [hi] at e
            cases e
            obtain ⟨_, ⟨z, hz, hzy⟩, hno⟩ := idxP_spec hi
            obtain ⟨p1, l1⟩ := Bool.and_eq_true_iff.mp hf.1
            obtain ⟨p2, l2⟩ := Bool.and_eq_true_iff.mp hf.2
            have rl : Rep (gOf X) Z2 (.ref a') (.lst xs) := .lst (Same.sql s2 ht) l (rv.mono s2)
            obtain ⟨d1, c1⟩ := rl.dp a2.st.zh p1
            obtain ⟨d2, c2⟩ := r2.dp a2.st.zh p2
            refine ⟨a', w, y.toD, PV.toDs xs, j, z.toD, rfl, rfl, d1, d2, ?_, ?_, toDs_get (by simpa using hz), hzy, fun m z' hm hz' => ?_, k _ Z2 H2 (Same.refl _) a2.st (.int _)⟩
            · refine Bool.and_eq_true_iff.mpr ⟨c1, decide_eq_true ?_⟩
              have q := toD_depth (.lst xs) p1
              have l1 := of_decide_eq_true l1
              have q : (PyData.list (PV.toDs xs)).depth = (PV.lst xs).depth := q
              omega
            · refine Bool.and_eq_true_iff.mpr ⟨c2, decide_eq_true ?_⟩
              have q := toD_depth y p2
              have l2 := of_decide_eq_true l2
              omega
            · obtain ⟨z2, h1, rfl⟩ := toDs_get' hz'
              exact hno m z2 (by simpa using hm) h1
        · cases e
    | _ => obtain ⟨_, _, e, _⟩ := a1; cases e
end

/-! ### a, b = e -/
def sSetT (gx : PV → Cells → Option Cells) (de : Den PV) : SDen := sOf de fun x e => match gx x e with
  | some e' => some (.nx e')
  | none => none
theorem psx_setT {X : Cx} {W : WX} {tg e : Expr} {pos : Pos} {t : TG} {is : List Nat} {gx : PV → Cells → Option Cells} {de : Den PV} (hg : PGX X tg t is gx) (he : PX X W e de) (hs : swapsWithSole [tg] e pos.line X.env = pure false := by rfl) (hw : swappedStores [tg] e X.env = pure none := by rfl)
    (h1 : (assignEach [tg] X.env).map (·.2) = [assign tg X.env] := by rfl) : PSX X W (.Assign [tg] e pos) (sSetT gx de) := psimp (ps_asg he hg.pg hs hw h1) fun D σ H ⟨f, Z, env, a⟩ => by
  refine (a.of.imp fun u H1 ⟨Z1, env1, x, s1, r1, a1⟩ => ?_).here
  obtain ⟨st, o, e, p⟩ := a1
  cases hgx : gx x env1 with
  | none => rw [hgx] at e; cases e
  | some e2 =>
    rw [hgx] at e
    cases e
    exact hg.ok f Z1 env1 σ H1 u x e2 _ st r1 hgx fun σ' st' _ => p σ' Z1 H1 (Same.refl _) st'

/-! ### try: .. except C: .. -/
def sTryOnly (cn : Str) (db ds : SDen) : SDen := fun env => match db env with
  | some (.ex c e) => if c.c = cn ∧ c.ns = [] ∧ c.vs = [] then ds e else none
  | o => o
theorem psx_try_only {X : Cx} {W : WX} {C : Addr} {x : Str} {body suite : List Stmt} {b₀ : Stmt} {db ds : SDen} {np pos pos' : Pos} (hs : X.stack = X.env :: X.outer) (hf : X.env.frame = some X.env.locals) (hc : Names X x (.ref C)) (hmg : X.mg x = some (.ref C))
    (hcls : PySem.W.exmOne X.K (.ref C) (.ref C) = some true) (tk : Takes X W)
    (hb : ∀ (W : WX) (pn : List (Addr × Obj)) (xe : Value → Shared → Prop), Takes (X.tr pn xe) W → PassesOwn (model X.prog X.w) X.A X.env xe → PSsX (X.tr pn xe) W body db)
    (hsu : ∀ (a : Addr) (pn : List (Addr × Obj)), PSsX (X.suite a pn) W (b₀ :: suite) ds) :
    PSX X W (.Try body [.ExceptHandler (some (.Name x np)) none (b₀ :: suite) pos'] [] [] pos) (sTryOnly x db ds) := by
  refine psimp (ps_try_only (tb := fun W => tS (gOf X) W db) (ts := fun _ _ _ => tS (gOf X) W ds) hs hf hc tk hb fun a oe cls d pn _ _ => hsu a ((a, oe) :: pn)) fun D σ H ⟨f, Z, env, st, o, e, p⟩ => ?_
  refine ⟨f, Z, env, st, ?_⟩
  unfold sTryOnly at e
  cases hdb : db env with
  | none => rw [hdb] at e; cases e
  | some ob =>
    rw [hdb] at e
    cases ob with
    | nx e1 => cases e; exact ⟨_, rfl, p⟩
    | rt v e1 => cases e; exact ⟨_, rfl, p⟩
    | bk e1 => cases e; exact ⟨_, rfl, p⟩
    | ct e1 => cases e; exact ⟨_, rfl, p⟩
    | ex c e1 =>
      refine ⟨_, rfl, fun cls dd σ' Z' H' s st' r => ?_⟩
      have e : (if c.c = x ∧ c.ns = [] ∧ c.vs = [] then ds e1 else none) = some o := e
      by_cases hh : c.c = x ∧ c.ns = [] ∧ c.vs = []
      · rw [if_pos hh] at e
        obtain ⟨C', hC, rfl, _⟩ := r
        have hC : X.mg x = some (.ref C') := by rw [← hh.1]; exact hC
        rw [hmg] at hC
        cases hC
        exact ⟨true, hcls, fun _ a na => ⟨f, Z', e1, st', o, e, p.weak s⟩, fun z => by cases z⟩
      · rw [if_neg hh] at e; cases e

/-! ### zip -/
theorem walk_zipT {K : PySem.W.Frag} {a b : Addr} {xs ys : List V} {n : Nat} (hn : n = min xs.length ys.length) : Walk (ItzT K a b) n (fun H => SqT K H a xs ∧ SqT K H b ys) (YPair (fun i => xs[i]?) (fun i => ys[i]?)) := by
  have lt : ∀ i, i < n → i < xs.length ∧ i < ys.length := fun i h => by omega
  exact ⟨fun i _ hi q => ⟨xs, ys, xs[i]'(lt i hi).1, ys[i]'(lt i hi).2, q.1, q.2, by simp [lt i hi], by simp [lt i hi]⟩, fun _ q => ⟨xs, ys, q.1, q.2, by omega⟩, fun i H v H' _ q ⟨T, x, z, h1, h2, h3, h4, h5⟩ => ⟨T, x, z, h1, h2, h3, h4 xs q.1, h5 ys q.2⟩⟩
def zipP : List PV → List PV → List PV
  | x :: xs, y :: ys => .ktup [x, y] :: zipP xs ys
  | _, _ => []
theorem zipP_get : ∀ {xs ys : List PV} {i : Nat} {x y : PV}, xs[i]? = some x → ys[i]? = some y → (zipP xs ys)[i]? = some (.ktup [x, y])
  | x :: xs, y :: ys, 0, _, _, h1, h2 => by cases h1; cases h2; rfl
  | x :: xs, y :: ys, i + 1, _, _, h1, h2 => zipP_get (xs := xs) (ys := ys) (i := i) h1 h2
  | [], _, i, _, _, h1, _ => by simp at h1
  | _ :: _, [], i, _, _, _, h2 => by simp at h2
theorem zipP_length : ∀ (xs ys : List PV), (zipP xs ys).length = min xs.length ys.length
  | x :: xs, y :: ys => by unfold zipP; rw [List.length_cons, List.length_cons, List.length_cons, zipP_length xs ys]; omega
  | [], _ => by simp [zipP]
  | _ :: _, [] => by simp [zipP]
theorem iter_zip {g : G} {Z : Hp} {J : It} {vs ws : List V} {xs ys : List PV} {G' : Hp → Prop} (lz : vs.length ≤ sizeLine) (w : Walk J (min vs.length ws.length) G' (YPair (fun i => vs[i]?) (fun i => ws[i]?))) (hG : ∀ H, Same Z H → G' H) (r : Reps g Z vs xs) (r' : Reps g Z ws ys) : IterRep g Z J (zipP xs ys) :=
  ⟨_, G', _, w, by rw [zipP_length, r.length, r'.length], by omega, hG, fun i H v H' hi y => by
    obtain ⟨T, a, b, rfl, hT, rfl, ea, eb⟩ := y
    obtain ⟨x, ex, rx⟩ := r.get ea
    obtain ⟨z, ez, rz⟩ := r'.get eb
    refine ⟨.ktup [x, z], zipP_get ex ez, fun f Zc σ env q st => ⟨upd Zc T (.tup [a, b]), same_upd (st.zn hT), st.lay hT, ?_⟩⟩
    exact .ktup upd_same (by show 2 ≤ sizeLine; decide) (.cons ((rx.mono q).mono (same_upd (st.zn hT))) (.cons ((rz.mono q).mono (same_upd (st.zn hT))) .nil))⟩
def dZip (da db : Den PV) : Den (List PV) := da.bind fun x => db.bind fun y => Den.lift (match x, y with
  | .tup xs, .tup ys => some (zipP xs ys)
  | .lst xs, .lst ys => some (zipP xs ys)
  | _, _ => none)
theorem pix_zip {X : Cx} {W : WX} {a b : Expr} {da db : Den PV} {p pos tpos : Pos} {elts : List Expr} {kk : Nat} (hg : Gl X "zip") (hm : X.mg "zip" = none) (ha : PX X W a da) (hb : PX X W b db)
    (n1 : starEach [a, b] X.env = (false, eval a X.env) :: starEach [b] X.env := by rfl) (n2 : starEach [b] X.env = (false, eval b X.env) :: starEach [] X.env := by rfl) (hpl : (backTo pos (starEach [b] X.env)).any (·.1) = false := by rfl) :
    PIX X W (.Tuple elts kk tpos) (.Call (.Name "zip" p) [a, b] [] pos) (dZip da db) := piimp (pi_zipA hg hm (pa_cons ha (pa_cons hb pa_nil n2) n1) n1 hpl) fun σ H R ⟨f, Z, env, at0⟩ => by
  refine (at0.bind.imp fun u H1 ⟨Z1, env1, x, s1, r1, a1⟩ => ?_).here
  refine (a1.bind.imp fun w H2 ⟨Z2, env2, y, s2, r2, a2⟩ => ?_).here
  obtain ⟨v, e, k⟩ := a2.lift
  have r1' := r1.mono s2
  split at e
  · rename_i xs ys
    cases e
    cases r1' with
    | @tup a' vs _ ht l1 rv =>
      cases r2 with
      | @tup b' ws _ ht2 l2 rw2 =>
        exact ⟨a', b', vs, ws, rfl, .inr ⟨Same.sqt a2.st.zh ht.sqt, Same.sqt a2.st.zh ht2.sqt, k _ Z2 H2 (Same.refl _) a2.st (iter_zip l1 (walk_zipT (K := X.K) rfl) (fun H' q' => ⟨Same.sqt q' ht.sqt, Same.sqt q' ht2.sqt⟩) rv rw2)⟩⟩
  · rename_i xs ys
    cases e
    cases r1' with
    | @lst a' vs _ ht l1 rv =>
      cases r2 with
      | @lst b' ws _ ht2 l2 rw2 =>
        exact ⟨a', b', vs, ws, rfl, .inl ⟨Same.sql a2.st.zh ht, Same.sql a2.st.zh ht2, k _ Z2 H2 (Same.refl _) a2.st (iter_zip l1 (walk_zip (K := X.K) rfl) (fun H' q' => ⟨Same.sql q' ht, Same.sql q' ht2⟩) rv rw2)⟩⟩
  · cases e
end Pu
set_option Elab.async false
set_option linter.all false
set_option maxRecDepth 100000
set_option maxHeartbeats 4000000
/-! Pu, part X: list comprehensions with two fors. -/
namespace Pu
open PySem PySem.Spec PyProof.Rows L2

def lc2Loop (gx : PV → Cells → Option Cells) (dc : Den PV) (di1 : Den (List PV)) (gx1 : PV → Cells → Option Cells) (dc1 de : Den PV) (own own1 : List Nat) : List PV → List PV → Den (List PV)
  | [], acc => Den.ret acc
  | x :: xs, acc => fun e => match gx x e with
    | none => none
    | some e1 => match dc e1 with
      | some (.ok (.bl true) e2) => (match di1 e2 with
        | some (.ok ys e3) => if acc.length + ys.length ≤ 100000 then (match lcLoop gx1 dc1 de own1 ys acc (wipeE e3 own1) with
            | some (.ok acc' e4) => lc2Loop gx dc di1 gx1 dc1 de own own1 xs acc' (wipeE e4 own)
            | _ => none) else none
        | _ => none)
      | some (.ok (.bl false) e2) => lc2Loop gx dc di1 gx1 dc1 de own own1 xs acc (wipeE e2 own)
      | _ => none
def dLc2 (di : Den (List PV)) (gx : PV → Cells → Option Cells) (dc : Den PV) (di1 : Den (List PV)) (gx1 : PV → Cells → Option Cells) (dc1 de : Den PV) (own own1 : List Nat) : Den (List PV) := di.bind fun xs e => lc2Loop gx dc di1 gx1 dc1 de own own1 xs [] (wipeE e own)
section
variable {X : Cx} {W : WX} {tg it tg1 it1 elt : Expr} {ifs ifs1 : List Expr} {scope : Scope} {own : List (Str × Nat)} {vs1 : List Nat} {pos : Pos} {di di1 : Den (List PV)} {t t1 : TG} {is is1 : List Nat} {gx gx1 : PV → Cells → Option Cells} {dc dc1 de : Den PV}
/-- what a target's rule says, without the context -/
abbrev TgOk (g : G) (t : TG) (is : List Nat) (gx : PV → Cells → Option Cells) : Prop := ∀ (f : Frm) (Z : Hp) (env : Cells) (σ : L2.St) (H : Hp) (v : V) (x : PV) (env' : Cells) (Q : L2.St → Hp → Prop), StOk g f Z H σ env → Rep g Z v x → gx x env = some env' →
  (∀ σ', StOk g f Z H σ' env' → (∀ vs : List Nat, (∀ i ∈ is, i ∈ vs) → wipe σ' vs = wipe σ vs) → Q σ' H) → t v σ H Q
theorem t_lc2 {σ : L2.St} {H : Hp} {Q : VK} {own : List Nat} (hg : TgOk (gOf X) t is gx) (his : ∀ i ∈ is, i ∈ own) (hg1 : TgOk (gOf X) t1 is1 gx1) (his1 : ∀ i ∈ is1, i ∈ vs1) (hv : ∀ i ∈ vs1, i ∈ own)
    (h : tO (gOf X) W (dLc2 di gx dc di1 gx1 dc1 de own vs1) σ H Q) : tLc2 (tI (gOf X) W di) t (tB (tP (gOf X) W0 dc)) (tI (gOf X) W0 di1) t1 (tB (tP (gOf X) W0 dc1)) (tP (gOf X) W0 de) own vs1 σ H Q := by
  obtain ⟨f, Z, env, a⟩ := h
  refine ⟨f, Z, env, a.bind.imp fun J H1 ⟨Z1, env1, xs, s1, r1, a1⟩ D nD => ?_⟩
  obtain ⟨n, G', Y, w, en, lz, hG, hY⟩ := r1.ex
  obtain ⟨st1, o, eo, po⟩ := a1
  have fD : f.H D = none := st1.fH nD
  have fZD : f.Z D = none := by
    cases q : f.Z D with
    | none => rfl
    | some u => rw [st1.zh _ _ (st1.z0 _ _ q)] at nD; cases nD
  have big : 100000 < sizeLine := by decide
  let Pv : Nat → Hp → Prop := fun i H => ∃ Zi e acc vs, Same Z1 Zi ∧ H D = some (.lst vs) ∧ vs.length ≤ 100000 ∧ Reps (gOf X) Zi vs acc ∧ Zi D = none ∧ ¬ Muts (wipe σ own) (wipeE e own) D ∧ StOk (gOf X) f Zi H (wipe σ own) (wipeE e own) ∧
      lc2Loop gx dc di1 gx1 dc1 de own vs1 (xs.drop i) acc (wipeE e own) = some o
  have nm0 : ¬ Muts (wipe σ own) (wipeE env1 own) D := fun m => by
    obtain ⟨_, ⟨u, q⟩, _⟩ := (st1.wipes own).muts m
    rw [nD] at q; cases q
  have p0 : Pv 0 (upd H1 D (.lst [])) := ⟨Z1, env1, [], [], Same.refl _, upd_same, Nat.zero_le _, .nil, st1.zn nD, nm0, (st1.wipes own).new nD, eo⟩
  refine ⟨fun i m H => m = n - i ∧ i ≤ n ∧ Pv i H, ⟨n, by simp, Nat.zero_le _, p0⟩, ?_⟩
  rintro i m H ⟨rfl, hi, Zi, e, acc, vs, sz, hD, lv, rv, zD, nm, st, ei⟩
  have hGi := hG H (sz.trans st.zh)
  by_cases hlt : i < n
  · refine .inr ⟨w.goes i H hlt hGi, Pv (i + 1), fun H' p' => ⟨n - (i + 1), by omega, rfl, hlt, p'⟩, fun v H' yl => ?_⟩
    obtain ⟨x, ex, k⟩ := hY i H v H' hlt (w.yields i H v H' hlt hGi yl)
    rw [drop_at ex] at ei
    obtain ⟨Z2, s2, st2, r2⟩ := k (f.plus D (.lst vs)) Zi (wipe σ own) (wipeE e own) sz (st.plus fD hD zD nm)
    cases hgx : gx x (wipeE e own) with
    | none => simp only [lc2Loop, hgx] at ei; cases ei
    | some e1 =>
      simp only [lc2Loop, hgx] at ei
      refine hg (f.plus D (.lst vs)) Z2 (wipeE e own) (wipe σ own) H' v x e1 _ st2 r2 hgx fun σ' st3 hw => ?_
      have hw2 : wipe σ' own = wipe σ own := (hw own his).trans (wipe_twice σ own own fun _ h => h)
      refine ⟨hw2, ?_⟩
      cases hdc : dc e1 with
      | none => rw [hdc] at ei; cases ei
      | some oc =>
        rw [hdc] at ei
        cases oc with
        | ex c e2 => cases ei
        | ok b e2 =>
          cases b with
          | bl b =>
            refine ⟨f.plus D (.lst vs), Z2, e1, st3, _, hdc, fun u Z3 H3 s3 st4 r3 => ?_⟩
            cases r3
            refine ⟨b, rfl, ?_⟩
            cases b with
            | false =>
              rw [if_neg Bool.false_ne_true]
              have st5 := st4.wipes own
              rw [hw2] at st5
              obtain ⟨st6, h6, z6, m6⟩ := st5.minus st.mh fZD fD
              exact ⟨Z3, e2, acc, vs, (sz.trans s2).trans s3, h6, lv, (rv.mono s2).mono s3, z6, m6, st6, ei⟩
            | true =>
              rw [if_pos rfl]
              cases hd1 : di1 e2 with
              | none => simp only [hd1] at ei; cases ei
              | some o1 =>
                cases o1 with
                | ex c e3 => simp only [hd1] at ei; cases ei
                | ok ys e3 =>
                  simp only [hd1] at ei
                  by_cases hfew : acc.length + ys.length ≤ 100000
                  · rw [if_pos hfew] at ei
                    refine ⟨f.plus D (.lst vs), Z3, e2, st4, _, hd1, fun J1 Z4 H4 s4 st5 r4 => ?_⟩
                    obtain ⟨n1, G1, Y1, w1, en1, lz1, hG1, hY1⟩ := r4.ex
                    cases hin : lcLoop gx1 dc1 de vs1 ys acc (wipeE e3 vs1) with
                    | none => rw [hin] at ei; cases ei
                    | some oin =>
                      rw [hin] at ei
                      cases oin with
                      | ex c e4 => cases ei
                      | ok acc' e4 =>
                        have ei : lc2Loop gx dc di1 gx1 dc1 de own vs1 (xs.drop (i + 1)) acc' (wipeE e4 own) = some o := ei
                        let P1 : Nat → Hp → Prop := fun j H => ∃ Zj e ac us, Same Z4 Zj ∧ H D = some (.lst us) ∧ us.length ≤ vs.length + j ∧ Reps (gOf X) Zj us ac ∧ Zj D = none ∧ ¬ Muts (wipe σ' vs1) (wipeE e vs1) D ∧ StOk (gOf X) f Zj H (wipe σ' vs1) (wipeE e vs1) ∧
                          lcLoop gx1 dc1 de vs1 (ys.drop j) ac (wipeE e vs1) = some (.ok acc' e4)
                        have q0 : P1 0 H4 := by
                          obtain ⟨st6, h6, z6, m6⟩ := (st5.wipes vs1).minus st.mh fZD fD
                          exact ⟨Z4, e3, acc, vs, Same.refl _, h6, Nat.le_refl _, ((rv.mono s2).mono s3).mono s4, z6, m6, st6, hin⟩
                        have lva : vs.length = acc.length := rv.length
                        refine ⟨fun j m H => m = n1 - j ∧ j ≤ n1 ∧ P1 j H, ⟨n1, by simp, Nat.zero_le _, q0⟩, ?_⟩
                        rintro j m H5 ⟨rfl, hj, Zj, ej, ac, us, sz1, hD1, lu, ru, zD1, nm1, stj, el⟩
                        have hGj := hG1 H5 (sz1.trans stj.zh)
                        by_cases hlt1 : j < n1
                        · refine .inr ⟨w1.goes j H5 hlt1 hGj, P1 (j + 1), fun H' p' => ⟨n1 - (j + 1), by omega, rfl, hlt1, p'⟩, fun v1 H6 yl1 => ?_⟩
                          obtain ⟨x1, ex1, k1⟩ := hY1 j H5 v1 H6 hlt1 (w1.yields j H5 v1 H6 hlt1 hGj yl1)
                          rw [drop_at ex1] at el
                          obtain ⟨Z6, s6, st6, r6⟩ := k1 (f.plus D (.lst us)) Zj (wipe σ' vs1) (wipeE ej vs1) sz1 (stj.plus fD hD1 zD1 nm1)
                          cases hgx1 : gx1 x1 (wipeE ej vs1) with
                          | none => simp only [lcLoop, hgx1] at el; cases el
                          | some f1 =>
                            simp only [lcLoop, hgx1] at el
                            refine hg1 (f.plus D (.lst us)) Z6 (wipeE ej vs1) (wipe σ' vs1) H6 v1 x1 f1 _ st6 r6 hgx1 fun σ3 st7 hw1 => ?_
                            have hw3 : wipe σ3 vs1 = wipe σ' vs1 := (hw1 vs1 his1).trans (wipe_twice σ' vs1 vs1 fun _ h => h)
                            refine ⟨hw3, ?_⟩
                            cases hdc1 : dc1 f1 with
                            | none => rw [hdc1] at el; cases el
                            | some oc1 =>
                              rw [hdc1] at el
                              cases oc1 with
                              | ex c f2 => cases el
                              | ok b1 f2 =>
                                cases b1 with
                                | bl b1 =>
                                  refine ⟨f.plus D (.lst us), Z6, f1, st7, _, hdc1, fun u1 Z7 H7 s7 st8 r7 => ?_⟩
                                  cases r7
                                  refine ⟨b1, rfl, ?_⟩
                                  cases b1 with
                                  | false =>
                                    rw [if_neg Bool.false_ne_true]
                                    have st9 := st8.wipes vs1
                                    rw [hw3] at st9
                                    obtain ⟨st10, h10, z10, m10⟩ := st9.minus st.mh fZD fD
                                    exact ⟨Z7, f2, ac, us, (sz1.trans s6).trans s7, h10, by omega, (ru.mono s6).mono s7, z10, m10, st10, el⟩
                                  | true =>
                                    rw [if_pos rfl]
                                    cases hde : de f2 with
                                    | none => simp only [hde] at el; cases el
                                    | some oe =>
                                      cases oe with
                                      | ex c f3 => simp only [hde] at el; cases el
                                      | ok yv f3 =>
                                        simp only [hde] at el
                                        refine ⟨f.plus D (.lst us), Z7, f2, st8, _, hde, fun u4 Z8 H8 s8 st9 r8 => ?_⟩
                                        have st10 := st9.wipes vs1
                                        rw [hw3] at st10
                                        obtain ⟨st11, h11, z11, m11⟩ := st10.minus st.mh fZD fD
                                        exact ⟨us, h11, by omega, Z8, f3, ac ++ [yv], us ++ [u4], ((sz1.trans s6).trans s7).trans s8, upd_same, by rw [List.length_append, List.length_singleton]; omega,
                                          (((ru.mono s6).mono s7).mono s8).append (.cons r8 .nil), z11, m11, st11.poke fD z11 m11, el⟩
                                | _ => cases el
                        · have ej1 : j = n1 := by omega
                          subst ej1
                          rw [en1, List.drop_length] at el
                          cases el
                          have st8 := (stj.plus fD hD1 zD1 nm1).wipes own
                          rw [wipe_twice σ' own vs1 hv, hw2] at st8
                          obtain ⟨st9, h9, z9, m9⟩ := st8.minus st.mh fZD fD
                          refine .inl ⟨w1.stops H5 hGj, Zj, wipeE ej vs1, _, us, ((sz.trans s2).trans s3).trans (s4.trans sz1), h9, by omega, ru, z9, m9, st9, ei⟩
                  · rw [if_neg hfew] at ei; cases ei
          | _ => cases ei
  · have e' : i = n := by omega
    subst e'
    rw [en, List.drop_length] at ei
    cases ei
    have nm' : ¬ Muts σ (wipeE e own) D := fun ⟨j, c, ej, m, sj⟩ => by
      have nj : j ∉ own := fun h => by rw [wipeE_in h ej] at m; cases m
      exact nm ⟨j, c, ej, m, by rw [wipe_get nj]; exact sj⟩
    exact .inl ⟨w.stops H hGi, po (.ref D) Zi H sz st.unwipe ⟨D, vs, rfl, zD, hD, by omega, rv, fD, nm'⟩⟩
abbrev BX (X : Cx) (scope : Scope) (s : Shared) (H : Hp) (C : Addr) (cl : List (Str × Addr)) (fp : List Addr) : Cx := X.blk s H scope (compEnvC scope cl C X.env) fp
theorem po_lc2 (hc : X.calm = true) (hN : X.N.Nodup) (hi : PIX X W tg it di) (ok : BlkOk X.N X.env.scope scope own) (hv : ∀ i ∈ vs1, i ∈ own.map (·.2))
    (hg : ∀ s H C cl fp, PGX (BX X scope s H C cl fp) tg t is gx) (his : ∀ i ∈ is, i ∈ own.map (·.2)) (ht : ∀ s H C cl fp, PTsX (BX X scope s H C cl fp) W0 ifs dc)
    (hi1 : ∀ s H C cl fp, PIX (BX X scope s H C cl fp) W0 tg1 it1 di1) (hg1 : ∀ s H C cl fp, PGX (BX X scope s H C cl fp) tg1 t1 is1 gx1) (his1 : ∀ i ∈ is1, i ∈ vs1) (ht1 : ∀ s H C cl fp, PTsX (BX X scope s H C cl fp) W0 ifs1 dc1)
    (he : ∀ s H C cl fp, PX (BX X scope s H C cl fp) W0 elt de) (hs : ∀ x, foldedSetIterable it X.env x = pure x := by intro _; rfl) (hs1 : ∀ env x, foldedSetIterable it1 env x = pure x := by intro _ _; rfl) :
    PO' X W (.ListComp elt [⟨tg, it, ifs, 0⟩, ⟨tg1, it1, ifs1, 0⟩] scope pos) (dLc2 di gx dc di1 gx1 dc1 de (own.map (·.2)) vs1) :=
  ⟨fun pins s σ H Q I h => (pe_lc2 (tt := tB (tP (gOf X) W0 dc)) (wi1 := tI (gOf X) W0 di1) (tt1 := tB (tP (gOf X) W0 dc1)) (te := tP (gOf X) W0 de) hc hN hi ok hv (fun s H C cl fp => (hg s H C cl fp).pg) ht hi1 (fun s H C cl fp => (hg1 s H C cl fp).pg) ht1 he hs hs1).run pins s σ H Q I
    (t_lc2 (X := X) (is := is) (is1 := is1) (fun f Z env σ H v x env' Q st r e k => (hg s (fun _ => none) 0 [] []).ok f Z env σ H v x env' Q st r e k) his (fun f Z env σ H v x env' Q st r e k => (hg1 s (fun _ => none) 0 [] []).ok f Z env σ H v x env' Q st r e k) his1 hv h)⟩
/-- name = [.. for .. for ..] -/
theorem psx_setLc2 {i : Nat} {y : Str} {py spos : Pos} (hc : X.calm = true) (hN : X.N.Nodup) (hy : X.N[i]? = some y) (hyl : X.env.scope.names.lookup y = some .local) (hsw : swapsWith (.ListComp elt [⟨tg, it, ifs, 0⟩, ⟨tg1, it1, ifs1, 0⟩] scope pos) (some (.Name y py)) spos.line X.env = pure true)
    (hi : PIX X W tg it di) (ok : BlkOk X.N X.env.scope scope own) (hv : ∀ i ∈ vs1, i ∈ own.map (·.2))
    (hg : ∀ s H C cl fp, PGX (BX X scope s H C cl fp) tg t is gx) (his : ∀ i ∈ is, i ∈ own.map (·.2)) (ht : ∀ s H C cl fp, PTsX (BX X scope s H C cl fp) W0 ifs dc)
    (hi1 : ∀ s H C cl fp, PIX (BX X scope s H C cl fp) W0 tg1 it1 di1) (hg1 : ∀ s H C cl fp, PGX (BX X scope s H C cl fp) tg1 t1 is1 gx1) (his1 : ∀ i ∈ is1, i ∈ vs1) (ht1 : ∀ s H C cl fp, PTsX (BX X scope s H C cl fp) W0 ifs1 dc1)
    (he : ∀ s H C cl fp, PX (BX X scope s H C cl fp) W0 elt de) (hs : ∀ x, foldedSetIterable it X.env x = pure x := by intro _; rfl) (hs1 : ∀ env x, foldedSetIterable it1 env x = pure x := by intro _ _; rfl) :
    PSX X W (.Assign [.Name y py] (.ListComp elt [⟨tg, it, ifs, 0⟩, ⟨tg1, it1, ifs1, 0⟩] scope pos) spos) (sSet i (dLstOf (dLc2 di gx dc di1 gx1 dc1 de (own.map (·.2)) vs1))) := by
  refine ⟨fun pins s σ H D I ⟨f, Z, env, a⟩ => (ps_setLc2 (tt := tB (tP (gOf X) W0 dc)) (wi1 := tI (gOf X) W0 di1) (tt1 := tB (tP (gOf X) W0 dc1)) (te := tP (gOf X) W0 de) hc hN hy hyl hsw hi ok hv (fun s H C cl fp => (hg s H C cl fp).pg) ht hi1 (fun s H C cl fp => (hg1 s H C cl fp).pg) ht1 he hs hs1).run pins s σ H D I ?_⟩
  have hσ : i < σ.length := by rw [I.len]; exact (List.getElem?_eq_some_iff.mp hy).1
  refine t_lc2 (X := X) (is := is) (is1 := is1) (fun f Z env σ H v x env' Q st r e k => (hg s (fun _ => none) 0 [] []).ok f Z env σ H v x env' Q st r e k) his (fun f Z env σ H v x env' Q st r e k => (hg1 s (fun _ => none) 0 [] []).ok f Z env σ H v x env' Q st r e k) his1 hv ⟨f, Z, env, ?_⟩
  obtain ⟨st, o, eo, po⟩ := a
  refine ⟨st, ?_⟩
  unfold sSet sOf dLstOf Den.bind at eo
  cases hd : dLc2 di gx dc di1 gx1 dc1 de (own.map (·.2)) vs1 env with
  | none => rw [hd] at eo; cases eo
  | some o1 =>
    rw [hd] at eo
    cases o1 with
    | ex c e1 => cases eo; exact ⟨_, rfl, fun cls dd Z' H' s st' r => po cls dd σ Z' H' s st' r⟩
    | ok xs e1 =>
      cases eo
      refine ⟨_, rfl, fun u Z1 H1 s1 st1 r1 => ?_⟩
      obtain ⟨Z2, s2, st2, r2⟩ := st1.ownF r1
      exact po _ Z2 H1 (s1.trans s2) (st2.setV r2 hσ)
end
end Pu
set_option Elab.async false
set_option linter.all false
set_option maxRecDepth 100000
set_option maxHeartbeats 4000000
/-! Pu, part Y: makers and methods as what stands behind the top. -/
namespace Pu
open PySem PySem.Spec PyProof.Rows L2
/-- C(..) may be called with κ levels left -/
abbrev DefIK (P : Program) (w : World) (K : PySem.W.Frag) (mg : Str → Option Value) (base : Heap) (c : Str) (ps : List Str) (κ : Nat) (F : FnI) : Prop :=
  ∃ k, k + 1 ≤ κ ∧ ∃ (C f : Addr) (fd : FuncData), mg c = some (.ref C) ∧ Mk K C f ∧ Binds K fd ps [] ∧ FnG P w K mg base (L2.CX P w) k f fd ps (SpI ⟨K, mg⟩ c ps.length F)
/-- the method m of the class c -/
abbrev DefTK (P : Program) (w : World) (K : PySem.W.Frag) (mg : Str → Option Value) (base : Heap) (c m : Str) (ps : List Str) (κ : Nat) (F : Fn) : Prop :=
  ∃ (C f : Addr) (fd : FuncData), mg c = some (.ref C) ∧ Cls K C ∧ Meth K C m f ∧ Binds K fd ps [] ∧ FnG P w K mg base (L2.CX P w) κ f fd ps (SpP ⟨K, mg⟩ ps.length F)
section
variable {P : Program} {w : World} {K : PySem.W.Frag} {mg : Str → Option Value} {base : Heap} {c m : Str} {ps : List Str} {i j : Nat}
theorem defIK_mono {F : FnI} (h : DefIK P w K mg base c ps i F) (l : i ≤ j) : DefIK P w K mg base c ps j F := let ⟨k, a, b⟩ := h; ⟨k, Nat.le_trans a l, b⟩
theorem defTK_mono {F : Fn} (h : DefTK P w K mg base c m ps i F) (l : i ≤ j) : DefTK P w K mg base c m ps j F := let ⟨C, f, fd, a, b, d, e, g⟩ := h; ⟨C, f, fd, a, b, d, e, g.mono l⟩
end
section
variable {X : Cx} {W : WX} {κ : Nat} {c : Str} {ps : List Str} {F : FnI} {p pos : Pos} {e : Expr} {es : List Expr} {ds : Den (List PV)}
theorem px_makeK (D : DefIK X.prog X.w X.K X.mg X.base c ps κ F) (tk : Takes X W) (hr : RoomG κ X.A) (hg : Gl X c) (ha : PAX X W (e :: es) ds) {n : Nat} (hl : Len ds n) (hn : n + 1 = ps.length := by rfl) (hdb : (c == ("__debug__" : Str)) = false := by decide)
    (he : starEach (e :: es) X.env = (false, eval e X.env) :: starEach es X.env := by rfl) (hpl : (backTo pos (starEach es X.env)).any (·.1) = false := by rfl) : PX X W (.Call (.Name c p) (e :: es) [] pos) (dMake c F ds) := by
  obtain ⟨k, hk, D⟩ := D
  exact px_make ⟨D⟩ tk (hr.mono hk) hg ha hl hn hdb he hpl
end
theorem clsF_all {K : PySem.W.Frag} {mg : Str → Option Value} {c f : Str} {C : Addr} (g : mg c = some (.ref C)) (h : Cls K C) (n : NoAttr K C f) : ClsF K mg c [f] := ⟨C, g, h, fun x hx => by rw [List.mem_singleton.mp hx]; exact n⟩
theorem cls_nil {K : PySem.W.Frag} {mg : Str → Option Value} {f : Str} : ∀ c ∈ ([] : List Str), ClsF K mg c [f] := fun c h => by cases h
theorem cls_cons {K : PySem.W.Frag} {mg : Str → Option Value} {f c : Str} {cs : List Str} (a : ClsF K mg c [f]) (h : ∀ c ∈ cs, ClsF K mg c [f]) : ∀ d ∈ c :: cs, ClsF K mg d [f] := fun d hd => by
  rcases List.mem_cons.mp hd with e | e
  · rw [e]; exact a
  · exact h d e
end Pu
set_option Elab.async false
set_option linter.all false
set_option maxRecDepth 100000
set_option maxHeartbeats 4000000
/-! Pu, part Z: defs with a star parameter. -/
namespace Pu
open PySem PySem.Spec PyProof.Rows L2

/-- what a def keeps, its binding within -/
structure FnGV (P : Program) (w : World) (K : PySem.W.Frag) (mg : Str → Option Value) (base : Heap) (k : Nat) (f : Addr) (sp : Sp) : Prop where
  run : ∀ (A : Around) (outer : List PySem.Env) (s : Shared) (H : Hp) (us : List Value) (vs : List V) (Q : VK) (E : XK), RoomG k A → Env0 P w K mg base A outer s H → Vals vs us → sp vs H Q E →
    codeAny (model P w) A (.call (.ref f) ⟨us, []⟩) (CR (L2.CX P w) outer P w H s Q E) s
theorem FnGV.mono {P : Program} {w : World} {K : PySem.W.Frag} {mg : Str → Option Value} {base : Heap} {j k : Nat} {f : Addr} {sp : Sp} (F : FnGV P w K mg base j f sp) (h : j ≤ k) : FnGV P w K mg base k f sp :=
  ⟨fun A outer s H us vs Q E hr => F.run A outer s H us vs Q E (hr.mono h)⟩
/-- m parameters ahead of the star one, at most l arguments for it -/
def BindV (fd : FuncData) (ps : List Str) (m l : Nat) : Prop := ∀ us : List Value, m ≤ us.length → us.length ≤ m + l → bindArgs fd ⟨us, []⟩ = (newTuple (us.drop m) >>= fun t => pure (ps.zip (us.take m ++ [t])))
theorem cx_ahead {P : Program} {w : World} {outer : List PySem.Env} {s : Shared} {H : Hp} {h2 : Heap} {p : Addr} {o : HO} {E : XK} {e : Value} {s' : Shared} (kp : ∀ b u, s.heap.get? b = some u → h2.get? b = some u) (hp : s.heap.objs.size ≤ p) (hn : H p = none)
    (c : L2.CX P w outer (upd H p o) { s with heap := h2 } E e s') : L2.CX P w outer H s E e s' := by
  obtain ⟨a, B, H', cls, d, h1, h3, h4, ub, h5, h6, h7, h8⟩ := c
  have ne : ∀ {b : Addr} {u : Obj}, s.heap.get? b = some u → b ≠ p := fun q => Nat.ne_of_lt (Nat.lt_of_lt_of_le (Heap.lt_size q) hp)
  have nh : ∀ {b : Addr} {u : HO}, H b = some u → upd H p o b = some u := fun q => by rw [upd_ne (ne_of_none q hn)]; exact q
  refine ⟨a, B, H', cls, d, h1, h3, h4, ⟨fun b u q z f => ub.keep b u (kp b u q) (by rw [upd_ne (ne q)]; exact z) f, fun b u q f => ub.slot b u (kp b u q) f, fun b u q z => ub.free b u (kp b u q) (by rw [upd_ne (ne q)]; exact z), fun b u q f => ub.there b u (kp b u q) f, fun b xs q => ub.tups b xs (nh q), fun b u xs q => ub.frzs b u xs (nh q), fun b ts q => ub.tbls b ts (nh q)⟩, h5, h6, h7, h8⟩
section
variable {P : Program} {w : World} {K : PySem.W.Frag} {mg : Str → Option Value} {base : Heap}
theorem fnV_of {k m l : Nat} {f : Addr} {x qual : Str} {params : Arguments} {body : List Stmt} {scope : Scope} {dvs : List V} {kws : List (Str × V)} {fd : FuncData} {N ps : List Str} {sp : Sp} (F : FunD K x qual params body scope dvs kws f fd) (S : FnScope N ps scope) (hm : m + 1 = ps.length) (lz : l ≤ sizeLine) (hb : BindV fd ps m l)
    (hbody : ∀ (cdv : Value) (A : Around) (outer : List PySem.Env) (s : Shared) (H : Hp) (vs : List V) (Q : VK) (E : XK), RoomG k (A.deeper (envOfC qual scope s.heap.objs.size f cdv)) → sp vs H Q E →
      ∃ t, PSs (cxOf (L2.CX P w) P w K mg base N qual scope f cdv A outer s H E) body t ∧ t { nx := fun _ H' => Q .non H', rt := Q } (start N vs) H) :
    FnGV P w K mg base (k + 1) f (fun vs H Q E => m ≤ vs.length ∧ vs.length ≤ m + l ∧ ∀ p o, H p = none → o.dict = none → sp (vs.take m ++ [.ref p]) (upd H p (.frz o (.tup (vs.drop m)))) Q E) := by
  obtain ⟨oc, od, dV, kV, doc, pm, an, cdv, ct, osl, rfl, lk, hcd, _, _⟩ := F.ex
  refine ⟨fun A outer s H us vs Q E hr e0 r ⟨l1, l2, hsp⟩ => ?_⟩
  have lv := r.length
  have kin : K.In s.heap := e0.mod.kin.keeps fun b o q => (e0.bs b o q).1
  have hn : H s.heap.objs.size = none := e0.hok.fresh (Nat.le_refl _)
  generalize hT : ({ cls := .type "tuple", data := .seq (us.drop m).toArray } : Obj) = T
  generalize hs2 : ({ s with heap := s.heap.push T } : Shared) = s2
  generalize hH2 : upd H s.heap.objs.size (.frz T (.tup (vs.drop m))) = H2
  have kp : ∀ b o, s.heap.get? b = some o → s2.heap.get? b = some o := fun b o q => by rw [← hs2]; exact Heap.get?_push_of_some _ q
  have at2 : s2.heap.get? s.heap.objs.size = some T := by rw [← hs2]; exact Heap.get?_push_size _ (by rw [← hT]; rfl)
  have few : (vs.drop m).length ≤ sizeLine := by rw [List.length_drop]; omega
  have rd : Vals (vs.drop m) (us.drop m) := r.drop m
  have hok2 : HOk P w H2 s2.heap := by
    rw [← hH2]
    exact e0.hok.laid kp (Nat.le_refl _) ⟨at2, few, us.drop m, rd, ⟨T, at2, by rw [← hT], 0, by rw [← hT]⟩⟩
  have un : Un (frs outer) [] H H2 s.heap s2.heap := by rw [← hH2]; exact Un.laid kp (Nat.le_refl _) hn
  have e2 : Env0 P w K mg base A outer s2 H2 := by
    refine ⟨e0.frames, e0.mod, fun b o q => ⟨kp b o (e0.bs b o q).1, ?_⟩, ?_, Heap.FunFrames.of_keeps (fun b o q _ => ⟨o, kp b o q, rfl⟩) e0.funs, fun b hb2 => ?_, hok2, by rw [← hs2]; exact e0.bare⟩
    · rw [← hH2, upd_ne (Nat.ne_of_lt (Heap.lt_size (e0.bs b o q).1))]; exact (e0.bs b o q).2
    · rw [← hs2]
      show base.objs.size ≤ (s.heap.push T).objs.size
      rw [Heap.size_push]; exact Nat.le_succ_of_le e0.bsz
    · obtain ⟨_, o, ho, _⟩ := e0.funs.mem hb2
      rw [← hH2, upd_ne (Nat.ne_of_lt (Heap.lt_size ho))]; exact e0.frf b hb2
  have lim : s2.heap.NoLimit := e0.mod.nolimit.keeps fun b o q => (e2.bs b o q).1
  have r2 : Vals (vs.take m ++ [V.ref s.heap.objs.size]) (us.take m ++ [Value.ref s.heap.objs.size]) := (r.take m).append (.cons rfl .nil)
  have n2 : (vs.take m ++ [V.ref s.heap.objs.size]).length = ps.length := by rw [List.length_append, List.length_take, List.length_singleton]; omega
  have kinds : ∀ y ∈ ps.zip (us.take m ++ [Value.ref s.heap.objs.size]), scope.names.lookup y.1 = some .local ∨ (scope.names.lookup y.1 = some .cell ∧ ((cellsFrom (s2.heap.objs.size + 1) scope.names []).lookup y.1).isSome = true) := fun y hy => by
    cases S.par y.1 (List.of_mem_zip (a := y.1) (b := y.2) hy).1 with
    | inl c => exact Or.inl c
    | inr c => exact Or.inr ⟨c, PySem.W.cellsFrom_some _ _ _ (Or.inl c)⟩
  refine codeAny_call_function hr.toRoom.depth (kin _ _ lk) rfl S.co S.gen rfl (PySem.W.codeRec_of kin hcd) ?_
  rw [hb us (by omega) (by omega)]
  refine wpAny_bind (wpAny_newTuple (wpAny_pure ?_) (by rw [List.length_drop]; omega))
  rw [hT, hs2]
  refine wpAny_newFunctionEnv_cells S.kind kinds fun env henv s3 c => ?_
  cases henv
  refine ⟨lim.keeps c.toInCall.keep, codeAny_func ?_⟩
  have hp := hsp s.heap.objs.size T hn (by rw [← hT])
  rw [hH2] at hp
  obtain ⟨t, pt, hq⟩ := hbody cdv A outer s2 H2 _ Q E (hr.deeper _) hp
  refine wpAny_mono (pt.run [] s3 _ H2 _ (inv_start (CX := L2.CX P w) (E := E) S hr.toRoom.hd e2 n2 r2 c) hq) (fun fl s' h => ?_) fun e s' h => wpAny_mono h (fun _ s'' z => ?_) fun e' s'' z => ?_
  · cases fl with
    | ret u =>
      obtain ⟨v, σ', H', J, rv, q⟩ := h
      exact ⟨v, H', J.os.trans (show s2.os = s.os by rw [← hs2]), J.bare, un.trans J.base, J.hok, rv, q⟩
    | next =>
      obtain ⟨σ', H', J, q⟩ := h
      exact ⟨V.non, H', J.os.trans (show s2.os = s.os by rw [← hs2]), J.bare, un.trans J.base, J.hok, (rfl : Value.none = Value.none), q⟩
    | brk => exact (h.choose_spec.choose_spec.2 : False).elim
    | cont => exact (h.choose_spec.choose_spec.2 : False).elim
  · rw [← hH2, ← hs2] at z
    exact cx_ahead (fun b u q => Heap.get?_push_of_some _ q) (Nat.le_refl _) hn z
  · rw [← hH2, ← hs2] at z
    exact cx_ahead (fun b u q => Heap.get?_push_of_some _ q) (Nat.le_refl _) hn z
end
/-! ### by data -/
/-- m arguments, then a tuple of the others, at most l -/
def SpV (g : G) (m l : Nat) (F : Fn) : Sp := fun vs H Q E => ∃ Z args o, Same Z H ∧ Reps g Z vs args ∧ m ≤ args.length ∧ args.length ≤ m + l ∧ F (args.take m ++ [.tup (args.drop m)]) = some o ∧ match o with
  | .ok r => ∀ u Z' H', Ext Z H Z' H' → Rep g Z' u r → Q u H'
  | .error c => ∀ cls dd Z' H', Ext Z H Z' H' → ExRep g c cls dd Z' H' → E cls dd H'
def callV (F : Fn) (m : Nat) (xs : List PV) : Den PV := callK F (xs.take m ++ [.tup (xs.drop m)])
def dCallV (F : Fn) (m : Nat) (ds : Den (List PV)) : Den PV := ds.bind fun xs => callV F m xs
theorem spV_lay {g : G} {m l : Nat} {F : Fn} {vs : List V} {H : Hp} {Q : VK} {E : XK} {p : Addr} {o : Obj} (lz : l ≤ sizeLine) (h : SpV g m l F vs H Q E) (n : H p = none) (d : o.dict = none) : SpP g (m + 1) F (vs.take m ++ [.ref p]) (upd H p (.frz o (.tup (vs.drop m)))) Q E := by
  obtain ⟨Z, args, r, e, ra, l1, l2, hF, hr⟩ := h
  have zn : Z p = none := by
    cases q : Z p with
    | none => rfl
    | some u => rw [e _ _ q] at n; cases n
  have zz : Same Z (upd Z p (.frz o (.tup (vs.drop m)))) := same_upd zn
  have hh : Same H (upd H p (.frz o (.tup (vs.drop m)))) := same_upd n
  have lv := ra.length
  refine ⟨upd Z p (.frz o (.tup (vs.drop m))), args.take m ++ [.tup (args.drop m)], r, fun b u q => ?_, ((ra.take m).mono zz).append (.cons (.tup (.inl ⟨o, upd_same, d⟩) (by rw [List.length_drop]; omega) ((ra.drop m).mono zz)) .nil), by rw [List.length_append, List.length_take, List.length_singleton]; omega, hF, ?_⟩
  · by_cases hb : b = p
    · subst hb; rw [upd_same] at q ⊢; exact q
    · rw [upd_ne hb] at q ⊢; exact e _ _ q
  · have ext : ∀ {Z' H' : Hp}, Ext (upd Z p (.frz o (.tup (vs.drop m)))) (upd H p (.frz o (.tup (vs.drop m)))) Z' H' → Ext Z H Z' H' := fun x =>
      ⟨zz.trans x.zz, hh.trans x.hh, x.zh, fun a u q z => x.nz a u (hh _ _ q) (by rw [upd_ne (ne_of_none q n)]; exact z)⟩
    cases r with
    | ok v => exact fun u Z' H' x => hr u Z' H' (ext x)
    | error c => exact fun cls dd Z' H' x => hr cls dd Z' H' (ext x)
section
variable {P : Program} {w : World} {K : PySem.W.Frag} {mg : Str → Option Value} {base : Heap}
theorem fnGV_imp {k : Nat} {f : Addr} {sp sp' : Sp} (F : FnGV P w K mg base k f sp) (h : ∀ vs H Q E, sp' vs H Q E → sp vs H Q E) : FnGV P w K mg base k f sp' :=
  ⟨fun A outer s H us vs Q E hr e0 r q => F.run A outer s H us vs Q E hr e0 r (h _ _ _ _ q)⟩
theorem fnV {m l : Nat} {x qual : Str} {params : Arguments} {body : List Stmt} {scope : Scope} {dvs : List V} {kws : List (Str × V)} {f : Addr} {fd : FuncData} {N ps : List Str} {k : Nat} {d : SDen} (F : FunD K x qual params body scope dvs kws f fd) (S : FnScope N ps scope) (hm : m + 1 = ps.length) (lz : l ≤ sizeLine) (hbd : BindV fd ps m l)
    (hb : ∀ (cdv : Value) (A : Around) (outer : List PySem.Env) (s : Shared) (H : Hp) (E : XK), RoomG k (A.deeper (envOfC qual scope s.heap.objs.size f cdv)) →
      Takes (cxOf (L2.CX P w) P w K mg base N qual scope f cdv A outer s H E) (fun cls dd _ H' => E cls dd H') →
      PSsX (cxOf (L2.CX P w) P w K mg base N qual scope f cdv A outer s H E) (fun cls dd _ H' => E cls dd H') body d) :
    FnGV P w K mg base (k + 1) f (SpV ⟨K, mg⟩ m l (fnDen N.length d)) := by
  refine fnGV_imp (fnV_of (sp := SpP ⟨K, mg⟩ (m + 1) (fnDen N.length d)) F S hm lz hbd fun cdv A outer s H vs Q E hr h => ?_) fun vs H Q E h => ?_
  · refine ⟨_, hb cdv A outer s H E hr (takes_of rfl rfl rfl rfl), ?_⟩
    obtain ⟨Z, args, o, e, r, ln, hF, ho⟩ := h
    have hpl : ps.length ≤ N.length := by have := congrArg List.length S.pre; rw [List.length_take] at this; omega
    have st : StOk ⟨K, mg⟩ ⟨Z, H, fun _ => False⟩ Z H (start N vs) (args.map .v ++ List.replicate (N.length - args.length) .un) := stok_start e r (by rw [r.length]; omega)
    have ex : ∀ {Z' H' : Hp} {σ' : L2.St} {env' : Cells}, Same Z Z' → StOk ⟨K, mg⟩ ⟨Z, H, fun _ => False⟩ Z' H' σ' env' → Ext Z H Z' H' := fun {Z' H' σ' env'} s st => ⟨s, fun a o q => st.fr a o q (fun z => z), st.zh, fun a o q z => st.nz a o q (fun z => z) z⟩
    refine ⟨_, Z, _, st, ?_⟩
    unfold fnDen at hF
    cases hd : d (args.map .v ++ List.replicate (N.length - args.length) .un) with
    | none => rw [hd] at hF; cases hF
    | some so =>
      rw [hd] at hF
      cases so with
      | rt v e1 => cases hF; exact ⟨_, rfl, fun u σ' Z' H' s st' rv => ho u Z' H' (ex s st') rv⟩
      | nx e1 => cases hF; exact ⟨_, rfl, fun σ' Z' H' s st' => ho .non Z' H' (ex s st') .non⟩
      | ex c e1 => cases hF; exact ⟨_, rfl, fun cls dd σ' Z' H' s st' rv => ho cls dd Z' H' (ex s st') rv⟩
      | bk e1 => cases hF
      | ct e1 => cases hF
  · have h0 := h
    obtain ⟨Z, args, o, e, r, l1, l2, _, _⟩ := h0
    exact ⟨by rw [r.length]; exact l1, by rw [r.length]; exact l2, fun p o n d => spV_lay lz h n d⟩
/-- what a caller needs -/
abbrev DefVK (P : Program) (w : World) (K : PySem.W.Frag) (mg : Str → Option Value) (base : Heap) (x : Str) (m l : Nat) (k : Nat) (F : Fn) : Prop :=
  ∃ f : Addr, mg x = some (.ref f) ∧ PySem.W.keepIn K (.ref f) = true ∧ FnGV P w K mg base k f (SpV ⟨K, mg⟩ m l F)
theorem defVK_mono {x : Str} {m l i j : Nat} {F : Fn} (h : DefVK P w K mg base x m l i F) (le : i ≤ j) : DefVK P w K mg base x m l j F := let ⟨f, a, b, c⟩ := h; ⟨f, a, b, c.mono le⟩
end
section
variable {X : Cx} {W : WX} {k m l : Nat} {x : Str} {F : Fn} {p pos : Pos} {e : Expr} {es : List Expr} {ds : Den (List PV)}
theorem px_callV (D : DefVK X.prog X.w X.K X.mg X.base x m l k F) (tk : Takes X W) (hr : RoomG k X.A) (hg : Gl X x) (ha : PAX X W (e :: es) ds) {n : Nat} (hl : Len ds n) (h1 : m ≤ n := by decide) (h2 : n ≤ m + l := by decide) (hdb : (x == ("__debug__" : Str)) = false := by decide)
    (he : starEach (e :: es) X.env = (false, eval e X.env) :: starEach es X.env := by rfl) (hpl : (backTo pos (starEach es X.env)).any (·.1) = false := by rfl) : PX X W (.Call (.Name x p) (e :: es) [] pos) (dCallV F m ds) := by
  obtain ⟨f, hm, hk, ok⟩ := D
  refine ⟨fun pins s σ H Q I ⟨fr, Z, env, a⟩ => ?_⟩
  have q0 : tPs (gOf X) W ds σ H fun vs H1 => SpV (gOf X) m l F vs H1 Q (WE W σ) := by
    obtain ⟨st, o, eo, po⟩ := a
    refine ⟨fr, Z, env, st, ?_⟩
    unfold dCallV Den.bind at eo
    cases hds : ds env with
    | none => rw [hds] at eo; cases eo
    | some o1 =>
      rw [hds] at eo
      cases o1 with
      | ex c e1 =>
        have eo : some (Out.ex c e1) = some o := eo
        cases eo
        exact ⟨_, rfl, po⟩
      | ok xs e1 =>
        have eo : callK F (xs.take m ++ [.tup (xs.drop m)]) e1 = some o := eo
        refine ⟨_, rfl, fun us Z1 H1 s1 st1 r1 => ?_⟩
        unfold callK at eo
        cases hF : F (xs.take m ++ [.tup (xs.drop m)]) with
        | none => rw [hF] at eo; cases eo
        | some r =>
          rw [hF] at eo
          have ln := hl _ _ _ hds
          refine ⟨Z1, xs, r, st1.zh, r1, by omega, by omega, hF, ?_⟩
          cases r with
          | ok v => cases eo; exact fun u Z' H' ex rv => po u Z' H' (s1.trans ex.zz) (st1.ext ex) rv
          | error c => cases eo; exact fun cls dd Z' H' ex rv => po cls dd Z' H' (s1.trans ex.zz) (st1.ext ex) rv
  refine wpAny_Call_Name_kw (ld_glob I hg hm ?_ hdb)
  refine PySem.W.callWith_K (h₀ := X.base) I.ok.mod.kin hk (thn (ha.run pos pins s σ H _ I q0) fun us s1 ⟨vs, H1, I1, r, q⟩ => ⟨I1.kIn, ?_⟩) he hpl
  refine wpAny_call (codeAny_mono (ok.run X.A X.stack s1 H1 us vs Q (WE W σ) hr I1.env0 r q) fun r s' hq => ?_)
  cases r with
  | error e => exact passAt tk σ pins H1 s1 e s' I1 hq
  | ok fl =>
    cases fl with
    | ret u => exact I1.after hq
    | next => exact False.elim hq
    | brk => exact False.elim hq
    | cont => exact False.elim hq
end
end Pu
set_option Elab.async false
set_option linter.all false
set_option maxRecDepth 100000
set_option maxHeartbeats 4000000
/-! Pv, part B: trees (ints, texts, tuples of trees): a < b where the first difference can be compared; lists of trees sorted. -/
namespace Pu
open PySem PySem.Spec PyProof.Rows L2 PySem.SeqAt PySem.W

mutual
def treeD : PyData → Bool
  | .int _ => true
  | .str s => PyData.strOk s
  | .tuple xs => treesD xs
  | _ => false
def treesD : List PyData → Bool
  | [] => true
  | x :: xs => treeD x && treesD xs
end
mutual
/-- the first place that differs can be compared -/
def cmpD : PyData → PyData → Bool
  | .int _, .int _ => true
  | .str _, .str _ => true
  | .tuple xs, .tuple ys => cmpsD xs ys
  | _, _ => false
def cmpsD : List PyData → List PyData → Bool
  | [], _ => true
  | _ :: _, [] => true
  | x :: xs, y :: ys => if PyData.eqv x y then cmpsD xs ys else cmpD x y
end
theorem trees_cons {x : PyData} {xs : List PyData} (h : treesD (x :: xs) = true) : treeD x = true ∧ treesD xs = true := Bool.and_eq_true_iff.mp h
mutual
theorem tree_eq : ∀ {x y : PyData}, treeD x = true → treeD y = true → PyData.eqv x y = true → x = y
  | .int i, y, _, hy, e => by
    cases y with
    | int j => rw [show i = j by simpa [PyData.eqv] using e]
    | str _ => simp [PyData.eqv] at e
    | tuple _ => simp [PyData.eqv] at e
    | _ => cases hy
  | .str i, y, _, hy, e => by
    cases y with
    | str j => rw [show i = j by simpa [PyData.eqv] using e]
    | int _ => simp [PyData.eqv] at e
    | tuple _ => simp [PyData.eqv] at e
    | _ => cases hy
  | .tuple xs, y, hx, hy, e => by
    cases y with
    | tuple ys => rw [trees_eq (xs := xs) (ys := ys) hx hy (by simpa [PyData.eqv] using e)]
    | int _ => simp [PyData.eqv] at e
    | str _ => simp [PyData.eqv] at e
    | _ => cases hy
  | .none, _, h, _, _ => by cases h
  | .bool _, _, h, _, _ => by cases h
  | .list _, _, h, _, _ => by cases h
  | .dict _, _, h, _, _ => by cases h
theorem trees_eq : ∀ {xs ys : List PyData}, treesD xs = true → treesD ys = true → PyData.eqvAll xs ys = true → xs = ys
  | [], [], _, _, _ => rfl
  | [], _ :: _, _, _, e => by simp [PyData.eqvAll] at e
  | _ :: _, [], _, _, e => by simp [PyData.eqvAll] at e
  | x :: xs, y :: ys, hx, hy, e => by
    rw [eqv_all_cons] at e
    obtain ⟨e1, e2⟩ := Bool.and_eq_true_iff.mp e
    rw [tree_eq (trees_cons hx).1 (trees_cons hy).1 e1, trees_eq (trees_cons hx).2 (trees_cons hy).2 e2]
end
mutual
theorem tree_lay : ∀ {x : PyData}, treeD x = true → x.canLay0 = true
  | .int _, _ => rfl
  | .str s, h => by
    have h : PyData.strOk s = true := h
    simpa [PyData.canLay0] using h
  | .tuple xs, h => by
    have q := trees_lay (xs := xs) h
    simpa [PyData.canLay0] using q
  | .none, h => by cases h
  | .bool _, h => by cases h
  | .list _, h => by cases h
  | .dict _, h => by cases h
theorem trees_lay : ∀ {xs : List PyData}, treesD xs = true → PyData.canLayAll0 xs = true
  | [], _ => rfl
  | x :: xs, h => by
    have a := tree_lay (trees_cons h).1
    have b := trees_lay (trees_cons h).2
    simp [PyData.canLayAll0, a, b]
end
abbrev lexT := PyProof.Rows.lexLt itemOrd
theorem lex_in (i : Int ⊕ List Nat) (p a b : List (Int ⊕ List Nat)) : lexT (i :: (p ++ a)) (i :: (p ++ b)) = lexT a b := (lex_self (O := itemOrd) i _ _).trans (lex_pre p a b)
mutual
/-- what differs differs in the signs, whatever stands behind -/
theorem toks_ne : ∀ (x y : PyData), treeD x = true → treeD y = true → cmpD x y = true → PyData.eqv x y = false → ∀ l m, lexT (keyToks x ++ l) (keyToks y ++ m) = lexT (keyToks x) (keyToks y)
  | .int i, y, _, _, h, e, l, m => by
    cases y with
    | int j => exact (toks_eqv (.int i) (.int j) rfl).2 e l m
    | _ => cases h
  | .str i, y, _, _, h, e, l, m => by
    cases y with
    | str j => exact (toks_eqv (.str i) (.str j) rfl).2 e l m
    | _ => cases h
  | .tuple xs, y, hx, hy, h, e, l, m => by
    cases y with
    | tuple ys => simp only [keyToks]; exact toks_nes xs ys hx hy h (by simpa [PyData.eqv] using e) l m
    | _ => cases h
  | .none, _, h, _, _, _, _, _ => by cases h
  | .bool _, _, h, _, _, _, _, _ => by cases h
  | .list _, _, h, _, _, _, _, _ => by cases h
  | .dict _, _, h, _, _, _, _, _ => by cases h
theorem toks_nes : ∀ (xs ys : List PyData), treesD xs = true → treesD ys = true → cmpsD xs ys = true → PyData.eqvAll xs ys = false → ∀ l m, lexT (keyToksAll xs ++ l) (keyToksAll ys ++ m) = lexT (keyToksAll xs) (keyToksAll ys)
  | [], [], _, _, _, e, _, _ => by simp [PyData.eqvAll] at e
  | [], y :: ys, _, _, _, _, l, m => by rw [toks_all_cons]; simp only [keyToksAll]; exact lex_atom (by simp) _ _ |>.trans (lex_atom (by simp) [] _).symm
  | x :: xs, [], _, _, _, _, l, m => by rw [toks_all_cons]; simp only [keyToksAll]; exact lex_atom (by simp) _ _ |>.trans (lex_atom (by simp) _ []).symm
  | x :: xs, y :: ys, hx, hy, h, e, l, m => by
    rw [eqv_all_cons] at e
    have h : (if PyData.eqv x y then cmpsD xs ys else cmpD x y) = true := h
    rw [toks_all_cons, toks_all_cons]
    simp only [List.cons_append, List.append_assoc]
    cases q : PyData.eqv x y with
    | true =>
      rw [q, Bool.true_and] at e
      rw [if_pos q] at h
      rw [tree_eq (trees_cons hx).1 (trees_cons hy).1 q, lex_in, lex_in]
      exact toks_nes xs ys (trees_cons hx).2 (trees_cons hy).2 h e l m
    | false =>
      rw [if_neg (by rw [q]; exact Bool.false_ne_true)] at h
      have k := toks_ne x y (trees_cons hx).1 (trees_cons hy).1 h q
      rw [show ∀ a b : List (Int ⊕ List Nat), lexT (Sum.inl 1 :: a) (Sum.inl 1 :: b) = lexT a b from fun a b => lex_self (O := itemOrd) _ a b, k, show ∀ a b : List (Int ⊕ List Nat), lexT (Sum.inl 1 :: a) (Sum.inl 1 :: b) = lexT a b from fun a b => lex_self (O := itemOrd) _ a b, k]
end
theorem lt_yes {x y : PyData} {xs ys : List PyData} (hx : treesD (x :: xs) = true) (hy : treesD (y :: ys) = true) (e : PyData.eqv x y = true) : lexT (keyToksAll (x :: xs)) (keyToksAll (y :: ys)) = lexT (keyToksAll xs) (keyToksAll ys) := by
  rw [toks_all_cons, toks_all_cons, tree_eq (trees_cons hx).1 (trees_cons hy).1 e, lex_in]
theorem lt_no {x y : PyData} {xs ys : List PyData} (hx : treesD (x :: xs) = true) (hy : treesD (y :: ys) = true) (h : cmpD x y = true) (e : PyData.eqv x y = false) : lexT (keyToksAll (x :: xs)) (keyToksAll (y :: ys)) = dataLt x y := by
  rw [toks_all_cons, toks_all_cons]
  exact (lex_self (O := itemOrd) _ _ _).trans (toks_ne x y (trees_cons hx).1 (trees_cons hy).1 h e _ _)
theorem cmps_yes {x y : PyData} {xs ys : List PyData} (h : cmpsD (x :: xs) (y :: ys) = true) (e : PyData.eqv x y = true) : cmpsD xs ys = true := by
  have h : (if PyData.eqv x y then cmpsD xs ys else cmpD x y) = true := h
  rwa [if_pos e] at h
theorem cmps_no {x y : PyData} {xs ys : List PyData} (h : cmpsD (x :: xs) (y :: ys) = true) (e : PyData.eqv x y = false) : cmpD x y = true := by
  have h : (if PyData.eqv x y then cmpsD xs ys else cmpD x y) = true := h
  rwa [if_neg (by rw [e]; exact Bool.false_ne_true)] at h
/-- the first place that differs -/
theorem first_toks : ∀ (xs ys : List PyData), treesD xs = true → treesD ys = true → cmpsD xs ys = true →
    firstLt (pairEq xs ys) (fun j => dataLt (xs.getD j .none) (ys.getD j .none)) (decide (xs.length < ys.length)) (List.range (min xs.length ys.length)) = lexT (keyToksAll xs) (keyToksAll ys)
  | [], [], _, _, _ => firstLt_toks [] [] rfl
  | [], y :: ys, _, _, _ => firstLt_toks [] (y :: ys) rfl
  | x :: xs, [], _, _, _ => firstLt_toks (x :: xs) [] rfl
  | x :: xs, y :: ys, hx, hy, h => by
    have em : min (x :: xs).length (y :: ys).length = min xs.length ys.length + 1 := by simp only [List.length_cons]; omega
    have ed : decide ((x :: xs).length < (y :: ys).length) = decide (xs.length < ys.length) := by simp
    rw [em, ed, List.range_succ_eq_map]
    cases q : PyData.eqv x y with
    | true => rw [firstLt_yes (show pairEq (x :: xs) (y :: ys) 0 = true from q), firstLt_map, lt_yes hx hy q, ← first_toks xs ys (trees_cons hx).2 (trees_cons hy).2 (cmps_yes h q)]; rfl
    | false => rw [firstLt_no (show pairEq (x :: xs) (y :: ys) 0 = false from q), lt_no hx hy (cmps_no h q) q]; rfl
/-! ### a < b of tuples: only the first difference is asked -/
def Asked (A : Around) (s : Shared) (items items2 : Array Value) (e r : Nat → Bool) : Prop :=
  (∀ j (h1 : j < items.size) (h2 : j < items2.size), EqAt A s items[j] items2[j] (e j)) ∧ ∀ j (h1 : j < items.size) (h2 : j < items2.size), (∀ i, i < j → e i = true) → e j = false → RcLt A s items[j] items2[j] (r j)
theorem tup_first (l b : Addr) (items items2 : Array Value) (n n2 : Nat) (dd dd2 : Option Addr) (sl sl2 : Array (Option Value)) (e r : Nat → Bool) : Meets (Builtin.«tuple.__lt__» ⟨[.ref l, .ref b], []⟩)
      (fun A R s => s.heap.get? l = some { cls := .type "tuple", dict := dd, data := .seq items n, slots := sl } ∧ s.heap.get? b = some { cls := .type "tuple", dict := dd2, data := .seq items2 n2, slots := sl2 } ∧ Asked A.in1 s items items2 e r ∧
        R (.ok (.ret (.bool (firstLt e r (decide (items.size < items2.size)) (List.range (min items.size items2.size)))))) s) :=
  .of_wp fun prog w A R s0 h => by
    obtain ⟨hp, g, d, tk, os⟩ := s0
    obtain ⟨hl, hb, ⟨he, hr⟩, hR0⟩ := h
    have isTup := AutoSeq1.sub_tuple_tuple
    generalize hN : min items.size items2.size = N at hR0
    have hZ : (items.toList.zip items2.toList).length = N := by rw [← hN]; simp
    wp_walk using wpAny_loadPart' hl, wpAny_loadPart' hb, wpAny_forIn_list _ (fun rest b s' => b.1 = none ∧ s' = ⟨hp, g, d, tk, os⟩ ∧ ∃ i, rest = (items.toList.zip items2.toList).drop i ∧ (∀ j, j < i → e j = true) ∧
      R (.ok (.ret (.bool (firstLt e r (decide (items.size < items2.size)) ((List.range N).drop i))))) ⟨hp, g, d, tk, os⟩) _
    case turn =>
      rintro ⟨y, x⟩ rest acc s1 ⟨_, rfl, i, hz, all, hR⟩
      have hlt : i < (items.toList.zip items2.toList).length := by
        refine Nat.lt_of_not_le fun z => ?_
        rw [List.drop_of_length_le z] at hz
        cases hz
      have hm : i < N := by rw [← hZ]; exact hlt
      have h1 : i < items.size := by omega
      have h2 : i < items2.size := by omega
      rw [List.drop_eq_getElem_cons hlt] at hz
      obtain ⟨hyx, hrest⟩ := List.cons.inj hz
      obtain ⟨hy, hx⟩ := Prod.mk.inj (hyx.trans (by simp : (items.toList.zip items2.toList)[i] = (items[i], items2[i])))
      subst hy hx
      rw [show (List.range N).drop i = i :: (List.range N).drop (i + 1) by rw [List.drop_eq_getElem_cons (by simpa using hm)]; simp] at hR
      refine wpAny_bind (he i h1 h2 prog w _ _ ?_)
      cases q : e i with
      | true =>
        rw [firstLt_yes q] at hR
        wp_walk
        exact ⟨rfl, rfl, i + 1, hrest, fun j hj => by rcases Nat.lt_or_eq_of_le (Nat.lt_succ_iff.mp hj) with z | z; exact all j z; rw [z]; exact q, hR⟩
      | false =>
        rw [firstLt_no q] at hR
        rw [if_pos (show (!false) = true from rfl)]
        refine wpAny_bind (wpAny_rule (wpAny_bind (hr i h1 h2 all q prog w _ _ ?_)))
        refine wpAny_bind ?_
        wp_walk
        exact ⟨_, rfl, hR⟩
    case fin =>
      rintro ⟨b1, b2⟩ s1 ⟨hn, rfl, i, hz, _, hR⟩
      simp only at hn
      subst hn
      have hge : N ≤ i := Nat.le_of_not_lt fun z => by rw [List.drop_eq_getElem_cons (by rw [hZ]; exact z)] at hz; cases hz
      rw [List.drop_of_length_le (by simpa using hge)] at hR
      wp_walk
      exact ⟨_, rfl, by simpa [Builtin.Tuple.tupleCompareSizes, firstLt] using hR⟩
    case h => exact ⟨rfl, rfl, 0, rfl, fun j hj => absurd hj (Nat.not_lt_zero j), by simpa using hR0⟩
theorem rc_tup {A : Around} {s : Shared} {l b : Addr} {items items2 : Array Value} {e r : Nat → Bool} (hl : s.heap.IsTuple l items) (hb : s.heap.IsTuple b items2) (hu : A.units < cLine) (h : Asked A.in1 s items items2 e r) :
    RcLt A s (.ref l) (.ref b) (firstLt e r (decide (items.size < items2.size)) (List.range (min items.size items2.size))) := fun prog w E Q hq => by
  obtain ⟨⟨c1, d1, t1, s1⟩, h1, h2, n, h3⟩ := id hl
  obtain ⟨⟨c2, d2, t2, s2⟩, k1, k2, m, k3⟩ := id hb
  simp only at h2 h3 k2 k3
  subst h2 h3 k2 k3
  exact richCompare_meets_room (op := .Lt) ⟨_, h1, rfl⟩ ⟨_, k1, rfl⟩ F.slot_tuple_lt F.entry_tuple_lt (F.args_tuple_lt_2 _ _) (tup_first l b items items2 n m d1 d2 s1 s2 e r) ⟨h1, k1, h, ⟨(fun x => nomatch x), hq⟩⟩ hu
mutual
theorem rc_tree : ∀ (x y : PyData) (A : Around) (s : Shared) (a b : Value) (as bs : List Addr), Reads s.heap a x as → Reads s.heap b y bs → treeD x = true → treeD y = true → cmpD x y = true → A.units + min x.depth y.depth < cLine → RcLt A s a b (dataLt x y)
  | .int i, y, A, s, a, b, as, bs, ra, rb, _, _, h, hu => by
    cases y with
    | int j => exact rcLt_alike (.int i) (.int j) A s a b as bs ra rb rfl (by simp) hu
    | _ => cases h
  | .str i, y, A, s, a, b, as, bs, ra, rb, _, _, h, hu => by
    cases y with
    | str j => exact rcLt_alike (.str i) (.str j) A s a b as bs ra rb rfl (by simp) hu
    | _ => cases h
  | .tuple xs, y, A, s, a, b, as, bs, ra, rb, hx, hy, h, hu => by
    cases y with
    | tuple ys =>
      cases ra with
      | @tuple _ _ vs n _ _ h1 h2 h3 h4 =>
        cases rb with
        | @tuple _ _ ws m _ _ k1 k2 k3 k4 =>
          have n1 : vs.size = xs.length := by simpa using ReadsAll.length _ _ _ h4
          have n2 : ws.size = ys.length := by simpa using ReadsAll.length _ _ _ k4
          rw [dataLt_tuple, show PyProof.Rows.lexLt itemOrd (keyToksAll xs) (keyToksAll ys) = _ from (first_toks xs ys hx hy h).symm, ← n1, ← n2]
          refine rc_tup ⟨_, h1, h2, _, h3⟩ ⟨_, k1, k2, _, k3⟩ (room_here hu) ⟨fun j j1 j2 => ?_, fun j j1 j2 all hj => ?_⟩
          · have q := eqAt_readsAll xs ys A.in1 s vs.toList ws.toList _ _ h4 k4 (trees_lay hx) (trees_lay hy) (room_in hu) j (by simpa using j1) (by simpa using j2)
            simpa using q
          · have q := rc_trees xs ys A.in1 s vs.toList ws.toList _ _ h4 k4 hx hy h (room_in hu) j (by simpa using j1) (by simpa using j2) all hj
            simpa using q
    | _ => cases h
  | .none, _, _, _, _, _, _, _, _, _, h, _, _, _ => by cases h
  | .bool _, _, _, _, _, _, _, _, _, _, h, _, _, _ => by cases h
  | .list _, _, _, _, _, _, _, _, _, _, h, _, _, _ => by cases h
  | .dict _, _, _, _, _, _, _, _, _, _, h, _, _, _ => by cases h
theorem rc_trees : ∀ (xs ys : List PyData) (A : Around) (s : Shared) (vs ws : List Value) (as bs : List Addr), ReadsAll s.heap vs xs as → ReadsAll s.heap ws ys bs → treesD xs = true → treesD ys = true → cmpsD xs ys = true →
    A.units + min (PyData.depthAll xs) (PyData.depthAll ys) < cLine → ∀ j (h1 : j < vs.length) (h2 : j < ws.length), (∀ i, i < j → pairEq xs ys i = true) → pairEq xs ys j = false → RcLt A s vs[j] ws[j] (dataLt (xs.getD j .none) (ys.getD j .none))
  | [], _, _, _, _, _, _, _, ra, _, _, _, _, _, j, h1, _, _, _ => by cases ra; exact absurd h1 (Nat.not_lt_zero _)
  | _ :: _, [], _, _, _, _, _, _, _, rb, _, _, _, _, j, _, h2, _, _ => by cases rb; exact absurd h2 (Nat.not_lt_zero _)
  | x :: xs, y :: ys, A, s, _, _, _, _, ra, rb, hx, hy, h, hu, j, h1, h2, all, hj => by
    cases ra with
    | cons r rs =>
      cases rb with
      | cons r' rs' =>
        cases j with
        | zero => exact rc_tree x y A s _ _ _ _ r r' (trees_cons hx).1 (trees_cons hy).1 (cmps_no h hj) (room_head hu)
        | succ j => exact rc_trees xs ys A s _ _ _ _ rs rs' (trees_cons hx).2 (trees_cons hy).2 (cmps_yes h (all 0 (Nat.succ_pos j))) (room_tail hu) j (Nat.lt_of_succ_lt_succ h1) (Nat.lt_of_succ_lt_succ h2) (fun i hi => all (i + 1) (Nat.succ_lt_succ hi)) hj
end
end Pu
set_option Elab.async false
set_option linter.all false
set_option maxRecDepth 100000
set_option maxHeartbeats 4000000
/-! Pv, part C: sorted of trees, whatever they are taken from. -/
namespace Pu
open PySem PySem.Spec PyProof.Rows L2 PySem.SeqAt PySem.W SrtO
section
variable {prog : Program} {w : World} {A : Around} {E : Value → Shared → Prop} {s : Shared}
theorem oneLt_tree {f : Bool} {x y : PyData} {a b : Value} {as bs : List Addr} {Q : Bool → Shared → Prop} (hf : f = true → ∀ xs, x ≠ .tuple xs) (ra : Reads s.heap a x as) (rb : Reads s.heap b y bs) (hx : treeD x = true) (hy : treeD y = true) (h : cmpD x y = true)
    (hu : A.units + min x.depth y.depth < cLine) (hq : Q (dataLt x y) s) : wpAny (model prog w) A (oneLt' f a b) Q E s := by
  cases f with
  | false =>
    rw [oneLt'_eq, if_neg Bool.false_ne_true]
    exact wpAny_bind (rc_tree x y A s a b as bs ra rb hx hy h hu prog w E _ (wpAny_truthy_bool hq))
  | true =>
    cases x with
    | int i =>
      cases y with
      | int j => exact oneLt_alike (fun _ xs z => by cases z) ra rb rfl (by simp) hu hq
      | _ => cases h
    | str i =>
      cases y with
      | str j => exact oneLt_alike (fun _ xs z => by cases z) ra rb rfl (by simp) hu hq
      | _ => cases h
    | tuple xs => exact absurd rfl (hf rfl xs)
    | _ => cases hx
theorem kat_trees {b fin : Bool} {Q : Bool → Shared → Prop} : ∀ (xs ys : List PyData) (i : Nat) (vs ws : List Value) (as bs : List Addr), ReadsAll s.heap vs xs as → ReadsAll s.heap ws ys bs → treesD xs = true → treesD ys = true → cmpsD xs ys = true →
    A.units + min (PyData.depthAll xs) (PyData.depthAll ys) < cLine → (b = true → i = 0 → ∀ x r t, xs = x :: r → x ≠ .tuple t) → fin = decide (xs.length < ys.length) → Q (lexT (keyToksAll xs) (keyToksAll ys)) s → KatLex prog w A b fin Q (vs.zip ws) i s
  | [], ys, i, _, _, as, bs, ra, rb, _, _, _, hu, _, hf, hq => by
    cases ra
    rw [List.zip_nil_left]
    refine kat_nil ?_
    have q := first_toks [] ys rfl (by assumption) (by cases ys <;> rfl)
    rw [← q, ← hf] at hq
    simpa [firstLt] using hq
  | x :: xs, [], i, _, _, as, bs, ra, rb, hx, _, _, hu, _, hf, hq => by
    cases rb
    rw [List.zip_nil_right]
    refine kat_nil ?_
    have q := first_toks (x :: xs) [] hx rfl rfl
    rw [← q, ← hf] at hq
    simpa [firstLt] using hq
  | x :: xs, y :: ys, i, _, _, _, _, ra, rb, hx, hy, h, hu, hb, hf, hq => by
    cases ra with
    | cons r rs =>
      cases rb with
      | cons r' rs' =>
        rw [List.zip_cons_cons]
        refine kat_cons (eqAt_reads x y A s _ _ _ _ r r' (tree_lay (trees_cons hx).1) (tree_lay (trees_cons hy).1) (room_head hu) prog w _ _ ?_)
        cases q : PyData.eqv x y with
        | true =>
          rw [lt_yes hx hy q] at hq
          exact kat_yes (kat_trees xs ys (i + 1) _ _ _ _ rs rs' (trees_cons hx).2 (trees_cons hy).2 (cmps_yes h q) (room_tail hu) (fun _ z => absurd z (Nat.succ_ne_zero i)) (hf.trans (by simp)) hq)
        | false =>
          rw [lt_no hx hy (cmps_no h q) q] at hq
          refine kat_no (oneLt_tree (fun hbi t => ?_) r r' (trees_cons hx).1 (trees_cons hy).1 (cmps_no h q) (room_head hu) hq)
          obtain ⟨b1, b2⟩ := Bool.and_eq_true_iff.mp hbi
          exact hb b1 (by simpa using b2) x xs t rfl
end
/-! ### kinds of first items -/
def kindD : PyData → Nat
  | .int _ => 0
  | .str _ => 1
  | .tuple _ => 2
  | _ => 3
def headK : PyData → Option Nat
  | .tuple (x :: _) => some (kindD x)
  | _ => none
def kindT (k : Nat) : String := if k = 0 then "int" else if k = 1 then "str" else "tuple"
theorem firsts_trees {h : Heap} {k : Nat} : ∀ {ds : List PyData} {vs : List Value} {as : List Addr}, ReadsAll h vs ds as → (∀ d ∈ ds, headK d = some k) → ∃ fs, KatTups h vs fs ∧ fs.length = vs.length ∧ ∀ f ∈ fs, ∃ x as', Reads h f x as' ∧ kindD x = k
  | [], _, _, r, _ => by cases r; exact ⟨[], .nil, rfl, fun _ hf => (List.not_mem_nil hf).elim⟩
  | d :: ds, _, _, r, hd => by
    cases r with
    | cons r rs =>
      obtain ⟨fs, h1, h2, h3⟩ := firsts_trees rs fun x hx => hd x (List.mem_cons_of_mem _ hx)
      have e := hd d List.mem_cons_self
      cases d with
      | tuple xs =>
        cases xs with
        | nil => cases e
        | cons x xs =>
          cases r with
          | @tuple _ _ its n _ _ q1 q2 q3 q4 =>
            generalize hi : its.toList = il at q4
            cases q4 with
            | @cons v _ _ vs' _ _ rx rr =>
              have hf : its[0]? = some v := by rw [← Array.getElem?_toList, hi]; rfl
              refine ⟨v :: fs, .cons q1 q2 q3 hf h1, by simp [h2], fun f hm => ?_⟩
              rcases List.mem_cons.mp hm with rfl | hm
              · exact ⟨x, _, rx, Option.some.inj e⟩
              · exact h3 f hm
      | _ => cases e
theorem kind_looks {prog : Program} {w : World} {h : Heap} {f : Value} {x : PyData} {as : List Addr} {k : Nat} (r : Reads h f x as) (e : kindD x = k) (hk : k < 3) : Looks (model prog w) h (typeOf f) (.type (kindT k)) := by
  subst e
  cases r with
  | int => exact Looks.now
  | str => exact Looks.now
  | @tuple _ o _ _ _ _ h1 h2 _ _ =>
    have z : Looks (model prog w) h (typeOf (.ref _)) o.cls := (Looks.ld h1).andThen .now
    rw [h2] at z
    exact z
  | _ => exact absurd hk (by simp [kindD])
theorem swo_data (rd : Value → PyData) : Swo fun v u => dataLt (rd v) (rd u) := by
  refine ⟨fun x y h => ?_, fun x y z h1 h2 => ?_⟩
  · cases q : dataLt (rd y) (rd x) with
    | false => rfl
    | true =>
      have z : dataLt (rd x) (rd x) = true := lex_trans (O := itemOrd) _ _ _ h q
      rw [show dataLt (rd x) (rd x) = false from lex_irrefl (O := itemOrd) _] at z
      cases z
  · cases q : dataLt (rd z) (rd x) with
    | false => rfl
    | true =>
      rcases lex_negTrans (O := itemOrd) (keyToks (rd z)) (keyToks (rd y)) (keyToks (rd x)) q with k | k
      · exact absurd (show dataLt (rd z) (rd y) = true from k) (by rw [h2]; exact Bool.false_ne_true)
      · exact absurd (show dataLt (rd y) (rd x) = true from k) (by rw [h1]; exact Bool.false_ne_true)
/-- data that can be sorted -/
structure SortD (k : Nat) (ds : List PyData) : Prop where
  tree : ∀ d ∈ ds, treeD d = true
  head : ∀ d ∈ ds, headK d = some k
  kind : k < 3
  cmp : ∀ d ∈ ds, ∀ e ∈ ds, cmpD d e = true
  deep : ∀ d ∈ ds, d.depth ≤ 60
theorem reads_mem {h : Heap} : ∀ {ds : List PyData} {vs : List Value} {as : List Addr}, ReadsAll h vs ds as → ∀ v ∈ vs, ∃ d ∈ ds, ∃ as', Reads h v d as'
  | _, _, _, .nil, v, hv => (List.not_mem_nil hv).elim
  | _, _, _, .cons r rs, v, hv => by
    rcases List.mem_cons.mp hv with rfl | hv
    · exact ⟨_, List.mem_cons_self, _, r⟩
    · obtain ⟨d, hd, as', r'⟩ := reads_mem rs v hv
      exact ⟨d, List.mem_cons_of_mem _ hd, as', r'⟩
theorem readsAll_keeps {h h' : Heap} (k : ∀ b o, h.get? b = some o → h'.get? b = some o) : ∀ {ds : List PyData} {vs : List Value} {as : List Addr}, ReadsAll h vs ds as → ReadsAll h' vs ds as
  | _, _, _, .nil => .nil
  | _, _, _, .cons r rs => .cons (PyProof.Rows.Reads.keeps k r) (readsAll_keeps k rs)
theorem sortable_trees {prog : Program} {w : World} {A : Around} {h0 : Heap} {s : Shared} {a : Addr} {vs : List Value} {ds : List PyData} {as : List Addr} {k : Nat} (r : ReadsAll h0 vs ds as) (S : SortD k ds) (hu : A.units + 61 < cLine) (h2 : 2 ≤ vs.length) (kp : ∀ b o, h0.get? b = some o → b ≠ a ∧ s.heap.get? b = some o) :
    SortableO prog w A s a vs fun v u => dataLt (readOf h0 v) (readOf h0 u) := by
  intro h' keep
  have kp' : ∀ b o, h0.get? b = some o → h'.get? b = some o := fun b o q => keep b o (kp b o q).1 (kp b o q).2
  obtain ⟨fs, f1, f2, f3⟩ := firsts_trees (readsAll_keeps kp' r) S.head
  refine ⟨tuples' ((.type (kindT k) : Value) != .type "tuple"), fun Q E hq => ?_, fun p q hp hq => ?_⟩
  · exact kat_kind (T := .type (kindT k)) f1 (by omega) (fun f hf => let ⟨x, as', rx, e⟩ := f3 f hf; kind_looks rx e S.kind) (by simp) hq
  · show wpAny (model prog w) A (keyLt' _ p.1 q.1) (fun r s' => s' = { s with heap := h' } ∧ r = dataLt (readOf h0 p.1) (readOf h0 q.1)) (fun _ _ => False) _
    obtain ⟨d, hd, ad, rd⟩ := reads_mem r p.1 hp
    obtain ⟨e, he, ae, re⟩ := reads_mem r q.1 hq
    rw [readOf_eq (tree_lay (S.tree d hd)) rd, readOf_eq (tree_lay (S.tree e he)) re]
    have rd' := PyProof.Rows.Reads.keeps kp' rd
    have re' := PyProof.Rows.Reads.keeps kp' re
    have c := S.cmp d hd e he
    have td := S.tree d hd
    have te := S.tree e he
    have kd := S.head d hd
    have dd := S.deep d hd
    cases d with
    | tuple xs =>
      cases e with
      | tuple ys =>
        generalize p.1 = v at rd'
        generalize q.1 = u at re'
        cases rd' with
        | @tuple _ o1 i1 n1 _ _ a1 a2 a3 a4 =>
          cases re' with
          | @tuple _ o2 i2 n2 _ _ b1 b2 b3 b4 =>
            have l1 : i1.size = xs.length := by simpa using ReadsAll.length _ _ _ a4
            have l2 : i2.size = ys.length := by simpa using ReadsAll.length _ _ _ b4
            refine kat_lt a1 a3 b1 b3 (kat_trees (s := { s with heap := h' }) xs ys 0 _ _ _ _ a4 b4 td te c ?_ (fun hb _ x r t ex et => ?_) (by rw [l1, l2]) ⟨rfl, by rw [dataLt_tuple]⟩)
            · have : (PyData.tuple xs).depth = PyData.depthAll xs + 1 := rfl
              omega
            · subst ex et
              have kd : some 2 = some k := kd
              cases kd
              exact absurd hb (by decide)
      | _ => cases c
    | _ => cases kd
end Pu
set_option Elab.async false
set_option linter.all false
set_option maxRecDepth 100000
set_option maxHeartbeats 4000000
/-! Pv, part D: sorted(x), x a list or the values of a dict, of trees; tuple(d.values()). -/
namespace Pu
open PySem PySem.Spec PyProof.Rows L2 PySem.SeqAt PySem.W SrtO
section
variable {prog : Program} {w : World} {A : Around} {E : Value → Shared → Prop} {s : Shared}
/-- sorted(x): x is collected as vs -/
theorem sorted_gen {x : Value} {vs : List Value} {ltv : Value → Value → Bool} {Q : Value → Shared → Prop} (O : Swo ltv) (hz : vs.length ≤ sizeLine)
    (hc : ∀ R : List Value → Shared → Prop, (∀ (h1 : Heap) (tk : Nat), (∀ b o, s.heap.get? b = some o → h1.get? b = some o) → R vs { s with heap := h1, toks := tk }) → wpAny (model prog w) A.in1 (collect x) R E s)
    (hS : 2 ≤ vs.length → ∀ (s1 : Shared) (a : Addr), s1.heap.get? a = some (seqObj "list" vs.toArray 0) → (∀ b o, s.heap.get? b = some o → b ≠ a ∧ s1.heap.get? b = some o) → SortableO prog w A.in1.in1 s1 a vs ltv)
    (h : ∀ (out : List Value) (h1 : Heap) (tk : Nat) (d : Addr), Srtd ltv out → Stb ltv out vs → (∀ b o, s.heap.get? b = some o → h1.get? b = some o) → s.heap.get? d = none → (∃ n, h1.get? d = some (seqObj "list" out.toArray n)) → Q (.ref d) { s with heap := h1, toks := tk }) :
    wpAny (model prog w) A (call (.builtin "sorted") [x]) Q E s := by
  refine Calls.call_function_entry kind_sorted plain_sorted entry_sorted (args_sorted1 _) ?_
  unfold Builtin.«sorted»
  refine wpAny_bind (m := checkCount "sorted" 1 1 _) (wpAny_pure (wpAny_bind (hc _ fun h1 tk k1 => wpAny_bind (wpAny_newList ?_ hz))))
  have hD : (h1.push (seqObj "list" vs.toArray 0)).get? h1.objs.size = some (seqObj "list" vs.toArray 0) := Heap.get?_push_size _ rfl
  have k2 : ∀ b o, s.heap.get? b = some o → b ≠ h1.objs.size ∧ (h1.push (seqObj "list" vs.toArray 0)).get? b = some o := fun b o q => ⟨Nat.ne_of_lt (Heap.lt_size (k1 b o q)), Heap.get?_push_of_some _ (k1 b o q)⟩
  have lo : s.heap.get? h1.objs.size = none := by
    cases hq : s.heap.get? h1.objs.size with
    | some u => exact absurd (Heap.lt_size (k1 _ _ hq)) (Nat.lt_irrefl _)
    | none => rfl
  refine wpAny_bind (wpAny_holding (wpAny_call_entry slot_list_sort ⟨_, hD, rfl⟩ entry_list_sort (list_sort_ord (s := { s with heap := h1.push (seqObj "list" vs.toArray 0), toks := tk }) O hD hz (fun h2 => hS h2 _ _ hD k2) fun out hs hb => ⟨_, rfl, wpAny_pure ⟨_, rfl, ?_⟩⟩) (args_list_sort _)))
  refine h out _ tk h1.objs.size hs hb (fun b o q => ?_) lo ?_
  · rw [sortedHeap_old (k2 b o q).1 (Heap.lt_size (k2 b o q).2)]
    exact (k2 b o q).2
  · exact sortedHeap_at hD
end
/-! ### order and rows -/
theorem perm_lift {α β : Type} {f : α → β} : ∀ {T : List α} {l : List β}, l.Perm (T.map f) → ∃ T' : List α, T'.Perm T ∧ T'.map f = l
  | [], l, p => ⟨[], .nil, by rw [List.map_nil] at p; rw [p.eq_nil]; rfl⟩
  | t :: T, l, p => by
    have hm : f t ∈ l := p.mem_iff.mpr (by simp)
    obtain ⟨l1, l2, rfl⟩ := List.append_of_mem hm
    have q : (l1 ++ l2).Perm (T.map f) := (List.perm_cons (f t)).mp (List.perm_middle.symm.trans p)
    obtain ⟨T2, h1, h2⟩ := perm_lift q
    obtain ⟨A, B, rfl, rfl, rfl⟩ := List.map_eq_append_iff.mp h2
    exact ⟨A ++ t :: B, List.perm_middle.trans (h1.cons t), by simp⟩
theorem vals_zip : ∀ {ys : List V} {its : List Value}, Vals ys its → ∀ p ∈ ys.zip its, RelV p.1 p.2
  | _, _, .nil, p, h => by cases h
  | _, _, .cons r rs, p, h => by
    rw [List.zip_cons_cons] at h
    rcases List.mem_cons.mp h with rfl | h
    · exact r
    · exact vals_zip rs p h
theorem vals_of_zip : ∀ {T : List (V × Value)}, (∀ p ∈ T, RelV p.1 p.2) → Vals (T.map (·.1)) (T.map (·.2))
  | [], _ => .nil
  | p :: T, h => .cons (h p List.mem_cons_self) (vals_of_zip fun q hq => h q (List.mem_cons_of_mem _ hq))
/-- what stands at one place -/
structure Place (h : Heap) (t : Value × V × PV) : Prop where
  rel : RelV t.2.1 t.1
  rd : ∃ as, Reads h t.1 t.2.2.toD as
theorem places_of {h : Heap} : ∀ {ys : List V} {its : List Value} {cs : List PV} {as : List Addr}, Vals ys its → ReadsAll h its (PV.toDs cs) as → ∀ t ∈ its.zip (ys.zip cs), Place h t
  | _, _, [], _, _, _, t, ht => by simp at ht
  | _, _, c :: cs, _, .nil, r, t, ht => by simp at ht
  | _, _, c :: cs, _, .cons a b, r, t, ht => by
    rw [show PV.toDs (c :: cs) = c.toD :: PV.toDs cs from rfl] at r
    cases r with
    | cons r rs =>
      rw [List.zip_cons_cons, List.zip_cons_cons] at ht
      rcases List.mem_cons.mp ht with rfl | ht
      · exact ⟨a, _, r⟩
      · exact places_of b rs t ht
def SrtQ (ys : List V) (cs : List PV) (H : Hp) (Q : VK) : Prop := ∀ (l : Addr) (T : List (V × PV)), H l = none → T.Perm (ys.zip cs) → (T.map (·.2)).Pairwise (fun x y => dataLt y.toD x.toD = false) → Q (.ref l) (upd H l (.lst (T.map (·.1))))
theorem toDs_length : ∀ cs : List PV, (PV.toDs cs).length = cs.length
  | [] => rfl
  | c :: cs => by show (PV.toDs cs).length + 1 = _; rw [toDs_length cs]; rfl
section
variable {X : Cx} {pins : List (Addr × Obj)} {σ : L2.St} {H : Hp} {s : Shared}
theorem sorted_end {ys : List V} {its out : List Value} {cs : List PV} {as : List Addr} {k : Nat} {h1 : Heap} {tk : Nat} {d : Addr} {Q : VK} (I : Inv X pins σ H s) (r : Vals ys its) (ra : ReadsAll s.heap its (PV.toDs cs) as) (S : SortD k (PV.toDs cs)) (hz : ys.length ≤ sizeLine)
    (hs : Srtd (fun v u => dataLt (readOf s.heap v) (readOf s.heap u)) out) (hb : Stb (fun v u => dataLt (readOf s.heap v) (readOf s.heap u)) out its) (kp : ∀ b o, s.heap.get? b = some o → h1.get? b = some o) (hn : s.heap.get? d = none) (hd : ∃ n, h1.get? d = some (seqObj "list" out.toArray n)) (q : SrtQ ys cs H Q) :
    EP X pins σ Q (.ref d) { s with heap := h1, toks := tk } := by
  have l1 := r.length
  have l2 : its.length = cs.length := by rw [ReadsAll.length _ _ _ ra, toDs_length]
  have e1 : (its.zip (ys.zip cs)).map (·.1) = its := by rw [List.map_fst_zip]; rw [List.length_zip]; omega
  have e2 : (its.zip (ys.zip cs)).map (·.2) = ys.zip cs := by rw [List.map_snd_zip]; rw [List.length_zip]; omega
  obtain ⟨T, p, hT⟩ := perm_lift (f := fun t : Value × V × PV => t.1) (T := its.zip (ys.zip cs)) (l := out) (by rw [e1]; exact hb.perm)
  have pl : ∀ t ∈ T, Place s.heap t := fun t ht => places_of r ra t (p.mem_iff.mp ht)
  have rdT : ∀ t ∈ T, readOf s.heap t.1 = t.2.2.toD := fun t ht => by
    obtain ⟨as', ra'⟩ := (pl t ht).rd
    refine readOf_eq (tree_lay (S.tree _ ?_)) ra'
    have hm : t.2 ∈ ys.zip cs := by rw [← e2]; exact List.mem_map.mpr ⟨t, p.mem_iff.mp ht, rfl⟩
    have hc : t.2.2 ∈ cs := (List.of_mem_zip (a := t.2.1) (b := t.2.2) hm).2
    obtain ⟨j, hj⟩ := List.getElem?_of_mem hc
    exact List.mem_of_getElem? (toDs_get hj)
  have pT : (T.map (·.2)).Perm (ys.zip cs) := by rw [← e2]; exact p.map _
  have hn' : H d = none := I.hok.gone hn
  have vT : Vals ((T.map (·.2)).map (·.1)) out := by
    have z := vals_of_zip (T := T.map fun t => (t.2.1, t.1)) fun q hq => by
      obtain ⟨t, ht, rfl⟩ := List.mem_map.mp hq
      exact (pl t ht).rel
    rw [List.map_map, List.map_map] at z
    rw [← hT, List.map_map]
    exact z
  refine ⟨.ref d, upd H d (.lst ((T.map (·.2)).map (·.1))), I.laidN (t' := tk) kp hn hn' ⟨?_, out, hd.choose, vT, hd.choose_spec⟩, rfl, q d (T.map (·.2)) hn' pT ?_⟩
  · rw [vT.length, hb.perm.length_eq, ← l1]; exact hz
  · rw [List.map_map]
    rw [← hT] at hs
    refine List.pairwise_map.mpr ((List.pairwise_map.mp hs).imp_of_mem fun {a b} ha hb' h => ?_)
    have h : dataLt (readOf s.heap b.1) (readOf s.heap a.1) = false := h
    rw [rdT a ha, rdT b hb'] at h
    exact h
end
end Pu
set_option Elab.async false
set_option linter.all false
set_option maxRecDepth 100000
set_option maxHeartbeats 4000000
/-! Pv, part E: sorted of trees, by data. -/
namespace Pu
open PySem PySem.Spec PyProof.Rows L2 PySem.SeqAt PySem.W SrtO

mutual
/-- ints, texts, tuples of such -/
def treeP : PV → Bool
  | .int _ => true
  | .str s => PyData.strOk s
  | .tup xs => treesP xs
  | _ => false
def treesP : List PV → Bool
  | [] => true
  | x :: xs => treeP x && treesP xs
end
mutual
theorem tree_toD : ∀ {x : PV}, treeP x = true → treeD x.toD = true ∧ x.plain = true
  | .int _, _ => ⟨rfl, rfl⟩
  | .str s, h => ⟨h, rfl⟩
  | .tup xs, h => trees_toD (xs := xs) h
  | .non, h => by cases h
  | .bl _, h => by cases h
  | .ktup _, h => by cases h
  | .lst _, h => by cases h
  | .dic _ _, h => by cases h
  | .ins _ _ _, h => by cases h
theorem trees_toD : ∀ {xs : List PV}, treesP xs = true → treesD (PV.toDs xs) = true ∧ PV.plains xs = true
  | [], _ => ⟨rfl, rfl⟩
  | x :: xs, h => by
    have h := Bool.and_eq_true_iff.mp (show (treeP x && treesP xs) = true from h)
    have a := tree_toD h.1
    have b := trees_toD h.2
    exact ⟨by show (treeD x.toD && treesD (PV.toDs xs)) = true; rw [a.1, b.1]; rfl, by show (x.plain && PV.plains xs) = true; rw [a.2, b.2]; rfl⟩
end
mutual
theorem toD_inj : ∀ {x y : PV}, treeP x = true → treeP y = true → x.toD = y.toD → x = y
  | .int i, y, _, hy, e => by
    cases y with
    | int j => cases e; rfl
    | str _ => cases e
    | tup _ => cases e
    | _ => cases hy
  | .str i, y, _, hy, e => by
    cases y with
    | str j => cases e; rfl
    | int _ => cases e
    | tup _ => cases e
    | _ => cases hy
  | .tup xs, y, hx, hy, e => by
    cases y with
    | tup ys => rw [toDs_inj (xs := xs) (ys := ys) hx hy (PyData.tuple.inj e)]
    | int _ => cases e
    | str _ => cases e
    | _ => cases hy
  | .non, _, h, _, _ => by cases h
  | .bl _, _, h, _, _ => by cases h
  | .ktup _, _, h, _, _ => by cases h
  | .lst _, _, h, _, _ => by cases h
  | .dic _ _, _, h, _, _ => by cases h
  | .ins _ _ _, _, h, _, _ => by cases h
theorem toDs_inj : ∀ {xs ys : List PV}, treesP xs = true → treesP ys = true → PV.toDs xs = PV.toDs ys → xs = ys
  | [], [], _, _, _ => rfl
  | [], _ :: _, _, _, e => by cases e
  | _ :: _, [], _, _, e => by cases e
  | x :: xs, y :: ys, hx, hy, e => by
    have hx := Bool.and_eq_true_iff.mp (show (treeP x && treesP xs) = true from hx)
    have hy := Bool.and_eq_true_iff.mp (show (treeP y && treesP ys) = true from hy)
    obtain ⟨e1, e2⟩ := List.cons.inj (show x.toD :: PV.toDs xs = y.toD :: PV.toDs ys from e)
    rw [toD_inj hx.1 hy.1 e1, toDs_inj hx.2 hy.2 e2]
end
def ltP (x y : PV) : Bool := dataLt x.toD y.toD
/-- by the order of trees -/
def sortP (xs : List PV) : List PV := sortBy ltP xs
def headP : List PV → Nat
  | x :: _ => (headK x.toD).getD 3
  | [] => 0
/-- these can be sorted -/
def sortOk (xs : List PV) : Bool := decide (xs.length ≤ 100000) && treesP xs && decide (headP xs < 3) && (xs.all fun x => decide (x.depth ≤ 60) && decide (headK x.toD = some (headP xs)) && xs.all fun y => cmpD x.toD y.toD)
theorem treesP_mem : ∀ {xs : List PV}, treesP xs = true → ∀ x ∈ xs, treeP x = true
  | y :: ys, h, x, hx => by
    have h := Bool.and_eq_true_iff.mp (show (treeP y && treesP ys) = true from h)
    rcases List.mem_cons.mp hx with rfl | hx
    · exact h.1
    · exact treesP_mem h.2 x hx
theorem toDs_eq : ∀ xs : List PV, PV.toDs xs = xs.map PV.toD
  | [] => rfl
  | x :: xs => by show x.toD :: PV.toDs xs = _; rw [toDs_eq xs]; rfl
theorem sortOk_D {xs : List PV} (h : sortOk xs = true) : xs.length ≤ 100000 ∧ treesP xs = true ∧ SortD (headP xs) (PV.toDs xs) := by
  unfold sortOk at h
  obtain ⟨h, h4⟩ := Bool.and_eq_true_iff.mp h
  obtain ⟨h, h3⟩ := Bool.and_eq_true_iff.mp h
  obtain ⟨h1, h2⟩ := Bool.and_eq_true_iff.mp h
  have each : ∀ x ∈ xs, x.depth ≤ 60 ∧ headK x.toD = some (headP xs) ∧ ∀ y ∈ xs, cmpD x.toD y.toD = true := fun x hx => by
    have q := List.all_eq_true.mp h4 x hx
    obtain ⟨q, q3⟩ := Bool.and_eq_true_iff.mp q
    obtain ⟨q1, q2⟩ := Bool.and_eq_true_iff.mp q
    exact ⟨of_decide_eq_true q1, of_decide_eq_true q2, fun y hy => List.all_eq_true.mp q3 y hy⟩
  rw [toDs_eq]
  refine ⟨of_decide_eq_true h1, h2, fun d hd => ?_, fun d hd => ?_, of_decide_eq_true h3, fun d hd e he => ?_, fun d hd => ?_⟩
  · obtain ⟨x, hx, rfl⟩ := List.mem_map.mp hd
    exact (tree_toD (treesP_mem h2 x hx)).1
  · obtain ⟨x, hx, rfl⟩ := List.mem_map.mp hd
    exact (each x hx).2.1
  · obtain ⟨x, hx, rfl⟩ := List.mem_map.mp hd
    obtain ⟨y, hy, rfl⟩ := List.mem_map.mp he
    exact (each x hx).2.2 y hy
  · obtain ⟨x, hx, rfl⟩ := List.mem_map.mp hd
    rw [toD_depth x (tree_toD (treesP_mem h2 x hx)).2]
    exact (each x hx).1
/-- neither is less: the same -/
theorem lt_anti {x y : PyData} (hx : treeD x = true) (hy : treeD y = true) (c : cmpD x y = true) (h1 : dataLt x y = false) (h2 : dataLt y x = false) : x = y := by
  have e := lex_total (O := itemOrd) (keyToks x) (keyToks y) h1 h2
  cases q : PyData.eqv x y with
  | true => exact tree_eq hx hy q
  | false =>
    have z := toks_ne x y hx hy c q [.inl 0] [.inl 1]
    rw [e, show lexT (keyToks y ++ [.inl 0]) (keyToks y ++ [.inl 1]) = lexT [.inl 0] [.inl 1] from lex_pre _ _ _, show lexT (keyToks y) (keyToks y) = false from lex_irrefl (O := itemOrd) _] at z
    exact absurd z (by decide)
theorem sortP_sorted (xs : List PV) : (sortP xs).Pairwise fun x y => ltP y x = false := sortBy_sorted ltP (fun x y h => by
    cases q : ltP y x with
    | false => rfl
    | true =>
      have z : dataLt x.toD x.toD = true := lex_trans (O := itemOrd) _ _ _ h q
      rw [show dataLt x.toD x.toD = false from lex_irrefl (O := itemOrd) _] at z
      cases z) (fun x y z h1 h2 => by
    cases q : ltP z x with
    | false => rfl
    | true =>
      rcases lex_negTrans (O := itemOrd) (keyToks z.toD) (keyToks y.toD) (keyToks x.toD) q with k | k
      · exact absurd (show ltP z y = true from k) (by rw [h2]; exact Bool.false_ne_true)
      · exact absurd (show ltP y x = true from k) (by rw [h1]; exact Bool.false_ne_true)) xs
theorem sortP_perm (xs : List PV) : (sortP xs).Perm xs := sortBy_perm ltP xs
theorem sorted_is {xs ys : List PV} (h : sortOk xs = true) (p : ys.Perm xs) (s : ys.Pairwise fun x y => ltP y x = false) : ys = sortP xs := by
  obtain ⟨_, h2, S⟩ := sortOk_D h
  rw [toDs_eq] at S
  refine (p.trans (sortP_perm xs).symm).eq_of_pairwise (le := fun x y => ltP y x = false) (fun a b ha hb h1 h3 => ?_) s (sortP_sorted xs)
  have ma : a ∈ xs := p.mem_iff.mp ha
  have mb : b ∈ xs := (sortP_perm xs).mem_iff.mp hb
  have ia : a.toD ∈ xs.map PV.toD := List.mem_map_of_mem ma
  have ib : b.toD ∈ xs.map PV.toD := List.mem_map_of_mem mb
  exact toD_inj (treesP_mem h2 a ma) (treesP_mem h2 b mb) (lt_anti (S.tree _ ia) (S.tree _ ib) (S.cmp _ ia _ ib) h3 h1)
theorem reps_zip {g : G} {Z : Hp} : ∀ {ys : List V} {cs : List PV}, Reps g Z ys cs → ∀ t ∈ ys.zip cs, Rep g Z t.1 t.2
  | _, _, .nil, t, h => by cases h
  | _, _, .cons a b, t, h => by
    rw [List.zip_cons_cons] at h
    rcases List.mem_cons.mp h with rfl | h
    · exact a
    · exact reps_zip b t h
theorem reps_of_zip {g : G} {Z : Hp} : ∀ {T : List (V × PV)}, (∀ t ∈ T, Rep g Z t.1 t.2) → Reps g Z (T.map (·.1)) (T.map (·.2))
  | [], _ => .nil
  | t :: T, h => .cons (h t List.mem_cons_self) (reps_of_zip fun q hq => h q (List.mem_cons_of_mem _ hq))
/-- what is told of the sorted list -/
theorem srtQ_of {g : G} {Z H : Hp} {ys : List V} {cs : List PV} {Q : VK} (h : sortOk cs = true) (r : Reps g Z ys cs) (q : ∀ l zs, H l = none → zs.length = cs.length → Reps g Z zs (sortP cs) → Q (.ref l) (upd H l (.lst zs))) : SrtQ ys cs H Q := fun l T n p s => by
  have e : (ys.zip cs).map (·.2) = cs := by rw [List.map_snd_zip]; rw [r.length]; exact Nat.le_refl _
  have p2 : (T.map (·.2)).Perm cs := by have z := p.map (·.2); rwa [e] at z
  have rt := reps_of_zip (g := g) (Z := Z) (T := T) fun t ht => reps_zip r t (p.mem_iff.mp ht)
  refine q l (T.map (·.1)) n ?_ (sorted_is h p2 s ▸ rt)
  have := p2.length_eq
  simpa using this

/-! ### sorted(list) -/
def rSrtT (K : PySem.W.Frag) : List V → Hp → VK → Prop := fun xs H Q => ∃ (a : Addr) (ys : List V) (cs : List PV), xs = [.ref a] ∧ SqL K H a ys ∧ DpAll K H ys (PV.toDs cs) ∧ sortOk cs = true ∧ SrtQ ys cs H Q
section
variable {X : Cx} {W : WX} {k : Nat}
theorem call_srtT (hr : RoomG k X.A) : CallR X (.builtin "sorted") (rSrtT X.K) := by
  intro pins s σ H xs us Q I r h
  obtain ⟨a, ys, cs, rfl, hs, hd, ok, q⟩ := h
  obtain ⟨u, rfl, ru⟩ := vals1 r
  cases ru
  obtain ⟨its, rv, p1, lz⟩ := I.list hs
  obtain ⟨as, ra⟩ := Dp.readsAll I (PV.toDs cs) ys its hd rv
  obtain ⟨_, _, S⟩ := sortOk_D ok
  have lz2 : its.length ≤ sizeLine := by rw [← rv.length]; exact lz
  refine sorted_gen (vs := its) (swo_data (readOf s.heap)) lz2 (fun R hR => collect_list p1.isList (hR _ s.toks fun b o e => ?_) lz2) (fun h2 s1 b hb kp => sortable_trees ra S ?_ h2 kp) fun out h1 tk d hs hb kp hn hd => sorted_end I rv ra S lz hs hb kp hn hd q
  · rw [Heap.get?_update_ne _ _ _ _ (Nat.ne_of_lt (Heap.lt_size e))]
    exact Heap.get?_push_of_some _ e
  · have := hr.un
    show X.A.units + 1 + 1 + 61 < cLine
    omega
end
def qSortT1 : PV → Option (List PV)
  | .lst xs => (match qSorted1 (.lst xs) with
    | some v => some v
    | none => if sortOk xs = true then some (sortP xs) else none)
  | x => qSorted1 x
abbrev qSortT := one qSortT1
section
variable {X : Cx} {W : WX} {k : Nat} {x : Str} {p pos : Pos} {a : Expr} {ds : Den (List PV)}
theorem sortTP : CallO (gOf X) W (fun xs H Q => rSrt X.K xs H Q ∨ rSrtT X.K xs H Q) qSortT := fun f Z env σ H us xs v Q st rs e kk => by
  have old : qSorted xs = some v → (rSrt X.K us H Q ∨ rSrtT X.K us H Q) := fun e => .inl (sortedP (X := X) (W := W) f Z env σ H us xs v Q st rs e kk)
  match xs, rs, e with
  | [x], rs, e =>
    have e : qSortT1 x = some v := e
    cases x with
    | lst ys =>
      have e : (match qSorted1 (.lst ys) with | some v => some v | none => if sortOk ys = true then some (sortP ys) else none) = some v := e
      cases h : qSorted1 (.lst ys) with
      | some v' => rw [h] at e; cases e; exact old h
      | none =>
        rw [h] at e
        obtain ⟨ok, rfl⟩ := of_ite e
        obtain ⟨u, rfl, ru⟩ := rs.one
        cases ru with
        | @lst b vs _ hz lz rv =>
          obtain ⟨l0, l1, _⟩ := sortOk_D ok
          refine .inr ⟨b, vs, ys, rfl, Same.sql st.zh hz, (Reps.dp st.zh (trees_toD l1).2 rv).1, ok, srtQ_of ok rv fun l zs n lz2 r2 => ?_⟩
          obtain ⟨st2, r3⟩ := st.own n (by have : 100000 ≤ sizeLine := (by decide); omega) r2
          exact kk _ Z _ (Same.refl _) st2 r3
    | _ => exact old e
  | [], _, e => cases e
  | _ :: _ :: _, _, e => cases e
theorem po_sortT (hr : RoomG k X.A) (hc : X.calm = true) (hg : Gl X "sorted") (hm : X.mg "sorted" = none) (ha : PAX X W [a] ds) (he : starEach [a] X.env = (false, eval a X.env) :: starEach [] X.env := by rfl) : PO' X W (.Call (.Name "sorted" p) [a] [] pos) (dArgs qSortT ds) :=
  po_callB ((call_srt hc).or (call_srtT hr)) sortTP hg hm boot_sorted ha (he := he)
end
end Pu
set_option Elab.async false
set_option linter.all false
set_option maxRecDepth 100000
set_option maxHeartbeats 4000000
/-! Pv, part F: tuple(d.values()), sorted(d.values()), l[::-1], name.extend(e). -/
namespace Pu
open PySem PySem.Spec PyProof.Rows L2 PySem.SeqAt PySem.W SrtO

/-- e.values(), e a dict: a view, at p -/
def tVals (t : TE) : TE := fun σ H Q => t σ H fun x H1 => ∃ a kvs, x = .ref a ∧ Rd H1 a (.dK kvs) ∧ ∀ p, H1 p = none → Q (.ref p) (upd H1 p (viewO "dict_values" p a))
section
variable {X : Cx}
theorem pe_values {e : Expr} {t : TE} {apos cpos : Pos} (he : PE X e t) (hbase : attributeBase e "values" X.env (eval e X.env) = eval e X.env := by rfl) (hline : (apos.endLine == cpos.line) = true := by rfl) : PE X (.Call (.Attribute e "values" apos) [] [] cpos) (tVals t) := by
  refine ⟨fun pins s σ H Q I h => wpAny_Call_method0_late hbase hline (thn (he.run pins s σ H _ I h) fun v s1 ⟨x, H1, I1, r1, a, kvs, ex, hd, q⟩ => ?_)⟩
  subst ex
  cases r1
  obtain ⟨z, lo, vs, rel, dd⟩ := dk_rd I1.hok hd
  obtain ⟨o, _, _, ho, exd, _⟩ := id dd
  refine ⟨"dict", "dict.values", PySem.F.plainAttrs_dict, PySem.F.slot_dict_values, PySem.F.type_dict_values, dd.typeIs, fun b q => by cases q; exact ⟨o, ho, exd.2.1⟩, Calls.callWith_builtin rfl (PySem.evalArgs_none ?_)⟩
  refine call_meetsIn PySem.F.slot_dict_values dd.typeIs PySem.F.entry_dict_values (PySem.F.args_dict_values_1 _) (meets_dict_values (mixKind X.prog X.w) a lo) ⟨⟨vs, dd⟩, ?_⟩
  exact ⟨.ref s1.heap.objs.size, _, I1.laid (t' := s1.toks) (fun b o e => Heap.get?_push_of_some _ e) (Nat.le_refl _) (viewO_ok (Heap.get?_push_size _ rfl)), rfl, q _ (I1.hok.fresh (Nat.le_refl _))⟩
/-- what a view shows -/
def ViewAt (H : Hp) (p : Addr) (ys : List V) : Prop := ∃ a kvs, H p = some (viewO "dict_values" p a) ∧ Rd H a (.dK kvs) ∧ ys = kvs.map (·.2)
theorem view_src {pins : List (Addr × Obj)} {σ : L2.St} {H : Hp} {s : Shared} {p : Addr} {ys : List V} (I : Inv X pins σ H s) (h : ViewAt H p ys) : ∃ (its : List Value) (n : Nat) (P : Nat → Value → Prop) (OK : Heap → Prop) (d : Addr),
    KdlSrc X.prog X.w "dict_values" p d n P OK ∧ OK s.heap ∧ n = its.length ∧ Vals ys its ∧ ys.length ≤ sizeLine ∧ s.TypeIs (.ref p) "dict_values" ∧ ∀ acc : Array Value, ItemsOf P acc n → acc.toList = its := by
  obtain ⟨a, kvs, hv, hd, rfl⟩ := h
  obtain ⟨z, lo, vs, rel, dd⟩ := dk_rd I.hok hd
  obtain ⟨ep, hat⟩ := dd.dictAt
  obtain ⟨e1, _⟩ := (show ObjOk X.prog X.w H s.heap p (viewO "dict_values" p a) from I.hok p _ hv)
  have vw : s.heap.IsValuesView p a := ⟨_, e1, rfl, rfl⟩
  refine ⟨vs.map (·.2), vs.length, _, _, a, kdl_values (knd := mixKind X.prog X.w) (kvs := vs) (ep := ep), ⟨vw, hat⟩, by rw [List.length_map], ?_, by rw [List.length_map]; exact z, vw.typeIs, fun acc h => ?_⟩
  · unfold KV at rel
    clear hat dd hd z
    induction rel with
    | nil => exact .nil
    | cons h _ ih => exact .cons h.2 ih
  · exact kdl_vals_eq acc.toList (by rw [Array.length_toList]; exact h.1) fun j v e => h.2 j v (by rw [← Array.getElem?_toList]; exact e)
end
section
variable {prog : Program} {w : World} {A : Around} {E : Value → Shared → Prop} {s : Shared}
/-- tuple(v), v a view of values -/
theorem tuple_view {r d : Addr} {n : Nat} {P : Nat → Value → Prop} {OK : Heap → Prop} {Q : Value → Shared → Prop} (K : KdlSrc prog w "dict_values" r d n P OK) (hh : A.handled = none) (hok : OK s.heap) (hn : n ≤ sizeLine) (hT : s.TypeIs (.ref r) "dict_values")
    (hQ : ∀ (h1 : Heap) (tk : Nat) (acc : Array Value), (∀ b o, s.heap.get? b = some o → h1.get? b = some o) → ItemsOf P acc n → Q (.ref h1.objs.size) { s with heap := h1.push { cls := .type "tuple", data := .seq acc }, toks := tk }) :
    wpAny (model prog w) A (call (.type "tuple") [.ref r]) Q E s := by
  refine callType_codes (Q₁ := fun obj s1 => s1.TypeIs obj "tuple" ∧ Q obj s1) F.called_tuple (F.typeCall_tuple_1 _) F.entry_object_init (codeAny_of_tree ?_) fun obj s1 h1 => ⟨h1.1, F.args_object_init_2 obj _, object_init_meets F.called_tuple.init.lookup F.called_tuple.made (by decide) prog w A.in1 _ s1 ⟨h1.1, rfl, h1.2⟩⟩
  show wpAny _ A.in1.in1 (do checkBuiltinCall "tuple.__new__" ⟨[.type "tuple", .ref r], []⟩; again (.builtin "tuple.__new__" ⟨[.type "tuple", .ref r], []⟩)) _ _ s
  refine wpAny_bind (wpAny_of_eq (F.newCall_tuple_1 _) (wpAny_pure ⟨plainId_quiet F.plain_tuple_new _, codeAny_builtin F.entry_tuple_new ?_⟩))
  rw [Around.under_plainId F.plain_tuple_new _]
  have q1 := sub_tuple_self
  have q2 := init_tuple_lookup
  have q3 := madeHere_tuple
  have hh1 : A.in1.in1.handled = none := hh
  wp_walk using wpAny_typeOf hT, kdu_collect (A := A.in1.in1) K hh1 hok hn
  intro h1 tk acc kp it
  show wpAny _ _ (Builtin.Tuple.tupleExact acc.toList.toArray >>= fun v => ret v) _ _ _
  unfold Builtin.Tuple.tupleExact
  rw [Array.toArray_toList]
  exact wpAny_bind (wpAny_newObj_type (wpAny_pure ⟨⟨_, Heap.get?_push_size _ rfl, rfl⟩, hQ h1 tk acc kp it⟩) (by show acc.size ≤ sizeLine; rw [it.1]; exact hn))
end
section
variable {X : Cx} {W : WX} {k : Nat}
def rTupV : List V → Hp → VK → Prop := fun xs H Q => ∃ p ys, xs = [.ref p] ∧ ViewAt H p ys ∧ ∀ l o, H l = none → o.dict = none → Q (.ref l) (upd H l (.frz o (.tup ys)))
def rSrtV (K : PySem.W.Frag) : List V → Hp → VK → Prop := fun xs H Q => ∃ p ys cs, xs = [.ref p] ∧ ViewAt H p ys ∧ DpAll K H ys (PV.toDs cs) ∧ sortOk cs = true ∧ SrtQ ys cs H Q
theorem call_tupV (hc : X.calm = true) : CallR X (.type "tuple") rTupV := by
  intro pins s σ H xs us Q I r h
  obtain ⟨p, ys, rfl, hv, q⟩ := h
  obtain ⟨u, rfl, ru⟩ := vals1 r
  cases ru
  obtain ⟨its, n, P, OK, d, K, ok, en, rv, lz, ty, fin⟩ := view_src I hv
  have ln := rv.length
  refine tuple_view K (I.ok.hd hc) ok (by omega) ty fun h1 tk acc kp it => ?_
  have ea := fin acc it
  have gone : s.heap.get? h1.objs.size = none := by
    cases hq : s.heap.get? h1.objs.size with
    | some u => exact absurd (Heap.lt_size (kp _ _ hq)) (Nat.lt_irrefl _)
    | none => rfl
  have hn' := I.hok.gone gone
  have at_ : (h1.push { cls := .type "tuple", data := .seq acc }).get? h1.objs.size = some { cls := .type "tuple", data := .seq acc } := Heap.get?_push_size _ rfl
  refine ⟨.ref h1.objs.size, upd H h1.objs.size (.frz { cls := .type "tuple", data := .seq acc } (.tup ys)), I.laidN (t' := tk) (fun b o e => Heap.get?_push_of_some _ (kp b o e)) gone hn' ⟨at_, lz, acc.toList, by rw [ea]; exact rv, ⟨_, at_, rfl, 0, by rw [Array.toArray_toList]⟩⟩, rfl, q _ _ hn' rfl⟩
theorem call_srtV (hr : RoomG k X.A) (hc : X.calm = true) : CallR X (.builtin "sorted") (rSrtV X.K) := by
  intro pins s σ H xs us Q I r h
  obtain ⟨p, ys, cs, rfl, hv, hd, okS, q⟩ := h
  obtain ⟨u, rfl, ru⟩ := vals1 r
  cases ru
  obtain ⟨its, n, P, OK, d, K, ok, en, rv, lz, ty, fin⟩ := view_src I hv
  have ln := rv.length
  obtain ⟨as, ra⟩ := Dp.readsAll I (PV.toDs cs) ys its hd rv
  obtain ⟨_, _, S⟩ := sortOk_D okS
  refine sorted_gen (vs := its) (swo_data (readOf s.heap)) (by omega) (fun R hR => kdu_collect (A := X.A.in1) K (I.ok.hd hc) ok (by omega) fun h1 tk acc kp it => by rw [fin acc it]; exact hR h1 tk kp) (fun h2 s1 b hb kp => sortable_trees ra S ?_ h2 kp) fun out h1 tk d hs hb kp hn hd => sorted_end I rv ra S lz hs hb kp hn hd q
  have := hr.un
  show X.A.units + 1 + 1 + 61 < cLine
  omega
end
section
variable {X : Cx} {W : WX} {k : Nat} {e : Expr} {de : Den PV} {p pos apos cpos : Pos}
/-- a view that shows data -/
theorem vals_den (he : PX X W e de) (hbase : attributeBase e "values" X.env (eval e X.env) = eval e X.env := by rfl) (hline : (apos.endLine == cpos.line) = true := by rfl) : PE X (.Call (.Attribute e "values" apos) [] [] cpos) (fun σ H Q => ∃ f Z env, StOk (gOf X) f Z H σ env ∧ ∃ o, de env = some o ∧ match o with
      | .ex c e1 => ∀ cls dd Z' H', Same Z Z' → StOk (gOf X) f Z' H' σ e1 → ExRep (gOf X) c cls dd Z' H' → W cls dd σ H'
      | .ok x e1 => ∃ ks xs, x = .dic ks xs ∧ ∀ q ys Z' H', Same Z Z' → StOk (gOf X) f Z' H' σ e1 → ViewAt H' q ys → ys.length ≤ sizeLine → Reps (gOf X) Z' ys xs → Q (.ref q) H') :=
  peimp (pe_values he hbase hline) fun σ H Q ⟨f, Z, env, st, o, eo, h⟩ => by
    refine ⟨f, Z, env, st, o, eo, ?_⟩
    cases o with
    | ex c e1 => exact h
    | ok x e1 =>
      obtain ⟨ks, xs, rfl, h⟩ := h
      intro u Z1 H1 s1 st1 r1
      generalize hx : PV.dic ks xs = x' at r1
      cases r1 with
      | @dic a kvs vs hd l ho rv =>
        cases hx
        refine ⟨a, kvs, rfl, ?_, fun q n => ?_⟩
        · rcases hd with hd | ⟨o, hd⟩
          · exact .inl (st1.zh _ _ hd)
          · exact .inr ⟨o, st1.zh _ _ hd⟩
        · have hd2 : Rd (upd H1 q (viewO "dict_values" q a)) a (.dK kvs) := by
            have ne : ∀ {b : Addr} {u : HO}, H1 b = some u → upd H1 q (viewO "dict_values" q a) b = some u := fun e => by rw [upd_ne (ne_of_none e n)]; exact e
            rcases hd with hd | ⟨o, hd⟩
            · exact .inl (ne (st1.zh _ _ hd))
            · exact .inr ⟨o, ne (st1.zh _ _ hd)⟩
          exact h q _ Z1 _ s1 (st1.new n) ⟨a, kvs, upd_same, hd2, rfl⟩ (by rw [List.length_map]; exact l) rv
      | _ => cases hx
def dVals (de : Den PV) : Den (List PV) := de.bind fun x => Den.lift (match x with
  | .dic _ xs => some xs
  | _ => none)
/-- a call of one argument that is a view -/
theorem t_view {σ : L2.St} {H : Hp} {α : Type} {k' : List PV → Den α} {R : Hp → Hp → Cells → V → α → Prop} {Q : VK} {f : Frm} {Z : Hp} {env : Cells} (a : At (gOf X) W f Z env ((dVals de).bind k') R Q σ H) {Q' : VK}
    (h : ∀ xs e1 q ys Z' H', Same Z Z' → StOk (gOf X) f Z' H' σ e1 → ViewAt H' q ys → ys.length ≤ sizeLine → Reps (gOf X) Z' ys xs → At (gOf X) W f Z' e1 (k' xs) R Q σ H' → Q' (.ref q) H') :
    ∃ f Z env, StOk (gOf X) f Z H σ env ∧ ∃ o, de env = some o ∧ match o with
      | .ex c e1 => ∀ cls dd Z' H', Same Z Z' → StOk (gOf X) f Z' H' σ e1 → ExRep (gOf X) c cls dd Z' H' → W cls dd σ H'
      | .ok x e1 => ∃ ks xs, x = .dic ks xs ∧ ∀ q ys Z' H', Same Z Z' → StOk (gOf X) f Z' H' σ e1 → ViewAt H' q ys → ys.length ≤ sizeLine → Reps (gOf X) Z' ys xs → Q' (.ref q) H' := by
  obtain ⟨st, o, eo, po⟩ := a
  unfold dVals Den.bind at eo
  refine ⟨f, Z, env, st, ?_⟩
  cases hd : de env with
  | none => simp only [hd] at eo; cases eo
  | some o1 =>
    refine ⟨o1, rfl, ?_⟩
    cases o1 with
    | ex c e1 =>
      simp only [hd] at eo
      cases eo
      exact po
    | ok x e1 =>
      simp only [hd] at eo
      cases x with
      | dic ks xs => exact ⟨ks, xs, rfl, fun q ys Z' H' s st' v l r => h xs e1 q ys Z' H' s st' v l r ⟨st', o, eo, Post.imp (o := o) po s (fun _ _ _ _ _ z => z) fun _ _ z => z⟩⟩
      | _ => cases eo
end

/-- tuple(e.values()) -/
def dTupV (de : Den PV) : Den PV := (dVals de).bind fun xs => Den.ret (.tup xs)
/-- sorted(e.values()) -/
def dSortV (de : Den PV) : Den (List PV) := (dVals de).bind fun xs => Den.lift (if sortOk xs = true then some (sortP xs) else none)
section
variable {X : Cx} {W : WX} {k : Nat} {e : Expr} {de : Den PV} {p pos apos cpos : Pos}
theorem px_tupV (hc : X.calm = true) (hg : Gl X "tuple") (hm : X.mg "tuple" = none) (he : PX X W e de) (hbase : attributeBase e "values" X.env (eval e X.env) = eval e X.env := by rfl) (hline : (apos.endLine == cpos.line) = true := by rfl)
    (hs : starEach [.Call (.Attribute e "values" apos) [] [] cpos] X.env = (false, eval (.Call (.Attribute e "values" apos) [] [] cpos) X.env) :: starEach [] X.env := by rfl) (hpl : (backTo pos (starEach [] X.env)).any (·.1) = false := by rfl) :
    PX X W (.Call (.Name "tuple" p) [.Call (.Attribute e "values" apos) [] [] cpos] [] pos) (dTupV de) :=
  peimp (pe_callTy (call_tupV hc) hg hm boot_tuple (pa_cons (vals_den he hbase hline) pa_nil hs) (by decide) (by decide) hs hpl) fun σ H Q ⟨f, Z, env, a⟩ => by
    refine t_view (Q' := fun x H1 => rTupV [x] H1 Q) a fun xs e1 q ys Z1 H1 s1 st1 v l r a1 => ?_
    refine ⟨q, ys, rfl, v, fun l' o n d => ?_⟩
    obtain ⟨Z2, s2, st2, r2⟩ := st1.tupF n d l r
    exact a1.ret (.ref l') Z2 _ s2 st2 r2
theorem po_sortV (hr : RoomG k X.A) (hc : X.calm = true) (hg : Gl X "sorted") (hm : X.mg "sorted" = none) (he : PX X W e de) (hbase : attributeBase e "values" X.env (eval e X.env) = eval e X.env := by rfl) (hline : (apos.endLine == cpos.line) = true := by rfl)
    (hs : starEach [.Call (.Attribute e "values" apos) [] [] cpos] X.env = (false, eval (.Call (.Attribute e "values" apos) [] [] cpos) X.env) :: starEach [] X.env := by rfl) (hpl : (backTo pos (starEach [] X.env)).any (·.1) = false := by rfl) :
    PO' X W (.Call (.Name "sorted" p) [.Call (.Attribute e "values" apos) [] [] cpos] [] pos) (dSortV de) :=
  peimp (pe_callB (call_srtV hr hc) hg hm boot_sorted (pa_cons (vals_den he hbase hline) pa_nil hs) (by decide) (by decide) hs hpl) fun σ H Q ⟨f, Z, env, a⟩ => by
    refine t_view (Q' := fun x H1 => rSrtV X.K [x] H1 Q) a fun xs e1 q ys Z1 H1 s1 st1 v l r a1 => ?_
    obtain ⟨w, ew, kk⟩ := a1.lift
    obtain ⟨ok, rfl⟩ := of_ite ew
    obtain ⟨l0, l1, _⟩ := sortOk_D ok
    refine ⟨q, ys, xs, rfl, v, (Reps.dp st1.zh (trees_toD l1).2 r).1, ok, srtQ_of ok r fun l' zs n lz r2 => ?_⟩
    obtain ⟨st2, r3⟩ := st1.own n (by have : 100000 ≤ sizeLine := (by decide); omega) r2
    exact kk _ Z1 _ (Same.refl _) st2 r3
end
/-! ### l[::-1] -/
def dRevL (de : Den PV) : Den (List PV) := de.bind fun x => Den.lift (match x with
  | .lst xs => some xs.reverse
  | _ => none)
section
variable {X : Cx} {W : WX} {e : Expr} {de : Den PV} {kk : Nat} {p1 p2 p3 pos : Pos}
theorem po_revL (he : PX X W e de) : PO' X W (.Subscript e (.Slice none none (some (.UnaryOp .USub (.Constant (.int 1) kk p1) p2)) p3) pos) (dRevL de) := peimp (pe_revL he) fun σ H Q ⟨f, Z, env, a⟩ => by
  refine (a.bind.imp fun u H1 ⟨Z1, env1, x, s1, r1, a1⟩ => ?_).here
  obtain ⟨w, ew, k⟩ := a1.lift
  cases x with
  | lst xs =>
    cases ew
    cases r1 with
    | @lst b vs _ hz l rv =>
      refine ⟨b, vs, rfl, Same.sql a1.st.zh hz, fun q n => ?_⟩
      obtain ⟨st2, r2⟩ := a1.st.own n (by rw [List.length_reverse]; exact l) rv.reverse
      exact k _ Z1 _ (Same.refl _) st2 r2
  | _ => cases ew
end
/-! ### name.extend(e), e a tuple -/
theorem extend_tup (l b : Addr) (items items2 : Array Value) (n n2 : Nat) (dd2 : Option Addr) (sl2 : Array (Option Value)) (hs : items.size + items2.size ≤ sizeLine) :
    Meets (Builtin.«list.extend» ⟨[.ref l, .ref b], []⟩) (fun _ R s => s.heap.get? l = some { cls := .type "list", dict := none, data := .seq items n, slots := #[] } ∧ s.heap.get? b = some { cls := .type "tuple", dict := dd2, data := .seq items2 n2, slots := sl2 } ∧ R (.ok (.ret Value.none)) { s with heap := s.heap.update l (Obj.mapSeq fun x => x ++ items2), toks := s.toks }) :=
  .of_wp fun prog w A R s0 h => by
    obtain ⟨hp, g, d, tk, os⟩ := s0
    obtain ⟨hl, hb, h⟩ := h
    have q1 := AutoSeq1.idx_int
    have q2 := AutoSeq1.sub_tuple_tuple
    have q3 := AutoSeq1.sub_list_list
    have q4 := AutoSeq1.sub_tuple_list
    have q5 := AutoSeq1.sub_list_tuple
    have short : ¬ (!items.isEmpty && Builtin.List.listTooLong (items.size + items2.size)) = true := by rw [notLongL hs, Bool.and_false]; exact Bool.false_ne_true
    have sz2 : (items ++ items2).size ≤ sizeLine + 1 := by rw [Array.size_append]; omega
    wp_walk using (wpAny_updateSeq hl rfl (hz := by omega) (_hz' := sz2)), wpAny_loadPart' hl, wpAny_loadPart' hb
    exact ⟨_, rfl, h⟩
def rExtT (K : PySem.W.Frag) : V → List V → Hp → VK → Prop := fun x vs H Q => ∃ l b xs zs, x = .ref l ∧ vs = [.ref b] ∧ H l = some (.lst xs) ∧ SqT K H b zs ∧ xs.length + zs.length ≤ sizeLine ∧ Q .non (upd H l (.lst (xs ++ zs)))
theorem mt_extT {X : Cx} : MtR X "list.extend" (rExtT X.K) := by
  intro pins s σ H x vs v us Q I rx rv h
  obtain ⟨l, b, xs, zs, rfl, rfl, hH, hB, hz, q⟩ := h
  cases rx
  obtain ⟨u, rfl, ru⟩ := rv.one
  cases ru
  obtain ⟨z, its, n, r, hl, e⟩ := I.lstM hH
  obtain ⟨its2, r2, ⟨⟨cls, dd, data, sl⟩, ho, hc, n2, hd⟩, _⟩ := I.tuple hB
  simp only at hc hd
  subst hc hd
  have l2 := r2.length
  refine call_meets F.slot_list_extend ⟨_, e, rfl⟩ F.entry_list_extend (F.args_list_extend_2 _ _) (extend_tup l b its.toArray its2.toArray n n2 dd sl (by rw [List.size_toArray, List.size_toArray]; omega)) ⟨e, ho, ?_⟩
  exact ⟨.non, _, I.lset (its' := its ++ its2) hH e (by simp) (r.append r2) (by rw [List.length_append]; omega), rfl, q⟩
def dExtT (i : Nat) (de : Den PV) : Den PV := fun e => match e[i]? with
  | some (.m _ _) => de.bind (fun y e1 => match e1[i]?, y with
    | some (.m own xs), .tup ys => if xs.length + ys.length ≤ sizeLine then some (.ok .non (e1.set i (.m own (xs ++ ys)))) else none
    | _, _ => none) e
  | _ => none
section
variable {X : Cx} {W : WX} {i : Nat} {x : Str} {e : Expr} {de : Den PV} {p apos cpos : Pos}
theorem px_extT (h : PE X (.Name x p) (tVar i)) (ha : PX X W e de)
    (hbase : attributeBase (.Name x p) "extend" X.env (eval (.Name x p) X.env) = eval (.Name x p) X.env := by rfl)
    (hfew : ((backTo cpos (starEach [e] X.env)).all (fun x => !x.1) && (backToKw cpos (keywordEach [] X.env)).all (fun x => x.1.isSome)
      && decide ([e].length + ([] : List Keyword).length + (if ([] : List Keyword).isEmpty then 0 else 1) < 30)) = true := by rfl)
    (hline : (apos.endLine == cpos.line) = true := by rfl) (hs : starEach [e] X.env = (false, eval e X.env) :: starEach [] X.env := by rfl) (hplain : (backTo cpos (starEach [] X.env)).any (·.1) = false := by rfl) :
    PX X W (.Call (.Attribute (.Name x p) "extend" apos) [e] [] cpos) (dExtT i de) :=
  peimp (pe_bm PySem.F.plainAttrs_list PySem.F.slot_list_extend PySem.F.type_list_extend mt_extT h (pa_cons ha pa_nil hs) hbase hfew hline hs hplain) fun σ H Q ⟨f, Z, env, st, o, eo, pp⟩ => by
    unfold dExtT at eo
    split at eo
    · rename_i own xs hx
      obtain ⟨a, vs, e1, n, hH, l, r, ow⟩ := st.sl i _ hx
      refine ⟨.ref a, e1, .inl ⟨rfl, _, SqL.of hH⟩, ?_⟩
      have a0 : At (gOf X) W f Z env (de.bind _) (RV (gOf X)) Q σ H := ⟨st, o, eo, pp⟩
      refine ⟨f, Z, env, a0.bind.imp fun u H1 ⟨Z1, env1, y, s1, r1, a1⟩ => ?_⟩
      obtain ⟨st2, o2, e2, p2⟩ := a1
      split at e2
      · rename_i own' xs' ys hx'
        split at e2
        · rename_i hl
          cases e2
          obtain ⟨a', vs', e1', n', hH', l', r', ow'⟩ := st2.sl i _ hx'
          rw [e1] at e1'
          cases e1'
          cases r1 with
          | @tup b us _ ht lu ru =>
            have lv : vs'.length + us.length ≤ sizeLine := by rw [r'.length, ru.length]; exact hl
            refine ⟨a, b, vs', us, rfl, rfl, hH', Same.sqt st2.zh ht.sqt, lv, ?_⟩
            exact p2 .non Z1 _ (Same.refl _) (st2.putM hx' e1 hH' (by rw [List.length_append]; exact lv) (r'.append ru)) .non
        · cases e2
      · cases e2
    · cases eo
end
end Pu
set_option Elab.async false
set_option linter.all false
set_option maxRecDepth 100000
set_option maxHeartbeats 4000000
/-! Pv, part G: sorted(set(x)), x a list of texts. -/
namespace Pu
open PySem PySem.Spec PyProof.Rows L2 PySem.SeqAt PySem.W SrtO PySem.Froz

/-- a set of the texts l -/
structure SetS (P : Program) (w : World) (h : Heap) (a : Addr) (l : List Str) (D : SD) : Prop where
  at_ : h.get? a = some (sObj "set" D)
  ok : TxOk P w D l
  ris : Ris D.2.2.place.toList
  led : w.params.followText "set-order" = true ∨ D.2.2.led = true
  nd : l.Nodup
section
variable {P : Program} {w : World} {A : Around} {E : Value → Shared → Prop} {s : Shared} {a : Addr} {l : List Str} {D : SD} {k : Str} {u : Tok}
theorem SetS.move {h h' : Heap} (S : SetS P w h a l D) (e : ∀ o, h.get? a = some o → h'.get? a = some o) : SetS P w h' a l D := ⟨e _ S.at_, S.ok, S.ris, S.led, S.nd⟩
theorem tail_ris (ep : Nat) (es : Array (Int × Value)) (t : SetTable) (b : Bool) (r : Ris t.place.toList) : Ris (tailTx ep es t b).2.2.place.toList := by
  unfold tailTx
  by_cases c : (!b && t.tooFull) = true
  · rw [if_pos c]; exact relayAll_ris _ _ _
  · rw [if_neg c]; exact r
theorem tail_led (ep : Nat) (es : Array (Int × Value)) (t : SetTable) (b : Bool) : (tailTx ep es t b).2.2.led = t.led := by
  unfold tailTx
  by_cases c : (!b && t.tooFull) = true
  · rw [if_pos c]; exact relayAll_led _ _ _
  · rw [if_neg c]
theorem add_ris (h : Int) (v : Value) (D : SD) (r : Ris D.2.2.place.toList) : Ris (addTx h v D).2.2.place.toList := by
  have q := layNew_ris D.2.2 D.1 h v r
  refine tail_ris _ _ _ _ ?_
  by_cases c : (layNew D.2.2 D.1 h v).2.1.plain = true
  · rw [if_pos c]; exact q
  · rw [if_neg c]; exact q
theorem add_led (h : Int) (v : Value) (D : SD) : (addTx h v D).2.2.led = D.2.2.led := by
  have q := layNew_led D.2.2 D.1 h v
  refine (tail_led _ _ _ _).trans ?_
  by_cases c : (layNew D.2.2 D.1 h v).2.1.plain = true
  · rw [if_pos c]; exact q
  · rw [if_neg c]; exact q
theorem add_new {Q : Bool → Shared → Prop} (S : SetS P w s.heap a l D) (hk : k ∉ l) (hb : l.length + 1 < scanBound) (h : ∀ h1 : Heap, (∀ b, b ≠ a → h1.get? b = s.heap.get? b) → SetS P w h1 a (k :: l) (addTx (hashStr w k) (.str k u) D) → Q true { s with heap := h1 }) :
    wpAny (model P w) A (setAddHashed a (.str k u) (hashStr w k)) Q E s := by
  refine add_x S.at_ S.ok hk hb (h _ (fun b hb => Heap.get?_update_ne _ _ _ _ hb) ⟨?_, add_ok u S.ok, add_ris _ _ _ S.ris, S.led.imp id fun z => by rw [add_led]; exact z, List.nodup_cons.mpr ⟨hk, S.nd⟩⟩)
  exact get_upd _ S.at_ rfl
theorem add_old {Q : Bool → Shared → Prop} (S : SetS P w s.heap a l D) (hk : k ∈ l) (hb : l.length < scanBound) (h : Q false s) : wpAny (model P w) A (setAddHashed a (.str k u) (hashStr w k)) Q E s := by
  obtain ⟨es, ep, t⟩ := D
  have el : ElemsOf (strKind P w) es.toList := S.ok.el
  have z : es.size = l.length := S.ok.sz
  unfold setAddHashed setAddHashedIn
  refine wpAny_holding (wpAny_bind (wpAny_setState_of (t := t) S.at_ rfl S.ok.fit ?_))
  dsimp only
  rw [byScan_of rfl (by omega) el]
  simp only [↓reduceIte]
  unfold setAddByScan
  refine wpAny_bind (wpAny_bind (wpAny_rule (wpAny_bind (wpAny_setScan_of (knd := strKind P w) (k := k) (is_str k u) S.at_ rfl S.ok.fit el ?_))))
  cases q : List.findIdx? (fun e => (strKind P w).is k e.2) es.toList with
  | some j => exact wpAny_pure (wpAny_pure h)
  | none =>
    obtain ⟨e, he, r⟩ := (S.ok.mem k).mp hk
    have c := List.findIdx?_eq_none_iff.mp q e he
    rw [r] at c
    cases c
/-- the loop of set.update over texts -/
theorem update_strs {I : Addr} {fp wr : List Addr} {G : Array GenState → Array GenState → Prop} {n : Nat} {Pv : Nat → Value → Prop} {St : Nat → Shared → Prop} {R : Result → Shared → Prop} (W : WalksS P w A.in1 I fp wr G n Pv St) (a : Addr) (ha : a ∉ fp) (ss : List Str) (hn : n = ss.length) (hb : ss.length + 1 < scanBound)
    (hv : ∀ i v, Pv i v → ∃ k t, ss[i]? = some k ∧ v = .str k t) : ∀ (m i : Nat) (s : Shared), n - i = m → i ≤ n → St i s → (∃ l D, l.length ≤ i ∧ (∀ k, k ∈ l ↔ k ∈ ss.take i) ∧ SetS P w s.heap a l D) →
      (∀ s' l D, Moved (a :: wr) G s s' → (∀ k, k ∈ l ↔ k ∈ ss) → SetS P w s'.heap a l D → R (.ok (.ret .none)) s') → codeAny (model P w) A (.builtin "set.update.loop" ⟨[.ref a, .ref I], []⟩) R s := by
  have haw : a ∉ wr := fun h => ha (W.sub _ h)
  have sub : ∀ b ∈ wr, b ∈ a :: wr := fun b h => List.mem_cons_of_mem _ h
  intro m
  induction m with
  | zero =>
    intro i s hm hi hst ⟨l, D, hl, hml, S⟩ hR
    have e1 : i = n := by omega
    subst e1
    refine codeAny_builtin F.entry_set_update_loop ?_
    rw [Around.under_plainId F.plain_set_update_loop _]
    show wpAny _ A.in1 (pyNext (.ref I) >>= _) _ _ s
    refine wpAny_bind (W.done s _ _ hst fun s1 hm => ?_)
    rw [List.take_of_length_le (by omega)] at hml
    exact wpAny_pure (hR s1 l D (hm.mono sub) hml (S.move fun o e => hm.heap a o haw e))
  | succ m ih =>
    intro i s hm hi hst ⟨l, D, hl, hml, S⟩ hR
    have lt : i < n := by omega
    refine codeAny_builtin F.entry_set_update_loop ?_
    rw [Around.under_plainId F.plain_set_update_loop _]
    show wpAny _ A.in1 (pyNext (.ref I) >>= _) _ _ s
    refine wpAny_bind (W.item i s _ _ lt hst fun v s1 hP hst1 hm1 => ?_)
    obtain ⟨z, t, hz, rfl⟩ := hv i v hP
    have S1 : SetS P w s1.heap a l D := S.move fun o e => hm1.heap a o haw e
    show wpAny _ A.in1 (holding [Value.str z t] (setAdd a (.str z t)) >>= _) _ _ s1
    refine wpAny_bind (wpAny_holding ?_)
    unfold setAdd
    refine wpAny_holding (wpAny_bind ((strKind P w).pyHash (k := z) (is_str z t) ?_))
    have next : ∀ (h1 : Heap) (l1 : List Str) (D1 : SD), (∀ b, b ≠ a → h1.get? b = s1.heap.get? b) → l1.length ≤ i + 1 → (∀ k, k ∈ l1 ↔ k ∈ ss.take (i + 1)) → SetS P w h1 a l1 D1 → codeAny (model P w) A (.builtin "set.update.loop" ⟨[.ref a, .ref I], []⟩) R { s1 with heap := h1, toks := s1.toks + 1 } := fun h1 l1 D1 same hl1 hm1' S2 => by
      refine ih (i + 1) _ (by omega) lt (W.frame _ s1 _ _ hst1 (Nat.le_succ _) fun b hb o e => ?_) ⟨l1, D1, hl1, hm1', S2⟩ fun s2 l2 D2 hm2 hl2 S3 => ?_
      · rw [same b (fun z => ha (by rw [← z]; exact hb))]; exact e
      · refine hR s2 l2 D2 (Moved.trans W.gtrans ((hm1.mono sub).then_heap (Nat.le_succ _) fun b o hb e => ?_) hm2) hl2 S3
        rw [same b (fun z => hb (by rw [z]; exact List.mem_cons_self))]; exact e
    have mem1 : ∀ k, k ∈ ss.take (i + 1) ↔ k ∈ ss.take i ∨ k = z := fun k => by rw [List.take_add_one, hz]; simp [List.mem_append]
    by_cases hzl : z ∈ l
    · refine add_old (s := { s1 with toks := s1.toks + 1 }) S1 hzl (by omega) (wpAny_pure ⟨plainId_quiet F.plain_set_update_loop _, next s1.heap l D (fun _ _ => rfl) (by omega) (fun k => ?_) S1⟩)
      rw [mem1, ← hml k]
      exact ⟨.inl, fun h => h.elim id fun e => by rw [e]; exact hzl⟩
    · refine add_new (s := { s1 with toks := s1.toks + 1 }) S1 hzl (by omega) fun h1 same S2 => wpAny_pure ⟨plainId_quiet F.plain_set_update_loop _, next h1 _ _ same (by rw [List.length_cons]; omega) (fun k => ?_) S2⟩
      rw [mem1, List.mem_cons, hml k]
      exact Or.comm
theorem set_fresh {h : Heap} {a : Addr} (ho : h.get? a = some { cls := .type "set", dict := none, data := .set #[] 0 (.fresh 0 0 (!w.params.followText "set-order")) }) : SetS P w h a [] (#[], 0, .fresh 0 0 (!w.params.followText "set-order")) :=
  ⟨ho, .nil (by rfl), List.Pairwise.nil, by
    show _ ∨ (!w.params.followText "set-order") = true
    cases w.params.followText "set-order" <;> simp, List.nodup_nil⟩
end
section
variable {P : Program} {w : World} {A : Around} {E : Value → Shared → Prop} {s : Shared}
theorem call_set_strs {r : Addr} {items : Array Value} (ss : List Str) {Q : Value → Shared → Prop} (hh : A.handled = none) (hl : s.heap.IsList r items) (hit : ∀ (i : Nat) (v : Value), items[i]? = some v → ∃ (k : Str) (t : Tok), ss[i]? = some k ∧ v = Value.str k t) (hz : items.size = ss.length) (hb : ss.length + 1 < scanBound)
    (h : ∀ (h1 : Heap) (tk : Nat) (l : List Str) (D : SD), (∀ k, k ∈ l ↔ k ∈ ss) → SetS P w h1 s.heap.objs.size l D → (∀ b o, s.heap.get? b = some o → h1.get? b = some o) → Q (.ref s.heap.objs.size) { s with heap := h1, toks := tk }) :
    wpAny (model P w) A (call (.type "set") [.ref r]) Q E s := by
  obtain ⟨cc, tl, hmro⟩ := F.called_set.mro
  have m1 := F.called_set.made
  have m2 := F.called_set.sub
  refine wpAny_call (codeAny_of_tree ?_)
  show wpAny _ _ (callAny (.type "set") _) _ _ _
  refine wpAny_pure ⟨Code.quiet_builtin _ (by decide +kernel), codeAny_builtin F.entry_type_call ?_⟩
  rw [Around.under_plain (weight_type_call_type "set" [.ref r] []) rfl]
  have m3 := F.called_set.notType
  have m4 := F.called_set.canCreate
  have m5 := F.typeCall_set_1 (.ref r)
  generalize hO : ({ cls := .type "set", dict := none, data := .set #[] 0 (.fresh 0 0 (!w.params.followText "set-order")) } : Obj) = O
  have hfree : O.isFreed = false := by rw [← hO]; rfl
  repeat (any_goals (first | assumption | wp_step))

  refine codeAny_mono (code_set_led1 (.ref r) (E := E) (Q₁ := fun obj s1 => obj = .ref s.heap.objs.size ∧ s1 = { s with heap := s.heap.push O }) ⟨rfl, by rw [hO]⟩) fun q s1 hr => ?_
  cases q with
  | error e => exact hr
  | ok fl =>
    cases fl with
    | ret obj =>
      obtain ⟨rfl, rfl⟩ := hr
      have atS : (s.heap.push O).get? s.heap.objs.size = some O := Heap.get?_push_size _ hfree
      have isS : Shared.TypeIs { s with heap := s.heap.push O } (.ref s.heap.objs.size) "set" := ⟨_, atS, by rw [← hO]⟩
      have m6 := F.called_set.init.lookup
      have m7 := F.called_set.init.bind (.ref s.heap.objs.size)
      repeat (any_goals (first | assumption | wp_step))

      refine codeAny_mono (codeAny_call_builtin (R := wants (fun q s2 => q = .none ∧ ∃ h1 tk l D, s2 = { s with heap := h1, toks := tk } ∧ (∀ k, k ∈ l ↔ k ∈ ss) ∧ SetS P w h1 s.heap.objs.size l D ∧
          (∀ b o, s.heap.get? b = some o → h1.get? b = some o)) E) F.called_set.init.plain F.entry_set_init (check_set_init_1 isS ?_)) fun q2 s2 hr2 => ?_
      · obtain ⟨⟨c0, d0, t0, sl0⟩, hol, hcl, nl, hdl⟩ := hl
        simp only at hcl hdl
        subst hcl hdl
        have hol1 : (s.heap.push O).get? r = some { cls := .type "list", dict := d0, data := .seq items nl, slots := sl0 } := Heap.get?_push_of_some _ hol
        have n1 := F.sub_list_set
        have n2 := F.sub_list_frozenset
        have n3 : (Value.type "list" == Value.type "dict") = false := by decide
        have isL : (s.heap.push O).IsList r items := ⟨_, hol1, rfl, nl, rfl⟩
        have hrS : r < s.heap.objs.size := Heap.lt_size hol
        have hh3 : A.in1.in1.in1.handled = none := by simp [hh]
        have sz1 : (s.heap.push O).objs.size = s.heap.objs.size + 1 := Heap.size_push ..
        have hne : r ≠ (s.heap.push O).objs.size := by rw [sz1]; exact Nat.ne_of_lt (Nat.lt_succ_of_lt hrS)
        have hSf : s.heap.objs.size ∉ [(s.heap.push O).objs.size, r] := by
          rw [sz1]
          simp only [List.mem_cons, List.not_mem_nil, or_false, not_or]
          exact ⟨Nat.ne_of_lt (Nat.lt_succ_self _), Nat.ne_of_gt hrS⟩
        subst hO
        unfold Builtin.«set.__init__» noKeywords Builtin.Frozenset.updateFrom
        generalize hPI : pyIter = PI
        wp_walk
        subst hPI

        refine wpAny_pyIter_list isL ?_
        refine wpAny_bind (wpAny_runValue ?_)
        refine update_strs ((Walks.list hh3 _ r hne items).toS) s.heap.objs.size hSf ss hz hb hit (items.size - 0) 0 _ (by omega) (Nat.zero_le _) ⟨⟨_, Heap.get?_push_size _ rfl, rfl, rfl⟩, (isL.push _)⟩ ?hS0 ?hR
        case hS0 => exact ⟨[], _, Nat.le_refl 0, fun k => by simp, set_fresh (Heap.get?_push_of_some _ atS)⟩
        case hR =>
          intro s3 l D hm hl3 S3
          obtain ⟨h3, g3, d3, t3, o3⟩ := s3
          cases (show g3 = s.gens from hm.gens)
          cases (show d3 = s.drawn from hm.drawn)
          cases (show o3 = s.os from hm.os)
          show wpAny _ _ _ _ _ _
          refine wpAny_pure ?_
          show wpAny _ _ (ret Value.none) _ _ _
          refine wpAny_pure ⟨rfl, h3, t3, l, D, rfl, hl3, S3, fun b o e => ?_⟩
          have lt := Heap.lt_size e
          refine hm.heap b o ?_ (Heap.get?_push_of_some _ (Heap.get?_push_of_some _ e))
          rw [sz1]
          simp only [List.mem_cons, List.not_mem_nil, or_false, not_or]
          exact ⟨Nat.ne_of_lt lt, Nat.ne_of_lt (Nat.lt_succ_of_lt lt)⟩
      · cases q2 with
        | error e => exact hr2
        | ok fl2 =>
          cases fl2 with
          | ret q =>
            obtain ⟨rfl, h1, tk, l, D, rfl, hl1, S1, k1⟩ := hr2
            repeat (any_goals (first | assumption | wp_step))
            exact h _ _ _ _ hl1 S1 k1
          | _ => exact hr2.elim
    | _ => exact hr.elim
end
end Pu
set_option Elab.async false
set_option linter.all false
set_option maxRecDepth 100000
set_option maxHeartbeats 4000000
/-! Pv, part H: sorted(set(x)), the rule. -/
namespace Pu
open PySem PySem.Spec PyProof.Rows L2 PySem.SeqAt PySem.W SrtO PySem.Froz

theorem perm_of_mem {α : Type} [DecidableEq α] : ∀ {l ks : List α}, l.Nodup → (∀ x ∈ l, x ∈ ks) → ks.length = l.length → ks.Perm l
  | [], ks, _, _, e => by rw [List.length_eq_zero_iff.mp e]
  | a :: t, ks, nd, h, e => by
    obtain ⟨na, nt⟩ := List.nodup_cons.mp nd
    have p := List.perm_cons_erase (h a List.mem_cons_self)
    have e2 : (ks.erase a).length = t.length := by rw [List.length_erase_of_mem (h a List.mem_cons_self), e]; simp
    refine p.trans ((perm_of_mem nt (fun x hx => ?_) e2).cons a)
    exact (List.mem_erase_of_ne (fun z => by subst z; exact na hx)).mpr (h x (List.mem_cons_of_mem _ hx))
theorem nodup_le {α : Type} [DecidableEq α] : ∀ {l ks : List α}, l.Nodup → (∀ x ∈ l, x ∈ ks) → l.length ≤ ks.length
  | [], _, _, _ => Nat.zero_le _
  | a :: t, ks, nd, h => by
    obtain ⟨na, nt⟩ := List.nodup_cons.mp nd
    have hm := h a List.mem_cons_self
    have ih := nodup_le (ks := ks.erase a) nt fun x hx => (List.mem_erase_of_ne (fun z => by subst z; exact na hx)).mpr (h x (List.mem_cons_of_mem _ hx))
    rw [List.length_erase_of_mem hm] at ih
    have := List.length_pos_of_mem hm
    rw [List.length_cons]; omega
/-- each once -/
def dedS : List Str → List Str
  | [] => []
  | s :: r => if s ∈ r then dedS r else s :: dedS r
theorem mem_dedS {k : Str} : ∀ {l : List Str}, k ∈ dedS l ↔ k ∈ l
  | [] => Iff.rfl
  | s :: r => by
    unfold dedS
    by_cases h : s ∈ r
    · rw [if_pos h, mem_dedS, List.mem_cons]
      exact ⟨.inr, fun z => z.elim (fun e => by rw [e]; exact h) id⟩
    · rw [if_neg h, List.mem_cons, List.mem_cons, mem_dedS]
theorem nodup_dedS : ∀ l : List Str, (dedS l).Nodup
  | [] => List.nodup_nil
  | s :: r => by
    unfold dedS
    by_cases h : s ∈ r
    · rw [if_pos h]; exact nodup_dedS r
    · rw [if_neg h]; exact List.nodup_cons.mpr ⟨fun z => h (mem_dedS.mp z), nodup_dedS r⟩
theorem strs_entries {P : Program} {w : World} {l : List Str} {es : List (Int × Value)} {vs : List Value} (el : ElemsOf (PySem.strKind P w) es) (mem : ∀ k : Str, k ∈ l ↔ ∃ e ∈ es, (PySem.strKind P w).is k e.2 = true) (nd : l.Nodup) (sz : es.length = l.length) (p : vs.Perm (es.map (·.2))) :
    ∃ ss, StrsAre vs ss ∧ ss.Perm l := by
  have each : ∀ v ∈ vs, ∃ (x : Str) (t : Tok), v = .str x t ∧ x ∈ l := fun v hv => by
    obtain ⟨e, he, rfl⟩ := List.mem_map.mp (p.mem_iff.mp hv)
    obtain ⟨⟨k, hk, _⟩, _⟩ := el e he
    obtain ⟨t, ht⟩ := Value.isStrOf_shape (show Value.isStrOf k e.2 = true from hk)
    exact ⟨k, t, ht, (mem k).mpr ⟨e, he, hk⟩⟩
  refine ⟨vs.map strOf, strsAre_map vs (fun v hv => let ⟨x, t, e, _⟩ := each v hv; ⟨x, t, e⟩), perm_of_mem nd (fun x hx => ?_) (by rw [List.length_map, p.length_eq, List.length_map, sz])⟩
  obtain ⟨e, he, hk⟩ := (mem x).mp hx
  obtain ⟨t, ht⟩ := Value.isStrOf_shape (show Value.isStrOf x e.2 = true from hk)
  exact List.mem_map.mpr ⟨e.2, p.mem_iff.mpr (List.mem_map.mpr ⟨e, he, rfl⟩), by rw [ht]; rfl⟩
section
variable {P : Program} {w : World} {A : Around} {E : Value → Shared → Prop} {s : Shared}
theorem sorted_setS {a : Addr} {l : List Str} {D : SD} {Q : Value → Shared → Prop} (S : SetS P w s.heap a l D) (hh : A.handled = none) (h64 : l.length < 64)
    (hQ : ∀ (s1 : Shared) (p : Addr) (out : List Value) (ss : List Str), (∀ b o, s.heap.get? b = some o → s1.heap.get? b = some o) → s1.gens = s.gens → s1.os = s.os → s.heap.objs.size ≤ p → (∃ c, s1.heap.get? p = some (seqObj "list" out.toArray c)) → StrsAre out ss → ss.Perm l → sortedS ss = true → Q (.ref p) s1) :
    wpAny (model P w) A (call (.builtin "sorted") [.ref a]) Q E s := by
  obtain ⟨es, ep, t⟩ := D
  have sz : es.size = l.length := S.ok.sz
  have bnd : es.size < scanBound := by have : 64 ≤ scanBound := (by decide); omega
  refine Calls.call_function_entry kind_sorted plain_sorted entry_sorted (args_sorted1 _) ?_
  unfold Builtin.«sorted»
  refine wpAny_bind (m := checkCount "sorted" 1 1 _) (wpAny_pure (wpAny_bind (collect_set (A := A.in1) (t := t) hh ⟨_, S.at_, rfl, rfl⟩ S.ok.fit bnd S.ris S.led fun s1 vs k1 z1 g1 o1 pm => ?_)))
  obtain ⟨ss, hS, pS⟩ := strs_entries S.ok.el S.ok.mem S.nd (by rw [Array.length_toList]; exact sz) pm
  have lv : vs.length = l.length := by rw [pm.length_eq, List.length_map, Array.length_toList]; exact sz
  refine wpAny_bind (wpAny_newList ?_ (by rw [lv, sizeLine_eq]; omega))
  have hoL : (s1.heap.push (seqObj "list" vs.toArray 0)).get? s1.heap.objs.size = some (seqObj "list" vs.toArray 0) := Heap.get?_push_size _ rfl
  refine wpAny_bind (wpAny_holding (wpAny_call_entry slot_list_sort ⟨_, hoL, rfl⟩ entry_list_sort (list_sort_treeK strKind_oneLt hoL hS.keysOf (fun v1 v2 rest e => keyKind_strs (by rw [← e]; exact hS)) (by rw [lv]; exact h64) fun st hp hs => ⟨_, rfl, ?_⟩) (args_list_sort _)))
  obtain ⟨ss2, q1, q2, q3⟩ := sorted_out_str hS hp hs
  obtain ⟨c, hc⟩ := sortedHeap_at (vs := vs) (out := (arrOf st).map (·.2)) hoL
  refine wpAny_pure ⟨_, rfl, hQ _ s1.heap.objs.size ((arrOf st).map (·.2)).toList ss2 (fun b u e => ?_) g1 o1 z1 ⟨c, by rw [Array.toArray_toList]; exact hc⟩ q1 (q2.trans pS) q3⟩
  have q := k1 b u e
  have lt := Heap.lt_size q
  show (sortedHeap (s1.heap.push (seqObj "list" vs.toArray 0)) s1.heap.objs.size vs _).get? b = some u
  rw [sortedHeap_old (Nat.ne_of_lt lt) (by rw [size_push']; exact Nat.lt_succ_of_lt lt)]
  exact Heap.get?_push_of_some _ q
end
/-- a set of texts, tracked -/
def setSO (P : Program) (w : World) (a : Addr) (l : List Str) : HO := .ext fun h => ∃ D, SetS P w h a l D
theorem setSO_ok {P : Program} {w : World} {H : Hp} {h : Heap} {a : Addr} {l : List Str} {D : SD} (S : SetS P w h a l D) : ObjOk P w H h a (setSO P w a l) := ⟨⟨D, S⟩, ⟨_, S.at_⟩, fun h1 h2 ⟨D, q⟩ k => ⟨D, q.move k⟩⟩
def rSetS (P : Program) (w : World) (K : PySem.W.Frag) : List V → Hp → VK → Prop := fun xs H Q => ∃ (p : Addr) (ss : List Str), xs = [.ref p] ∧ SqL K H p (ss.map V.str) ∧ ss.length ≤ 1000 ∧ ∀ a l, H a = none → (∀ k, k ∈ l ↔ k ∈ ss) → l.Nodup → Q (.ref a) (upd H a (setSO P w a l))
def rSrtSet (P : Program) (w : World) : List V → Hp → VK → Prop := fun xs H Q => ∃ (a : Addr) (l : List Str), xs = [.ref a] ∧ H a = some (setSO P w a l) ∧ l.length < 64 ∧ ∀ ys p, ys.Perm l → sortedS ys = true → H p = none → Q (.ref p) (upd H p (.lst (ys.map V.str)))
section
variable {X : Cx} {W : WX}
theorem call_setS (hc : X.calm = true) : CallR X (.type "set") (rSetS X.prog X.w X.K) := by
  intro pins s σ H xs us Q I r h
  obtain ⟨p, ss, rfl, hs, lz, q⟩ := h
  obtain ⟨u, rfl, ru⟩ := vals1 r
  cases ru
  obtain ⟨its, rv, pl, lz2⟩ := I.list hs
  have hS := rv.strs
  have ln : its.length = ss.length := by have := rv.length; rw [List.length_map] at this; exact this.symm
  have bnd : 1001 < scanBound := by decide
  refine call_set_strs ss (I.ok.hd hc) pl.isList (fun i v hv => ?_) (by rw [List.size_toArray]; exact ln) (by omega) fun h1 tk l D hl S kp => ?_
  · replace hv : its[i]? = some v := by simpa using hv
    obtain ⟨k, hk, t, ht⟩ : ∃ k, ss[i]? = some k ∧ ∃ t, v = Value.str k t := by
      clear hs q rv pl ln lz lz2
      induction hS generalizing i with
      | nil => simp at hv
      | cons y t hS ih =>
        cases i with
        | zero => cases hv; exact ⟨y, rfl, t, rfl⟩
        | succ i => exact ih i hv
    exact ⟨k, t, hk, ht⟩
  · have hn : H s.heap.objs.size = none := I.hok.fresh (Nat.le_refl _)
    exact ⟨.ref s.heap.objs.size, _, I.laid (t' := tk) kp (Nat.le_refl _) (setSO_ok S), rfl, q _ l hn hl S.nd⟩
theorem call_srtSet (hc : X.calm = true) : CallR X (.builtin "sorted") (rSrtSet X.prog X.w) := by
  intro pins s σ H xs us Q I r h
  obtain ⟨a, l, rfl, ha, h64, q⟩ := h
  obtain ⟨u, rfl, ru⟩ := vals1 r
  cases ru
  obtain ⟨⟨D, S⟩, _⟩ := (show ObjOk X.prog X.w H s.heap a (setSO X.prog X.w a l) from I.hok a _ ha)
  refine sorted_setS S (I.ok.hd hc) h64 fun s1 p out ss k1 g1 o1 hp hg hS pS ord => ?_
  obtain ⟨c, hg⟩ := hg
  have hn : H p = none := I.hok.fresh hp
  have ln : (ss.map V.str).length ≤ sizeLine := by rw [List.length_map, pS.length_eq, sizeLine_eq]; omega
  have J : Inv X pins σ (upd H p (.lst (ss.map V.str))) { s with heap := s1.heap, gens := s1.gens, drawn := s1.drawn, toks := s1.toks } :=
    I.call (ch := []) (Un.laid k1 hp hn) (I.hok.laid k1 hp ⟨ln, out, c, vals_of_strs hS, hg⟩) (by rw [g1]; exact I.bare) (fun _ z => nomatch z)
  have e : s1 = { s with heap := s1.heap, gens := s1.gens, drawn := s1.drawn, toks := s1.toks } := by
    cases s1
    cases (show _ = s.os from o1)
    rfl
  rw [e]
  exact ⟨.ref p, _, J, rfl, q ss p pS ord hn⟩
end
/-- the texts of x, each once, in order -/
def qSortSet : PV → Option (List PV)
  | .lst xs => match strsP xs with
    | some ss => if ss.length ≤ 1000 ∧ (dedS ss).length < 64 then some ((sortS (dedS ss)).map .str) else none
    | none => none
  | _ => none
def dSortSet (da : Den PV) : Den (List PV) := da.bind fun x => Den.lift (qSortSet x)
theorem dedS_len : ∀ l : List Str, (dedS l).length ≤ l.length
  | [] => Nat.le_refl _
  | s :: r => by
    unfold dedS
    have := dedS_len r
    split
    · rw [List.length_cons]; omega
    · rw [List.length_cons, List.length_cons]; omega
section
variable {X : Cx} {W : WX} {a : Expr} {da : Den PV} {p p2 pos pos2 : Pos}
theorem po_sortSet (hc : X.calm = true) (hg : Gl X "sorted") (hm : X.mg "sorted" = none) (hg2 : Gl X "set") (hm2 : X.mg "set" = none) (ha : PX X W a da)
    (h1 : starEach [a] X.env = (false, eval a X.env) :: starEach [] X.env := by rfl) (hp1 : (backTo pos2 (starEach [] X.env)).any (·.1) = false := by rfl)
    (h2 : starEach [.Call (.Name "set" p2) [a] [] pos2] X.env = (false, eval (.Call (.Name "set" p2) [a] [] pos2) X.env) :: starEach [] X.env := by rfl) (hp2 : (backTo pos (starEach [] X.env)).any (·.1) = false := by rfl) :
    PO' X W (.Call (.Name "sorted" p) [.Call (.Name "set" p2) [a] [] pos2] [] pos) (dSortSet da) :=
  peimp (pe_callB (call_srtSet hc) hg hm boot_sorted (pa_cons (pe_callTy (call_setS hc) hg2 hm2 (by decide +kernel) (pa_cons ha pa_nil h1) (by decide) (by decide) h1 hp1) pa_nil h2) (by decide) (by decide) h2 hp2) fun σ H Q ⟨f, Z, env, at0⟩ => by
    refine (at0.bind.imp fun u H1 ⟨Z1, env1, x, s1, r1, a1⟩ => ?_).here
    obtain ⟨v, e, k⟩ := a1.lift
    cases x with
    | lst xs =>
      have e : (match strsP xs with | some ss => if ss.length ≤ 1000 ∧ (dedS ss).length < 64 then some ((sortS (dedS ss)).map PV.str) else none | none => none) = some v := e
      cases hs : strsP xs with
      | none => rw [hs] at e; cases e
      | some ss =>
        rw [hs] at e
        obtain ⟨⟨l1000, l64⟩, rfl⟩ := of_ite e
        cases r1 with
        | @lst b vs _ hz lz rv =>
          rw [strsP_of hs] at rv
          obtain ⟨rfl, oks⟩ := rv.strs
          refine ⟨b, ss, rfl, Same.sql a1.st.zh hz, by omega, fun a' l n hl nd => ?_⟩
          have len : l.length ≤ (dedS ss).length := nodup_le nd (fun x hx => mem_dedS.mpr ((hl x).mp hx))
          refine ⟨a', l, rfl, upd_same, by omega, fun ys q pm so nq => ?_⟩
          have st2 := a1.st.new (o := setSO X.prog X.w a' l) n
          have pd : ys.Perm (dedS ss) := pm.trans (perm_of_mem (nodup_dedS ss) (fun x hx => (hl x).mpr (mem_dedS.mp hx)) (Nat.le_antisymm (nodup_le nd fun x hx => mem_dedS.mpr ((hl x).mp hx)) (nodup_le (nodup_dedS ss) fun x hx => (hl x).mpr (mem_dedS.mp hx))))
          have ey := sortS_eq pd so
          have oky : ys.all PyData.strOk = true := List.all_eq_true.mpr fun x hx => List.all_eq_true.mp oks x (mem_dedS.mp (pd.mem_iff.mp hx))
          have big : 64 ≤ sizeLine := by decide
          obtain ⟨st3, r3⟩ := st2.own (vs := ys.map V.str) (xs := ys.map PV.str) nq (by rw [List.length_map, pm.length_eq]; omega) (reps_str ys oky)
          rw [← ey] at k
          exact k _ Z1 _ (Same.refl _) st3 r3
    | _ => cases e
end
end Pu
set_option Elab.async false
set_option linter.all false
set_option maxRecDepth 100000
set_option maxHeartbeats 4000000
/-! Pv, part I: a, b = ({}, {}); try .. except C as n: return isinstance(n, ValueError). -/
namespace Pu
open PySem PySem.Spec PyProof.Rows L2

def sParD (i j : Nat) : SDen := fun e => if i < e.length ∧ j < e.length then some (.nx ((e.set i (.dOf true [])).set j (.dOf true []))) else none
section
variable {X : Cx} {W : WX} {i j : Nat} {x y : Str} {px py pt pt2 pos p1 p2 : Pos} {kt k2}
theorem psx_parD (hc : X.calm = true) (hN : X.N.Nodup) (hi : X.N[i]? = some x) (hj : X.N[j]? = some y) (hij : i ≠ j) (hx : X.env.scope.names.lookup x = some .local) (hy : X.env.scope.names.lookup y = some .local)
    (hw : swappedStores [.Tuple [.Name x px, .Name y py] kt pt] (.Tuple [.Dict [] [] p1, .Dict [] [] p2] k2 pt2) X.env = pure (some [x, y]) := by rfl)
    (hs : swapsWithSole [.Tuple [.Name x px, .Name y py] kt pt] (.Tuple [.Dict [] [] p1, .Dict [] [] p2] k2 pt2) pos.line X.env = pure false := by rfl)
    (h1 : starEach [.Dict [] [] p1, .Dict [] [] p2] X.env = (false, eval (.Dict [] [] p1) X.env) :: starEach [.Dict [] [] p2] X.env := by rfl) (h2 : starEach [.Dict [] [] p2] X.env = (false, eval (.Dict [] [] p2) X.env) :: starEach [] X.env := by rfl) :
    PSX X W (.Assign [.Tuple [.Name x px, .Name y py] kt pt] (.Tuple [.Dict [] [] p1, .Dict [] [] p2] k2 pt2) pos) (sParD i j) := by
  refine ⟨fun pins s σ H D I ⟨f, Z, env, st, o, e, p⟩ => (ps_par hc hN hi hj hij hx hy (pa_cons pe_dnewK (pa_cons pe_dnewK pa_nil h2) h1) hw hs).run pins s σ H D I ?_⟩
  unfold sParD at e
  obtain ⟨⟨hl1, hl2⟩, e⟩ : (i < env.length ∧ j < env.length) ∧ o = .nx ((env.set i (.dOf true [])).set j (.dOf true [])) := by
    split at e
    · rename_i hl; cases e; exact ⟨hl, rfl⟩
    · cases e
  subst e
  intro a na b nb
  refine ⟨.ref a, .ref b, rfl, ?_⟩
  have hσi : i < σ.length := by rw [← st.ln]; exact hl1
  have hσj : j < σ.length := by rw [← st.ln]; exact hl2
  have nm : ¬ Muts σ env a := fun m => by obtain ⟨_, ⟨u, q⟩, _⟩ := st.muts m; rw [na] at q; cases q
  have st1 := (st.new (o := .dK []) na).setC (c := .dOf true []) (a := a) rfl ⟨a, [], List.getElem?_set_self hσi, st.zn na, upd_same, Nat.zero_le _, rfl, rfl, .nil, st.fH na⟩ nm hσi
  have nm2 : ¬ Muts (σ.set i (some (.ref a))) (env.set i (.dOf true [])) b := fun m => by obtain ⟨_, ⟨u, q⟩, _⟩ := st1.muts m; rw [nb] at q; cases q
  have hj2 : j < (σ.set i (some (V.ref a))).length := by rw [List.length_set]; exact hσj
  have st2 := (st1.new (o := .dK []) nb).setC (i := j) (c := .dOf true []) (a := b) rfl ⟨b, [], List.getElem?_set_self hj2, st1.zn nb, upd_same, Nat.zero_le _, rfl, rfl, .nil, st1.fH nb⟩ nm2 hj2
  exact p _ Z _ (Same.refl _) st2
end
/-! ### try .. except C as n: return isinstance(n, ValueError) -/
def sTryIsR (cn : Str) (i : Nat) (db : SDen) : SDen := fun env => match db env with
  | some (.ex c e) => if c.c = cn ∧ c.ns = [] ∧ c.vs = [] ∧ i < e.length then some (.rt (.bl true) (e.set i .un)) else none
  | o => o
section
variable {X : Cx} {W : WX} {C : Addr} {x n : Str} {i : Nat} {body : List Stmt} {db : SDen} {np p1 p2 p3 p4 p7 pos pos' : Pos}
theorem psx_try_isR (hs : X.stack = X.env :: X.outer) (hf : X.env.frame = some X.env.locals) (hN : X.N.Nodup) (hi : X.N[i]? = some n) (hln : X.env.kindOf n = some .local) (hc : Names X x (.ref C)) (hmg : X.mg x = some (.ref C))
    (hcls : PySem.W.exmOne X.K (.ref C) (.ref C) = some true) (hE : ExcC X.K C) (hV : PySem.W.kitOne X.K (.ref C) (.type "ValueError") = some true) (tk : Takes X W)
    (hb : ∀ (W : WX) (pn : List (Addr × Obj)) (xe : Value → Shared → Prop), Takes (X.tr pn xe) W → PassesOwn (model X.prog X.w) X.A X.env xe → PSsX (X.tr pn xe) W body db)
    (gi : Gl X "isinstance") (mi : X.mg "isinstance" = none) (gv : Gl X "ValueError") (mv : X.mg "ValueError" = none) (hd : (n == ("__debug__" : Str)) = false := by decide) (hcd : (n == ("__classdict__" : Str)) = false := by decide)
    (s1 : starEach [.Name n p2, .Name "ValueError" p3] X.env = (false, eval (.Name n p2) X.env) :: starEach [.Name "ValueError" p3] X.env := by rfl) (s2 : starEach [.Name "ValueError" p3] X.env = (false, eval (.Name "ValueError" p3) X.env) :: starEach [] X.env := by rfl)
    (hpl : (backTo p4 (starEach [.Name "ValueError" p3] X.env)).any (·.1) = false := by rfl) :
    PSX X W (.Try body [.ExceptHandler (some (.Name x np)) (some n) [.Return (some (.Call (.Name "isinstance" p1) [.Name n p2, .Name "ValueError" p3] [] p4)) p7] pos'] [] [] pos) (sTryIsR x i db) := by
  refine psimp (ps_try_as (tb := fun W => tS (gOf X) W db) (ts := fun a cls d Dn σ H => (cls = .ref C ∧ d = none) ∧ σ[i]? = some (some (.ref a)) ∧ Dn.rt (.bl true) H) hs hf hN hi hln hc tk hb fun a oe cls d pn hz hfl => ?_) fun D σ H ⟨f, Z, env, st, o, e, p⟩ => ?_
  · by_cases hcd' : cls = .ref C ∧ d = none
    · obtain ⟨rfl, rfl⟩ := hcd'
      have nm : PE (X.suite a ((a, oe) :: pn)) (.Name n p2) (tVar i) := pe_var hi (.inl hln) hd hcd
      have ve : PE (X.suite a ((a, oe) :: pn)) (.Name "ValueError" p3) (tC (.ty "ValueError")) := pe_bltn gv mv (by decide +kernel) rfl
      refine pssimp (pss_one (ps_ret (pe_callB (call_isE hE hz hfl) gi mi (by decide +kernel) (pa_cons nm (pa_cons ve pa_nil s2) s1) (by decide) (by decide) s1 hpl))) fun D σ H ⟨_, hσ, hn⟩ => ?_
      exact ⟨.ref a, hσ, .ty "ValueError", .type "ValueError", true, rfl, fun u r => r, hV, hn⟩
    · exact ⟨fun pins s σ H D I h => absurd h.1 hcd'⟩
  · refine ⟨f, Z, env, st, ?_⟩
    unfold sTryIsR at e
    cases hdb : db env with
    | none => rw [hdb] at e; cases e
    | some ob =>
      rw [hdb] at e
      cases ob with
      | nx e1 => cases e; exact ⟨_, rfl, p⟩
      | rt v e1 => cases e; exact ⟨_, rfl, p⟩
      | bk e1 => cases e; exact ⟨_, rfl, p⟩
      | ct e1 => cases e; exact ⟨_, rfl, p⟩
      | ex c e1 =>
        refine ⟨_, rfl, fun cls dd σ' Z' H' s st' r => ?_⟩
        have e : (if c.c = x ∧ c.ns = [] ∧ c.vs = [] ∧ i < e1.length then some (SOut.rt (.bl true) (e1.set i .un)) else none) = some o := e
        by_cases hh : c.c = x ∧ c.ns = [] ∧ c.vs = [] ∧ i < e1.length
        · rw [if_pos hh] at e
          cases e
          obtain ⟨h1, h2, h3, h4⟩ := hh
          obtain ⟨C', hC, rfl, hdd⟩ := r
          have hC : X.mg x = some (.ref C') := by rw [← h1]; exact hC
          rw [hmg] at hC
          cases hC
          have hd0 : dd = none := by
            rcases hdd with q | ⟨d, fs, hne, _⟩
            · exact q.2.2
            · exact absurd h2 hne
          refine ⟨true, hcls, fun _ a na => ⟨⟨rfl, hd0⟩, List.getElem?_set_self (by rw [← st'.ln]; exact h4), ?_⟩, fun z => by cases z⟩
          exact p (.bl true) (σ'.set i none) Z' H' s st'.wipe1 (.bl true)
        · rw [if_neg hh] at e; cases e
end
end Pu
set_option Elab.async false
set_option linter.all false
set_option maxRecDepth 100000
set_option maxHeartbeats 4000000
/-! Pv, part J: {k: v}; name.pop(0); a, b = [..], 0; x in name, name a changing list. -/
namespace Pu
open PySem PySem.Spec PyProof.Rows L2

/-! ### {k: v} -/
def dDisp1 (dk dv : Den PV) : Den KP := fun e => match dk e with
  | some (.ok y e1) => (match dv e1 with
    | some (.ok z e2) => (match y.key with
      | some k => some (.ok [(k, z)] e2)
      | none => none)
    | _ => none)
  | _ => none
section
variable {X : Cx} {W : WX} {k v : Expr} {dk dv : Den PV} {pos : Pos}
theorem t_disp1 {σ : L2.St} {H : Hp} {Q : VK} (h : tD (gOf X) W (dDisp1 dk dv) σ H Q) : tDisp [(tP (gOf X) W dk, tP (gOf X) W dv)] σ H Q := by
  obtain ⟨f, Z, env, st, o, eo, po⟩ := h
  intro D nD
  have fD : f.H D = none := st.fH nD
  have fZD : f.Z D = none := by
    cases q : f.Z D with
    | none => rfl
    | some u => rw [st.zh _ _ (st.z0 _ _ q)] at nD; cases nD
  have nmD : ¬ Muts σ env D := fun m => by
    obtain ⟨_, ⟨u, q⟩, _⟩ := st.muts m
    rw [nD] at q; cases q
  have stp := (st.new (o := .dK []) nD).plus fD upd_same (st.zn nD) nmD
  unfold dDisp1 at eo
  cases hk : dk env with
  | none => simp only [hk] at eo; cases eo
  | some ok =>
    cases ok with
    | ex c e1 => simp only [hk] at eo; cases eo
    | ok y e1 =>
      simp only [hk] at eo
      refine ⟨f.plus D (.dK []), Z, env, stp, _, hk, fun u Z2 H2 s2 st2 r2 => ?_⟩
      cases hv : dv e1 with
      | none => simp only [hv] at eo; cases eo
      | some ov =>
        cases ov with
        | ex c e2 => simp only [hv] at eo; cases eo
        | ok z e2 =>
          simp only [hv] at eo
          refine ⟨f.plus D (.dK []), Z2, e1, st2, _, hv, fun u2 Z3 H3 s3 st3 r3 => ?_⟩
          cases hy : y.key with
          | none => simp only [hy] at eo; cases eo
          | some kk =>
            simp only [hy] at eo
            cases eo
            obtain ⟨rfl, okk⟩ := PV.key_of r2 hy
            obtain ⟨st6, h6, z6, m6⟩ := st3.minus st.mh fZD fD
            refine ⟨h6, [(kk, u2)], rfl, by simp, ?_⟩
            have rk : RepK (gOf X) Z3 [(kk, u2)] [(kk, z)] := RepK.put (RepK.nil) okk r3
            exact po (.ref D) Z3 _ (s2.trans s3) (st6.poke fD z6 m6) ⟨D, [(kk, u2)], rfl, z6, upd_same, (show 1 ≤ sizeLine by decide), rk, fD, m6⟩
theorem pd_disp1 (hk : PX X W k dk) (hv : PX X W v dv) : PD X W (.Dict [some k] [v] pos) (dDisp1 dk dv) :=
  peimp (pe_disp (L2.pps_cons hk hv pps_nil) rfl rfl (by simp) (show 1 ≤ 15 by decide)) fun σ H Q h => t_disp1 h
end
/-! ### name.pop(0) -/
def dPop0M (i : Nat) : Den PV := fun e => match e[i]? with
  | some (.m own (x :: xs)) => some (.ok x (e.set i (.m own xs)))
  | _ => none
section
variable {X : Cx} {W : WX} {i k : Nat} {x : Str} {a : Expr} {da : Den PV} {p p2 pos apos cpos : Pos} {j : Bool}
theorem px_pop0M {j} (h : PE X (.Name x p) (tVar i))
    (hbase : attributeBase (.Name x p) "pop" X.env (eval (.Name x p) X.env) = eval (.Name x p) X.env := by rfl)
    (hfew : ((backTo cpos (starEach [.Constant (.int 0) j p2] X.env)).all (fun x => !x.1) && (backToKw cpos (keywordEach [] X.env)).all (fun x => x.1.isSome)
      && decide ([Expr.Constant (.int 0) j p2].length + ([] : List Keyword).length + (if ([] : List Keyword).isEmpty then 0 else 1) < 30)) = true := by rfl)
    (hline : (apos.endLine == cpos.line) = true := by rfl) (hs : starEach [.Constant (.int 0) j p2] X.env = (false, eval (.Constant (.int 0) j p2) X.env) :: starEach [] X.env := by rfl) (hplain : (backTo cpos (starEach [] X.env)).any (·.1) = false := by rfl) :
    PX X W (.Call (.Attribute (.Name x p) "pop" apos) [.Constant (.int 0) j p2] [] cpos) (dPop0M i) :=
  peimp (pe_bm PySem.F.plainAttrs_list PySem.F.slot_list_pop PySem.F.type_list_pop mt_popAt h (pa_cons pe_int pa_nil hs) hbase hfew hline hs hplain) fun σ H Q ⟨f, Z, env, st, o, e, pp⟩ => by
    unfold dPop0M at e
    split at e
    · rename_i own y ys hx
      cases e
      obtain ⟨b, vs, e1, n, hH, l, r, ow⟩ := st.sl i _ hx
      match vs, r, hH, l with
      | v :: us, .cons rv r, hH, l =>
        have l' : us.length ≤ sizeLine := by rw [List.length_cons] at l; omega
        refine ⟨.ref b, e1, .inl ⟨rfl, _, SqL.of hH⟩, b, v :: us, 0, 0, v, rfl, rfl, hH, by decide, by decide, ?_, rfl, ?_⟩
        · show seqIndex? 0 (us.length + 1) = some 0
          unfold seqIndex?
          simp
        · exact pp v Z _ (Same.refl _) (st.putM hx e1 hH l' r) rv
    · cases e
/-! ### x in name, a changing list -/
def dInL (neg : Bool) (i : Nat) (da : Den PV) : Den PV := da.bind fun x e => match e[i]? with
  | some (.m _ xs) => if x.fit = true ∧ (PV.lst xs).fit = true then some (.ok (.bl (neg ^^ xs.any fun z => pvEq z x)) e) else none
  | _ => none
theorem t_inL {neg : Bool} {σ : L2.St} {H : Hp} {Q : VK} (h : tP (gOf X) W (dInL neg i da) σ H Q) : tOp (rInP X.K neg) (tP (gOf X) W da) (tVar i) σ H Q := by
  obtain ⟨f, Z, env, a⟩ := h
  refine (a.bind.imp fun u H1 ⟨Z1, env1, y, s1, r1, a1⟩ => ?_).here
  obtain ⟨st, o, e, pp⟩ := a1
  split at e
  · rename_i own xs hx
    obtain ⟨⟨f1, f2⟩, rfl⟩ := of_ite e
    obtain ⟨b, vs, e1, n, hH, l, r, ow⟩ := st.sl i _ hx
    refine ⟨.ref b, e1, .inr ?_⟩
    obtain ⟨p1, l1⟩ := Bool.and_eq_true_iff.mp f1
    obtain ⟨q1, q2⟩ := Bool.and_eq_true_iff.mp f2
    obtain ⟨d1, c1⟩ := r1.dp st.zh p1
    obtain ⟨d2, c2⟩ := Reps.dp st.zh q1 r
    refine ⟨_, _, _, d1, .lst (SqL.of hH) d2, .inl rfl, c1, c2, by rw [toD_depth y p1]; exact of_decide_eq_true l1, ?_⟩
    rw [toDs_any]
    exact pp _ Z1 H1 (Same.refl _) st (.bl _)
  · cases e
theorem px_inL (hr : RoomG k X.A) (ha : PX X W a da) (h : PE X (.Name x p) (tVar i)) : PX X W (.Compare a [.In] [.Name x p] pos) (dInL false i da) := peimp (pe_cmpR (op_inP hr) ha h (by with_unfolding_all rfl)) fun _ _ _ h => t_inL h
theorem px_notInL (hr : RoomG k X.A) (ha : PX X W a da) (h : PE X (.Name x p) (tVar i)) : PX X W (.Compare a [.NotIn] [.Name x p] pos) (dInL true i da) := peimp (pe_cmpR (op_notInP hr) ha h (by with_unfolding_all rfl)) fun _ _ _ h => t_inL h
theorem ptx_inL (hr : RoomG k X.A) (ha : PX X W a da) (h : PE X (.Name x p) (tVar i)) : PTX X W (.Compare a [.In] [.Name x p] pos) (dInL false i da) := ptimp (pt_cmpR (op_inP hr) ha h (by with_unfolding_all rfl)) fun _ _ _ h => tB_imp (fun _ h => t_inL h) h
theorem ptx_notInL (hr : RoomG k X.A) (ha : PX X W a da) (h : PE X (.Name x p) (tVar i)) : PTX X W (.Compare a [.NotIn] [.Name x p] pos) (dInL true i da) := ptimp (pt_cmpR (op_notInP hr) ha h (by with_unfolding_all rfl)) fun _ _ _ h => tB_imp (fun _ h => t_inL h) h
end
/-! ### a, b = [..], n -/
def sParM (i j : Nat) (d : Den (List PV)) (n : Int) : SDen := sOf d fun v e => if i < e.length ∧ j < e.length then some (.nx ((e.set i (.m true v)).set j (.v (.int n)))) else none
section
variable {X : Cx} {W : WX} {i j : Nat} {x y : Str} {a : Expr} {d : Den (List PV)} {n : Int} {px py pt pt2 pos p2 : Pos} {kt k2 jj}
theorem psx_parM (hc : X.calm = true) (hN : X.N.Nodup) (hi : X.N[i]? = some x) (hj : X.N[j]? = some y) (hij : i ≠ j) (hx : X.env.scope.names.lookup x = some .local) (hy : X.env.scope.names.lookup y = some .local) (ha : PO' X W a d)
    (hw : swappedStores [.Tuple [.Name x px, .Name y py] kt pt] (.Tuple [a, .Constant (.int n) jj p2] k2 pt2) X.env = pure (some [x, y]) := by rfl)
    (hs : swapsWithSole [.Tuple [.Name x px, .Name y py] kt pt] (.Tuple [a, .Constant (.int n) jj p2] k2 pt2) pos.line X.env = pure false := by rfl)
    (h1 : starEach [a, .Constant (.int n) jj p2] X.env = (false, eval a X.env) :: starEach [.Constant (.int n) jj p2] X.env := by rfl) (h2 : starEach [.Constant (.int n) jj p2] X.env = (false, eval (.Constant (.int n) jj p2) X.env) :: starEach [] X.env := by rfl) :
    PSX X W (.Assign [.Tuple [.Name x px, .Name y py] kt pt] (.Tuple [a, .Constant (.int n) jj p2] k2 pt2) pos) (sParM i j d n) :=
  psimp (ps_par hc hN hi hj hij hx hy (pa_cons ha (pa_cons pe_int pa_nil h2) h1) hw hs) fun D σ H ⟨f, Z, env, a⟩ => by
    refine ⟨f, Z, env, a.of.imp fun u H1 ⟨Z1, env1, v, s1, r1, a1⟩ => ?_⟩
    obtain ⟨st, o, e, p⟩ := a1
    split at e
    · rename_i hl
      cases e
      obtain ⟨q, vs, rfl, zn, hH, l, r, fn, nm⟩ := r1
      have st2 := st.setM (i := i) zn hH l r fn nm (by rw [← st.ln]; exact hl.1)
      refine ⟨.ref q, .int n, rfl, ?_⟩
      exact p _ Z1 H1 (Same.refl _) (st2.setV (.int n) (by rw [List.length_set, ← st.ln]; exact hl.2))
    · cases e
end
/-! ### written tuples within written tuples -/
theorem rk_tup {K : PySem.W.Frag} {mg : Str → Option Value} {a : Addr} {its : Array Value} {n : Nat} {sl : Array (Option Value)} {vs : List V} {xs : List PV} (hl : K.lookup a = some ⟨.type "tuple", none, .seq its n, sl⟩)
    (hz : its.size ≤ sizeLine) (hv : Vals vs its.toList) (hr : ∀ Z, Reps ⟨K, mg⟩ Z vs xs) : ∀ Z, Rep ⟨K, mg⟩ Z (.ref a) (.tup xs) :=
  fun Z => .tup (.inr ⟨_, its, n, hl, rfl, rfl, rfl, hz, hv⟩) (by rw [hv.length]; simpa using hz) (hr Z)
end Pu
set_option Elab.async false
set_option linter.all false
set_option maxRecDepth 100000
set_option maxHeartbeats 4000000
/-! Pm, part A: how dens are worked out. -/
namespace Pu
open PySem L2
section
variable {α β : Type}
@[simp] theorem bind_at (d : Den α) (k : α → Den β) (e : Cells) : d.bind k e = match d e with
  | none => none
  | some (.ex c e') => some (.ex c e')
  | some (.ok a e') => k a e' := rfl
@[simp] theorem lift_at (o : Option α) (e : Cells) : Den.lift o e = match o with
  | none => none
  | some a => some (.ok a e) := rfl
@[simp] theorem ret_at (a : α) (e : Cells) : Den.ret a e = some (.ok a e) := rfl
@[simp] theorem sOf_at (d : Den α) (k : α → SDen) (e : Cells) : sOf d k e = match d e with
  | none => none
  | some (.ex c e') => some (.ex c e')
  | some (.ok a e') => k a e' := rfl
end
@[simp] theorem var_at (i : Nat) (e : Cells) : dVar i e = match e[i]? with
  | some (.v x) => some (.ok x e)
  | _ => none := rfl
@[simp] theorem seq_at (a b : SDen) (e : Cells) : sSeq a b e = match a e with
  | some (.nx e') => b e'
  | o => o := rfl
@[simp] theorem next_at (e : Cells) : sNext e = some (.nx e) := rfl
@[simp] theorem set_at (i : Nat) (d : Den PV) (e : Cells) : sSet i d e = match d e with
  | none => none
  | some (.ex c e') => some (.ex c e')
  | some (.ok a e') => some (.nx (e'.set i (.v a))) := by
  unfold sSet; rw [sOf_at]; rcases d e with _ | (_ | _) <;> rfl
@[simp] theorem ret_st (d : Den PV) (e : Cells) : sRet d e = match d e with
  | none => none
  | some (.ex c e') => some (.ex c e')
  | some (.ok a e') => some (.rt a e') := by
  unfold sRet; rw [sOf_at]; rcases d e with _ | (_ | _) <;> rfl
@[simp] theorem drop_st (d : Den PV) (e : Cells) : sDrop d e = match d e with
  | none => none
  | some (.ex c e') => some (.ex c e')
  | some (.ok _ e') => some (.nx e') := by
  unfold sDrop; rw [sOf_at]; rcases d e with _ | (_ | _) <;> rfl
@[simp] theorem if_at (c : Den PV) (a b : SDen) (e : Cells) : sIf c a b e = match c e with
  | none => none
  | some (.ex c e') => some (.ex c e')
  | some (.ok (.bl t) e') => if t then a e' else b e'
  | some (.ok _ e') => none := by
  unfold sIf
  rw [sOf_at]
  rcases d0 : c e with _ | (⟨x, e1⟩ | ⟨x, e1⟩)
  · rfl
  · cases x <;> first | rfl | (rename_i b; cases b <;> rfl)
  · rfl
@[simp] theorem bool_at {α : Type} (d : Den PV) (k : Bool → Den α) (e : Cells) : dBool d k e = match d e with
  | none => none
  | some (.ex c e') => some (.ex c e')
  | some (.ok (.bl t) e') => k t e'
  | some (.ok _ e') => none := by
  unfold dBool
  rw [bind_at]
  rcases d0 : d e with _ | (⟨x, e1⟩ | ⟨x, e1⟩)
  · rfl
  · cases x <;> first | rfl | (rename_i b; cases b <;> rfl)
  · rfl
@[simp] theorem callK_at (F : Fn) (xs : List PV) (e : Cells) : callK F xs e = match F xs with
  | none => none
  | some (.ok r) => some (.ok r e)
  | some (.error c) => some (.ex c e) := rfl
/-! equal data -/
@[simp] theorem eq_int (i j : Int) : pvEq (.int i) (.int j) = decide (i = j) := by
  show (i == j) = _
  by_cases h : i = j <;> simp [h]
@[simp] theorem eq_str (i j : Str) : pvEq (.str i) (.str j) = decide (i = j) := by
  show (i == j) = _
  by_cases h : i = j <;> simp [h]
@[simp] theorem eq_bl (i j : Bool) : pvEq (.bl i) (.bl j) = (i == j) := rfl
@[simp] theorem fit_int (i : Int) : (PV.int i).fit = true := rfl
@[simp] theorem fit_str (i : Str) : (PV.str i).fit = true := rfl
@[simp] theorem fit_bl (i : Bool) : (PV.bl i).fit = true := rfl
@[simp] theorem fit_non : PV.non.fit = true := rfl
@[simp] theorem qEq_int (i j : Int) : qEq (.int i) (.int j) = some (.bl (decide (i = j))) := by
  unfold qEq; simp
@[simp] theorem qEq_str (i j : Str) : qEq (.str i) (.str j) = some (.bl (decide (i = j))) := by
  unfold qEq; simp
@[simp] theorem qNe_int (i j : Int) : qNe (.int i) (.int j) = some (.bl (!decide (i = j))) := by
  unfold qNe; simp
@[simp] theorem qI_int (k : Int → Int → Option Int) (i j : Int) : qI k (.int i) (.int j) = (k i j).map .int := rfl
@[simp] theorem qB_int (k : Int → Int → Bool) (i j : Int) : qB k (.int i) (.int j) = some (.bl (k i j)) := rfl
section
variable {q q' : PV → PV → Option PV} {da db dc : Den PV} {F : Fn} {dv : List PV} {ds : Den (List PV)} {d : Den PV} {α : Type} {qa : List PV → Option α} {u : PV → Option PV} {dl : Den (List PV)} {dk : Den KP}
@[simp] theorem dOp_eq (e : Cells) : dOp q da db e = (da.bind fun x => db.bind fun y => Den.lift (q x y)) e := rfl
@[simp] theorem dAnd_eq (e : Cells) : dAnd da db e = (dBool da fun b => if b then db else Den.ret (.bl false)) e := rfl
@[simp] theorem dOr_eq (e : Cells) : dOr da db e = (dBool da fun b => if b then Den.ret (.bl true) else db) e := rfl
@[simp] theorem dNot_eq (e : Cells) : dNot da e = (dBool da fun b => Den.ret (.bl (!b))) e := rfl
@[simp] theorem dIf_eq (e : Cells) : dIf dc da db e = (dBool dc fun b => if b then da else db) e := rfl
@[simp] theorem dCall_eq (e : Cells) : dCall F dv ds e = (ds.bind fun xs => callK F (xs ++ dv)) e := rfl
@[simp] theorem dCons_eq (e : Cells) : dCons d ds e = (d.bind fun x => ds.bind fun xs => Den.ret (x :: xs)) e := rfl
@[simp] theorem dNil_eq (e : Cells) : dNil e = (Den.ret []) e := rfl
@[simp] theorem dTup_eq (e : Cells) : dTup ds e = (ds.bind fun xs => Den.lift (if xs.length ≤ 1000 then some (.tup xs) else none)) e := rfl
@[simp] theorem dArgs_eq (e : Cells) : dArgs qa ds e = (ds.bind fun xs => Den.lift (qa xs)) e := rfl
@[simp] theorem dUn_eq (e : Cells) : dUn u da e = (da.bind fun x => Den.lift (u x)) e := rfl
@[simp] theorem dLstOf_eq (e : Cells) : dLstOf dl e = (dl.bind fun xs => Den.ret (.lst xs)) e := rfl
@[simp] theorem dDicOf_eq (e : Cells) : dDicOf dk e = (dk.bind fun kps => Den.ret (PV.dicOf kps)) e := rfl
@[simp] theorem dShort_eq (e : Cells) : dShort dl e = (dl.bind fun xs => Den.lift (if xs.length ≤ 1000 then some xs else none)) e := rfl
@[simp] theorem dAdd_eq (e : Cells) : dAdd da db e = (da.bind fun x => db.bind fun y => Den.lift (qAddG x y)) e := rfl
@[simp] theorem dChain_eq (e : Cells) : dChain q q' da db dc e = (da.bind fun x => db.bind fun y => dBool (Den.lift (q x y)) fun z => if z then dc.bind fun w => Den.lift (q' y w) else Den.ret (.bl false)) e := rfl
end

/-! ### texts, items, slices -/
theorem char_inj {a b : Char} (h : a.toNat = b.toNat) : a = b := by
  apply Char.ext
  apply UInt32.toNat_inj.mp
  exact h
theorem map_toNat_inj : ∀ {a b : List Char}, a.map Char.toNat = b.map Char.toNat → a = b
  | [], [], _ => rfl
  | [], _ :: _, h => by cases h
  | _ :: _, [], h => by cases h
  | x :: a, y :: b, h => by
    rw [List.map_cons, List.map_cons] at h
    rw [char_inj (List.cons.inj h).1, map_toNat_inj (List.cons.inj h).2]
@[simp] theorem ofString_inj (a b : String) : (Str.ofString a = Str.ofString b) = (a = b) := by
  refine propext ⟨fun h => ?_, fun h => by rw [h]⟩
  rw [Str.ofString_eq_toList, Str.ofString_eq_toList] at h
  have h := congrArg Str.cps h
  have h := Array.mk.inj h
  exact String.toList_inj.mp (map_toNat_inj h)
theorem atI_nat {α : Type} (xs : List α) (n : Nat) : atI xs (n : Int) = xs[n]? := by
  unfold atI ixN
  rw [if_pos (Int.natCast_nonneg n)]
  by_cases h : n < xs.length
  · rw [if_pos (by omega)]
    simp
  · rw [if_neg (by omega)]
    simp only [Option.bind_none]
    rw [List.getElem?_eq_none (by omega)]
@[simp] theorem atI_lit {α : Type} (xs : List α) (n : Nat) : atI xs (no_index (@OfNat.ofNat Int n _)) = xs[n]? := atI_nat xs n
@[simp] theorem atI_cast {α : Type} (xs : List α) (n : Nat) : atI xs (n : Int) = xs[n]? := atI_nat xs n
@[simp] theorem qIx_tup (xs : List PV) (i : Int) : qIx (.tup xs) (.int i) = atI xs i := rfl
@[simp] theorem qIx_ktup (xs : List PV) (i : Int) : qIx (.ktup xs) (.int i) = atI xs i := rfl
@[simp] theorem qIx_lst (xs : List PV) (i : Int) : qIx (.lst xs) (.int i) = atI xs i := rfl
theorem cut_from {α : Type} (xs : List α) (n : Nat) : cutP xs (some (n : Int)) none = xs.drop n := by
  unfold cutP
  rw [HT.sIx_nat, HT.sIx_none]
  by_cases h : n ≤ xs.length
  · rw [Nat.min_eq_left h, List.take_of_length_le (by rw [List.length_drop]; exact Nat.le_refl _)]
  · have h : xs.length ≤ n := by omega
    rw [Nat.min_eq_right h, Nat.sub_self, List.take_zero, List.drop_of_length_le h]
theorem cut_to {α : Type} (xs : List α) (n : Nat) : cutP xs none (some (n : Int)) = xs.take n := by
  unfold cutP
  rw [HT.sIx_nat, HT.sIx_none, List.drop_zero, Nat.sub_zero]
  by_cases h : n ≤ xs.length
  · rw [Nat.min_eq_left h]
  · have h : xs.length ≤ n := by omega
    rw [Nat.min_eq_right h, List.take_of_length_le (Nat.le_refl _), List.take_of_length_le h]
@[simp] theorem cut_from_lit {α : Type} (xs : List α) (n : Nat) : cutP xs (some (no_index (@OfNat.ofNat Int n _))) none = xs.drop n := cut_from xs n
@[simp] theorem cut_to_lit {α : Type} (xs : List α) (n : Nat) : cutP xs none (some (no_index (@OfNat.ofNat Int n _))) = xs.take n := cut_to xs n
@[simp] theorem cut_from_cast {α : Type} (xs : List α) (n : Nat) : cutP xs (some (n : Int)) none = xs.drop n := cut_from xs n
@[simp] theorem cut_to_cast {α : Type} (xs : List α) (n : Nat) : cutP xs none (some (n : Int)) = xs.take n := cut_to xs n
@[simp] theorem qSl_tup (lo hi : Option Int) (xs : List PV) : qSl lo hi (.tup xs) = some (.tup (cutP xs lo hi)) := rfl
@[simp] theorem qSl_lst (lo hi : Option Int) (xs : List PV) : qSl lo hi (.lst xs) = some (.lst (cutP xs lo hi)) := rfl
@[simp] theorem dSl_eq (da : Den PV) (lo hi : Option (Den PV)) (e : Cells) : dSl da lo hi e = (da.bind fun x => (dPart lo).bind fun l => (dPart hi).bind fun h => Den.lift (qSl l h x)) e := rfl
@[simp] theorem dPart_none (e : Cells) : dPart none e = some (.ok none e) := rfl
@[simp] theorem dPart_some_eq (d : Den PV) (e : Cells) : dPart (some d) e = (d.bind fun x => Den.lift (match x with | .int i => some (some i) | _ => none)) e := rfl
@[simp] theorem qAddG_int (i j : Int) : qAddG (.int i) (.int j) = some (.int (i + j)) := rfl
@[simp] theorem qLen_tup (xs : List PV) : qLen [.tup xs] = some (.int xs.length) := rfl
@[simp] theorem qLen_ktup (xs : List PV) : qLen [.ktup xs] = some (.int xs.length) := rfl
@[simp] theorem qLen_lst (xs : List PV) : qLen [.lst xs] = some (.int xs.length) := rfl
@[simp] theorem qInt_int (i : Int) : qInt [.int i] = some (.int i) := rfl
@[simp] theorem qTuple_lst (xs : List PV) : qTuple [.lst xs] = some (.tup xs) := rfl
@[simp] theorem qTuple_tup (xs : List PV) : qTuple [.tup xs] = some (.tup xs) := rfl
@[simp] theorem qList_tup (xs : List PV) : qList [.tup xs] = some xs := rfl
@[simp] theorem qList_lst (xs : List PV) : qList [.lst xs] = some xs := rfl
/-! ### changing lists -/
@[simp] theorem ixM_at (i : Nat) (db : Den PV) (e : Cells) : dIxM i db e = match e[i]? with
  | some (.m _ _) => db.bind (fun y e1 => match e1[i]?, y with
    | some (.m _ xs), .int j => (match atI xs j with
      | some v => some (.ok v e1)
      | none => none)
    | _, _ => none) e
  | _ => none := rfl
@[simp] theorem setIxM_at (i : Nat) (dv dk : Den PV) (e : Cells) : sSetIxM i dv dk e = sOf dv (fun v e0 => match e0[i]? with
  | some (.m _ _) => sOf dk (fun k e => match e[i]?, k with
    | some (.m own xs), .int j => (match ixN xs.length j with
      | some n => some (.nx (e.set i (.m own (xs.set n v))))
      | none => none)
    | _, _ => none) e0
  | _ => none) e := rfl
theorem ixN_nat (l n : Nat) : ixN l (n : Int) = if n < l then some n else none := by
  unfold ixN
  rw [if_pos (Int.natCast_nonneg n)]
  by_cases h : n < l
  · rw [if_pos (by omega), if_pos h]; simp
  · rw [if_neg (by omega), if_neg h]
@[simp] theorem ixN_lit (l n : Nat) : ixN l (no_index (@OfNat.ofNat Int n _)) = if n < l then some n else none := ixN_nat l n
end Pu
set_option Elab.async false
set_option linter.all false
set_option maxRecDepth 100000
set_option maxHeartbeats 4000000
/-! Pm, part B: loops and comprehensions worked out; bits; the rest of the tables. -/
namespace Pu
open PySem L2

/-! ### comprehensions -/
/-- one turn: what is put in, the cells behind it -/
def lcTurn (gx : PV → Cells → Option Cells) (dc de : Den PV) (own : List Nat) (x : PV) (e : Cells) : Option (Option PV × Cells) := match gx x e with
  | none => none
  | some e1 => match dc e1 with
    | some (.ok (.bl true) e2) => (match de e2 with
      | some (.ok y e3) => some (some y, wipeE e3 own)
      | _ => none)
    | some (.ok (.bl false) e2) => some (none, wipeE e2 own)
    | _ => none
section
variable {gx : PV → Cells → Option Cells} {dc de dk dv : Den PV} {own : List Nat}
theorem lc_cons (x : PV) (xs acc : List PV) (e : Cells) : lcLoop gx dc de own (x :: xs) acc e = match lcTurn gx dc de own x e with
    | some (some y, e') => lcLoop gx dc de own xs (acc ++ [y]) e'
    | some (none, e') => lcLoop gx dc de own xs acc e'
    | none => none := by
  unfold lcTurn
  show (match gx x e with | none => none | some e1 => _) = _
  cases gx x e with
  | none => rfl
  | some e1 =>
    simp only
    rcases dc e1 with _ | (⟨b, e2⟩ | ⟨c, e2⟩)
    · rfl
    · cases b with
      | bl b =>
        cases b with
        | true =>
          simp only
          rcases de e2 with _ | (⟨y, e3⟩ | ⟨c, e3⟩) <;> rfl
        | false => rfl
      | _ => rfl
    · rfl
theorem lc_nil (acc : List PV) (e : Cells) : lcLoop gx dc de own [] acc e = some (.ok acc e) := rfl
/-- nothing is changed -/
theorem lc_pure (p : PV → Bool) (f : PV → PV) (e : Cells) : ∀ (xs acc : List PV), (∀ x ∈ xs, lcTurn gx dc de own x e = some (if p x = true then some (f x) else none, e)) → lcLoop gx dc de own xs acc e = some (.ok (acc ++ (xs.filter p).map f) e)
  | [], acc, _ => by rw [lc_nil, List.filter_nil, List.map_nil, List.append_nil]
  | x :: xs, acc, h => by
    rw [lc_cons, h x List.mem_cons_self]
    have ih := fun acc => lc_pure p f e xs acc fun y hy => h y (List.mem_cons_of_mem _ hy)
    by_cases c : p x = true
    · rw [if_pos c]
      simp only
      rw [ih, List.filter_cons_of_pos c, List.map_cons, List.append_assoc]
      rfl
    · rw [if_neg c]
      simp only
      rw [ih, List.filter_cons_of_neg c]
/-- cells change, what is put in is what is walked -/
theorem lc_some (I : Cells → Prop) : ∀ (xs acc : List PV) (e : Cells), I e → (∀ x ∈ xs, ∀ e, I e → ∃ o e', lcTurn gx dc de own x e = some (o, e') ∧ I e' ∧ (o = none ∨ o = some x)) → ∃ ys e', lcLoop gx dc de own xs acc e = some (.ok (acc ++ ys) e') ∧ I e' ∧ ys.Sublist xs
  | [], acc, e, i, _ => ⟨[], e, by rw [lc_nil, List.append_nil], i, List.Sublist.refl _⟩
  | x :: xs, acc, e, i, h => by
    obtain ⟨o, e', h1, h2, h3⟩ := h x List.mem_cons_self e i
    rw [lc_cons, h1]
    rcases h3 with rfl | rfl
    · obtain ⟨ys, e2, k1, k2, k3⟩ := lc_some I xs acc e' h2 fun y hy => h y (List.mem_cons_of_mem _ hy)
      exact ⟨ys, e2, k1, k2, k3.cons x⟩
    · obtain ⟨ys, e2, k1, k2, k3⟩ := lc_some I xs (acc ++ [x]) e' h2 fun y hy => h y (List.mem_cons_of_mem _ hy)
      exact ⟨x :: ys, e2, by simp only; rw [k1, List.append_assoc]; rfl, k2, k3.cons_cons x⟩
/-- the same with what is put in told by a relation -/
theorem lc_rel (I : Cells → Prop) (P : PV → Prop) : ∀ (xs acc : List PV) (e : Cells), I e → (∀ x ∈ xs, ∀ e, I e → ∃ o e', lcTurn gx dc de own x e = some (o, e') ∧ I e' ∧ (∀ y, o = some y → P y)) →
    ∃ ys e', lcLoop gx dc de own xs acc e = some (.ok (acc ++ ys) e') ∧ I e' ∧ (∀ y ∈ ys, P y) ∧ ys.length ≤ xs.length
  | [], acc, e, i, _ => ⟨[], e, by rw [lc_nil, List.append_nil], i, fun _ h => (List.not_mem_nil h).elim, Nat.le_refl _⟩
  | x :: xs, acc, e, i, h => by
    obtain ⟨o, e', h1, h2, h3⟩ := h x List.mem_cons_self e i
    rw [lc_cons, h1]
    cases o with
    | none =>
      obtain ⟨ys, e2, k1, k2, k3, k4⟩ := lc_rel I P xs acc e' h2 fun y hy => h y (List.mem_cons_of_mem _ hy)
      exact ⟨ys, e2, k1, k2, k3, Nat.le_succ_of_le k4⟩
    | some y =>
      obtain ⟨ys, e2, k1, k2, k3, k4⟩ := lc_rel I P xs (acc ++ [y]) e' h2 fun y hy => h y (List.mem_cons_of_mem _ hy)
      refine ⟨y :: ys, e2, by simp only; rw [k1, List.append_assoc]; rfl, k2, fun z hz => ?_, Nat.succ_le_succ k4⟩
      rcases List.mem_cons.mp hz with rfl | hz
      · exact h3 _ rfl
      · exact k3 z hz
@[simp] theorem dLc_at (di : Den (List PV)) (e : Cells) : dLc di gx dc de own e = match di e with
    | none => none
    | some (.ex c e') => some (.ex c e')
    | some (.ok xs e') => lcLoop gx dc de own xs [] (wipeE e' own) := by
  unfold dLc; rw [bind_at]; rcases di e with _ | (_ | _) <;> rfl
def dcTurn (gx : PV → Cells → Option Cells) (dc dk dv : Den PV) (own : List Nat) (x : PV) (e : Cells) : Option (Option (Key × PV) × Cells) := match gx x e with
  | none => none
  | some e1 => match dc e1 with
    | some (.ok (.bl true) e2) => (match dk e2 with
      | some (.ok y e3) => (match dv e3 with
        | some (.ok z e4) => (match y.key with
          | some k => some (some (k, z), wipeE e4 own)
          | none => none)
        | _ => none)
      | _ => none)
    | some (.ok (.bl false) e2) => some (none, wipeE e2 own)
    | _ => none
theorem dc_cons (x : PV) (xs : List PV) (acc : KP) (e : Cells) : dcLoop gx dc dk dv own (x :: xs) acc e = match dcTurn gx dc dk dv own x e with
    | some (some y, e') => dcLoop gx dc dk dv own xs (putP acc y.1 y.2) e'
    | some (none, e') => dcLoop gx dc dk dv own xs acc e'
    | none => none := by
  unfold dcTurn
  show (match gx x e with | none => none | some e1 => _) = _
  cases gx x e with
  | none => rfl
  | some e1 =>
    simp only
    rcases dc e1 with _ | (⟨b, e2⟩ | ⟨c, e2⟩)
    · rfl
    · cases b with
      | bl b =>
        cases b with
        | true =>
          simp only
          rcases dk e2 with _ | (⟨y, e3⟩ | ⟨c, e3⟩)
          · rfl
          · simp only
            rcases dv e3 with _ | (⟨z, e4⟩ | ⟨c, e4⟩)
            · rfl
            · simp only
              cases y.key <;> rfl
            · rfl
          · rfl
        | false => rfl
      | _ => rfl
    · rfl
theorem dc_nil (acc : KP) (e : Cells) : dcLoop gx dc dk dv own [] acc e = some (.ok acc e) := rfl
def putsP (acc : KP) (kvs : KP) : KP := kvs.foldl (fun a kv => putP a kv.1 kv.2) acc
theorem dc_pure (p : PV → Bool) (f : PV → Key × PV) (e : Cells) : ∀ (xs : List PV) (acc : KP), (∀ x ∈ xs, dcTurn gx dc dk dv own x e = some (if p x = true then some (f x) else none, e)) → dcLoop gx dc dk dv own xs acc e = some (.ok (putsP acc ((xs.filter p).map f)) e)
  | [], acc, _ => rfl
  | x :: xs, acc, h => by
    rw [dc_cons, h x List.mem_cons_self]
    have ih := fun acc => dc_pure p f e xs acc fun y hy => h y (List.mem_cons_of_mem _ hy)
    by_cases c : p x = true
    · rw [if_pos c]
      simp only
      rw [ih, List.filter_cons_of_pos c, List.map_cons]
      rfl
    · rw [if_neg c]
      simp only
      rw [ih, List.filter_cons_of_neg c]
@[simp] theorem dDc_at (di : Den (List PV)) (e : Cells) : dDc di gx dc dk dv own e = match di e with
    | none => none
    | some (.ex c e') => some (.ex c e')
    | some (.ok xs e') => dcLoop gx dc dk dv own xs [] (wipeE e' own) := by
  unfold dDc; rw [bind_at]; rcases di e with _ | (_ | _) <;> rfl
/-! ### for -/
variable {body : SDen}
@[simp] theorem sFor_at (di : Den (List PV)) (e : Cells) : sFor di gx body e = match di e with
    | none => none
    | some (.ex c e') => some (.ex c e')
    | some (.ok xs e') => sLoop gx body xs e' := by
  unfold sFor; rw [sOf_at]; rcases di e with _ | (_ | _) <;> rfl
def sTurn (gx : PV → Cells → Option Cells) (body : SDen) (x : PV) (e : Cells) : Option SOut := match gx x e with
  | none => none
  | some e1 => body e1
theorem loop_cons (x : PV) (xs : List PV) (e : Cells) : sLoop gx body (x :: xs) e = match sTurn gx body x e with
    | some (.nx e2) => sLoop gx body xs e2
    | some (.ct e2) => sLoop gx body xs e2
    | some (.bk e2) => some (.nx e2)
    | o => o := by
  unfold sTurn
  show (match gx x e with | none => none | some e1 => _) = _
  cases gx x e with
  | none => rfl
  | some e1 =>
    (simp only) <;> (rcases body e1 with _ | o) <;> first | rfl | (cases o <;> rfl)
theorem loop_nil (e : Cells) : sLoop gx body [] e = some (.nx e) := rfl
/-- an invariant; no turn leaves -/
theorem loop_inv (I : List PV → Cells → Prop) : ∀ (xs : List PV) (e : Cells), I xs e → (∀ x xs e, I (x :: xs) e → ∃ e', (sTurn gx body x e = some (.nx e') ∨ sTurn gx body x e = some (.ct e')) ∧ I xs e') → ∃ e', sLoop gx body xs e = some (.nx e') ∧ I [] e'
  | [], e, i, _ => ⟨e, rfl, i⟩
  | x :: xs, e, i, h => by
    obtain ⟨e', h1, h2⟩ := h x xs e i
    rw [loop_cons]
    rcases h1 with h1 | h1 <;> rw [h1] <;> exact loop_inv I xs e' h2 h
end
@[simp] theorem gxN_at (i : Nat) (x : PV) (e : Cells) : gxN i x e = if i < e.length then some (e.set i (.v x)) else none := rfl
@[simp] theorem gxT_tup (n : Nat) (r : List PV → Cells → Option Cells) (xs : List PV) (e : Cells) : gxT n r (.tup xs) e = if xs.length = n then r xs e else none := rfl
@[simp] theorem gxT_ktup (n : Nat) (r : List PV → Cells → Option Cells) (xs : List PV) (e : Cells) : gxT n r (.ktup xs) e = if xs.length = n then r xs e else none := rfl
@[simp] theorem gxCons_at (gx : PV → Cells → Option Cells) (r : List PV → Cells → Option Cells) (x : PV) (xs : List PV) (e : Cells) : gxCons gx r (x :: xs) e = (gx x e).bind (r xs) := rfl
@[simp] theorem gxNil_at (e : Cells) : gxNil [] e = some e := rfl
@[simp] theorem wipeE_nil (e : Cells) : wipeE e [] = e := rfl
@[simp] theorem wipeE_cons (e : Cells) (v : Nat) (vs : List Nat) : wipeE e (v :: vs) = (wipeE e vs).set v .un := rfl
@[simp] theorem dSeq_eq (da : Den PV) (e : Cells) : dSeq da e = (da.bind fun x => Den.lift x.seq) e := rfl
@[simp] theorem seq_tup (xs : List PV) : (PV.tup xs).seq = some xs := rfl
@[simp] theorem seq_ktup (xs : List PV) : (PV.ktup xs).seq = some xs := rfl
@[simp] theorem seq_lst (xs : List PV) : (PV.lst xs).seq = some xs := rfl
@[simp] theorem dEnum_eq (da : Den PV) (e : Cells) : dEnum da e = (da.bind fun x => Den.lift (x.items.map enumP)) e := rfl
@[simp] theorem items_tup (xs : List PV) : (PV.tup xs).items = some xs := rfl
@[simp] theorem items_lst (xs : List PV) : (PV.lst xs).items = some xs := rfl
@[simp] theorem items_ktup (xs : List PV) : (PV.ktup xs).items = some xs := rfl
@[simp] theorem dRg_at (da : Den PV) (e : Cells) : dRg da e = match da e with
    | none => none
    | some (.ex c e') => some (.ex c e')
    | some (.ok x e') => Den.lift (match x with | .int n => if -16777216 ≤ n ∧ n ≤ 16777216 then some (rgP n) else none | _ => none) e' := by
  unfold dRg; rw [bind_at]; rcases da e with _ | (_ | _) <;> rfl
@[simp] theorem sPar_at (i j : Nat) (da db : Den PV) (e : Cells) : sPar i j da db e = (sOf da fun x => sOf db fun y e => if i < e.length ∧ j < e.length then some (.nx ((e.set i (.v x)).set j (.v y))) else none) e := rfl
@[simp] theorem raise_at (c : Str) (e : Cells) : sRaise c e = some (.ex ⟨c, [], []⟩ e) := rfl
@[simp] theorem tryIs_at (cn : Str) (i : Nat) (db : SDen) (e : Cells) : sTryIs cn i db e = match db e with
  | some (.ex c e) => if c.c = cn ∧ c.ns = [] ∧ c.vs = [] ∧ i < e.length then some (.nx (e.set i .un)) else none
  | o => o := rfl
@[simp] theorem setM_at (i : Nat) (d : Den (List PV)) (e : Cells) : sSetM i d e = (sOf d fun v e => some (.nx (e.set i (.m true v)))) e := rfl
@[simp] theorem setD_at (i : Nat) (d : Den KP) (e : Cells) : sSetD i d e = (sOf d fun v e => some (.nx (e.set i (.dOf true v)))) e := rfl
@[simp] theorem freeze_at (i : Nat) (e : Cells) : dFreeze i e = match e[i]? with
  | some (.m true xs) => some (.ok (.lst xs) (e.set i (.v (.lst xs))))
  | _ => none := rfl
@[simp] theorem freezeD_at (i : Nat) (e : Cells) : dFreezeD i e = match e[i]? with
  | some (.d true ks vs) => some (.ok (.dic ks vs) (e.set i (.v (.dic ks vs))))
  | _ => none := rfl
@[simp] theorem appM_at (i : Nat) (da : Den PV) (e : Cells) : dAppM i da e = match e[i]? with
  | some (.m _ _) => da.bind (fun y e1 => match e1[i]? with
    | some (.m own xs) => if xs.length < sizeLine then some (.ok .non (e1.set i (.m own (xs ++ [y])))) else none
    | _ => none) e
  | _ => none := rfl
@[simp] theorem updM_at (i : Nat) (da : Den PV) (e : Cells) : dUpdM i da e = match e[i]? with
  | some (.d _ _ _) => da.bind (fun y e1 => match e1[i]?, y with
    | some (.d own ks vs), .dic ks' vs' => if ks.length + ks'.length ≤ sizeLine then some (.ok .non (e1.set i (.dOf own (mergeP (ks.zip vs) (ks'.zip vs'))))) else none
    | _, _ => none) e
  | _ => none := rfl
@[simp] theorem callM_at (i : Nat) (F : FnM) (ds : Den (List PV)) (e : Cells) : dCallM i F ds e = match e[i]? with
  | some (.m _ _) => ds.bind (fun args e1 => match e1[i]? with
    | some (.m own xs) => (match F xs args with
      | some (r, ys) => some (.ok r (e1.set i (.m own ys)))
      | none => none)
    | _ => none) e
  | _ => none := rfl
@[simp] theorem callO_eq (F : FnO) (ds : Den (List PV)) (e : Cells) : dCallO F ds e = (ds.bind fun xs => Den.lift (F xs)) e := rfl
@[simp] theorem indexT_at (da db : Den PV) (e : Cells) : dIndexT da db e = match da e with
    | none => none
    | some (.ex c e') => some (.ex c e')
    | some (.ok (.tup xs) e') => (db.bind fun y => Den.lift (qIndex (.tup xs) y)) e'
    | some (.ok _ _) => none := by
  unfold dIndexT
  rw [bind_at]
  rcases da e with _ | (⟨x, e1⟩ | ⟨x, e1⟩)
  · rfl
  · cases x <;> rfl
  · rfl
@[simp] theorem isT_eq (T : String) (da : Den PV) (e : Cells) : dIsT T da e = (da.bind fun x => Den.lift (if x.ty ≠ "" then some (.bl (isT T x)) else none)) e := rfl
/-! ### bits -/
theorem bitAnd_one (x : Int) : Builtin.bitAnd x 1 = x % 2 := by
  exact PyProof.Rows.bitAnd_m1 x
end Pu
set_option Elab.async false
set_option linter.all false
set_option maxRecDepth 100000
set_option maxHeartbeats 4000000
/-! Pm, part C: equal data, dicts with plain keys, steps. -/
namespace Pu
open PySem L2

/-! ### steps -/
theorem seq_nx {a b : SDen} {e e' : Cells} {o : Option SOut} (h : a e = some (.nx e')) (k : b e' = o) : sSeq a b e = o := by rw [seq_at, h]; exact k
theorem seq_rt {a b : SDen} {e e' : Cells} {v : PV} (h : a e = some (.rt v e')) : sSeq a b e = some (.rt v e') := by rw [seq_at, h]
theorem if_f {c : Den PV} {a b : SDen} {e e' : Cells} {o : Option SOut} (h : c e = some (.ok (.bl false) e')) (k : b e' = o) : sIf c a b e = o := by rw [if_at, h]; exact k
theorem if_t {c : Den PV} {a b : SDen} {e e' : Cells} {o : Option SOut} (h : c e = some (.ok (.bl true) e')) (k : a e' = o) : sIf c a b e = o := by rw [if_at, h]; exact k
/-- an if that only goes on -/
theorem if_nx {c : Den PV} {a : SDen} {e e' : Cells} (h : c e = some (.ok (.bl false) e')) : sIf c a sNext e = some (.nx e') := if_f h rfl

/-! ### fit -/
@[simp] theorem plain_tup (xs : List PV) : (PV.tup xs).plain = PV.plains xs := rfl
@[simp] theorem plain_ktup (xs : List PV) : (PV.ktup xs).plain = PV.plains xs := rfl
@[simp] theorem plain_lst (xs : List PV) : (PV.lst xs).plain = PV.plains xs := rfl
@[simp] theorem plain_int (i : Int) : (PV.int i).plain = true := rfl
@[simp] theorem plain_str (i : Str) : (PV.str i).plain = true := rfl
@[simp] theorem plain_bl (i : Bool) : (PV.bl i).plain = true := rfl
@[simp] theorem plain_non : PV.non.plain = true := rfl
@[simp] theorem plains_nil : PV.plains [] = true := rfl
@[simp] theorem plains_cons (x : PV) (xs : List PV) : PV.plains (x :: xs) = (x.plain && PV.plains xs) := rfl
@[simp] theorem depth_tup (xs : List PV) : (PV.tup xs).depth = PV.depths xs + 1 := rfl
@[simp] theorem depth_ktup (xs : List PV) : (PV.ktup xs).depth = PV.depths xs + 1 := rfl
@[simp] theorem depth_lst (xs : List PV) : (PV.lst xs).depth = PV.depths xs + 1 := rfl
@[simp] theorem depth_int (i : Int) : (PV.int i).depth = 0 := rfl
@[simp] theorem depth_str (i : Str) : (PV.str i).depth = 0 := rfl
@[simp] theorem depth_bl (i : Bool) : (PV.bl i).depth = 0 := rfl
@[simp] theorem depth_non : PV.non.depth = 0 := rfl
@[simp] theorem depths_nil : PV.depths [] = 0 := rfl
@[simp] theorem depths_cons (x : PV) (xs : List PV) : PV.depths (x :: xs) = max x.depth (PV.depths xs) := rfl
@[simp] theorem fit_eq_true (x : PV) : (x.fit = true) = (x.plain = true ∧ x.depth ≤ 190) := by
  unfold PV.fit
  simp
@[simp] theorem plains_int {α : Type} (f : α → Int) (l : List α) : PV.plains (l.map fun i => .int (f i)) = true := by
  induction l with
  | nil => rfl
  | cons a l ih => rw [List.map_cons, plains_cons, ih]; rfl
@[simp] theorem depths_int {α : Type} (f : α → Int) (l : List α) : PV.depths (l.map fun i => .int (f i)) = 0 := by
  induction l with
  | nil => rfl
  | cons a l ih => rw [List.map_cons, depths_cons, ih]; rfl
@[simp] theorem plains_intm (l : List Int) : PV.plains (l.map PV.int) = true := plains_int id l
@[simp] theorem depths_intm (l : List Int) : PV.depths (l.map PV.int) = 0 := depths_int id l
@[simp] theorem plains_strm (l : List Str) : PV.plains (l.map PV.str) = true := by
  induction l with
  | nil => rfl
  | cons a l ih => rw [List.map_cons, plains_cons, ih]; rfl
@[simp] theorem depths_strm (l : List Str) : PV.depths (l.map PV.str) = 0 := by
  induction l with
  | nil => rfl
  | cons a l ih => rw [List.map_cons, depths_cons, ih]; rfl
/-! ### equal data -/
theorem eqvAll_int : ∀ (a b : List Int), PyData.eqvAll (PV.toDs (a.map .int)) (PV.toDs (b.map .int)) = decide (a = b)
  | [], [] => rfl
  | [], _ :: _ => rfl
  | _ :: _, [] => rfl
  | x :: a, y :: b => by
    show ((x == y) && PyData.eqvAll (PV.toDs (a.map .int)) (PV.toDs (b.map .int))) = _
    rw [eqvAll_int a b]
    by_cases h1 : x = y <;> by_cases h2 : a = b <;> simp [h1, h2]
theorem eqvAll_str : ∀ (a b : List Str), PyData.eqvAll (PV.toDs (a.map .str)) (PV.toDs (b.map .str)) = decide (a = b)
  | [], [] => rfl
  | [], _ :: _ => rfl
  | _ :: _, [] => rfl
  | x :: a, y :: b => by
    show ((x == y) && PyData.eqvAll (PV.toDs (a.map .str)) (PV.toDs (b.map .str))) = _
    rw [eqvAll_str a b]
    by_cases h1 : x = y <;> by_cases h2 : a = b <;> simp [h1, h2]
@[simp] theorem eq_tup_int (a b : List Int) : pvEq (.tup (a.map .int)) (.tup (b.map .int)) = decide (a = b) := eqvAll_int a b
@[simp] theorem eq_lst_int (a b : List Int) : pvEq (.lst (a.map .int)) (.lst (b.map .int)) = decide (a = b) := eqvAll_int a b
@[simp] theorem eq_tup_str (a b : List Str) : pvEq (.tup (a.map .str)) (.tup (b.map .str)) = decide (a = b) := eqvAll_str a b
@[simp] theorem eq_lst_str (a b : List Str) : pvEq (.lst (a.map .str)) (.lst (b.map .str)) = decide (a = b) := eqvAll_str a b
mutual
theorem pvEq_refl : ∀ x : PV, x.plain = true → pvEq x x = true
  | .non, _ => rfl
  | .bl b, _ => by simp
  | .int i, _ => by simp
  | .str s, _ => by simp
  | .tup xs, h => eqvAll_refl xs h
  | .ktup xs, h => eqvAll_refl xs h
  | .lst xs, h => eqvAll_refl xs h
  | .dic _ _, h => by cases h
  | .ins _ _ _, h => by cases h
theorem eqvAll_refl : ∀ xs : List PV, PV.plains xs = true → PyData.eqvAll (PV.toDs xs) (PV.toDs xs) = true
  | [], _ => rfl
  | x :: xs, h => by
    have h := Bool.and_eq_true_iff.mp (show (x.plain && PV.plains xs) = true from h)
    show (pvEq x x && PyData.eqvAll (PV.toDs xs) (PV.toDs xs)) = true
    rw [pvEq_refl x h.1, eqvAll_refl xs h.2]
    rfl
end
theorem in_any (x : PV) (l : List Int) (i : Int) (hx : x = .int i) : ((l.map PV.int).any fun z => pvEq z x) = decide (i ∈ l) := by
  subst hx
  induction l with
  | nil => rfl
  | cons a l ih =>
    rw [List.map_cons, List.any_cons, ih, eq_int]
    by_cases h1 : a = i
    · simp [h1]
    · have : ¬ i = a := fun z => h1 z.symm
      simp [h1, this]
theorem in_anyS (l : List Str) (i : Str) : ((l.map PV.str).any fun z => pvEq z (.str i)) = decide (i ∈ l) := by
  induction l with
  | nil => rfl
  | cons a l ih =>
    rw [List.map_cons, List.any_cons, ih, eq_str]
    by_cases h1 : a = i
    · simp [h1]
    · have : ¬ i = a := fun z => h1 z.symm
      simp [h1, this]
@[simp] theorem qIn_ints (l : List Int) (i : Int) : qIn (.int i) (.tup (l.map .int)) = some (.bl (decide (i ∈ l))) := by
  show (if _ then some (PV.bl ((l.map PV.int).any fun z => pvEq z (.int i))) else none) = _
  rw [in_any _ l i rfl, if_pos (by simp)]
@[simp] theorem qIn_intsL (l : List Int) (i : Int) : qIn (.int i) (.lst (l.map .int)) = some (.bl (decide (i ∈ l))) := by
  show (if _ then some (PV.bl ((l.map PV.int).any fun z => pvEq z (.int i))) else none) = _
  rw [in_any _ l i rfl, if_pos (by simp)]
@[simp] theorem qNotIn_ints (l : List Int) (i : Int) : qNotIn (.int i) (.tup (l.map .int)) = some (.bl (!decide (i ∈ l))) := by
  show (if _ then some (PV.bl (!((l.map PV.int).any fun z => pvEq z (.int i)))) else none) = _
  rw [in_any _ l i rfl, if_pos (by simp)]
@[simp] theorem qNotIn_intsL (l : List Int) (i : Int) : qNotIn (.int i) (.lst (l.map .int)) = some (.bl (!decide (i ∈ l))) := by
  show (if _ then some (PV.bl (!((l.map PV.int).any fun z => pvEq z (.int i)))) else none) = _
  rw [in_any _ l i rfl, if_pos (by simp)]
@[simp] theorem qIn_strs (l : List Str) (i : Str) : qIn (.str i) (.tup (l.map .str)) = some (.bl (decide (i ∈ l))) := by
  show (if _ then some (PV.bl ((l.map PV.str).any fun z => pvEq z (.str i))) else none) = _
  rw [in_anyS, if_pos (by simp)]
/-- in a tuple of texts that is written -/
theorem qIn_lits (i : Str) (l : List Str) (xs : List PV) (h : xs = l.map .str) : qIn (.str i) (.tup xs) = some (.bl (decide (i ∈ l))) := by subst h; exact qIn_strs l i
@[simp] theorem qIn_two (i a b : Str) : qIn (.str i) (.tup [.str a, .str b]) = some (.bl (decide (i = a ∨ i = b))) := by
  exact (qIn_lits i [a, b] _ rfl).trans (by simp)
/-- the place of a text -/
theorem idxP_str (s : Str) : ∀ (ns : List Str) (k : Nat), s ∈ ns → idxP (.str s) (ns.map .str) k = some (k + ns.idxOf s)
  | [], k, h => (List.not_mem_nil h).elim
  | x :: ns, k, h => by
    rw [List.map_cons]
    unfold idxP
    rw [eq_str]
    by_cases e : x = s
    · subst e; simp
    · have hm : s ∈ ns := by
        rcases List.mem_cons.mp h with z | z
        · exact absurd z.symm e
        · exact z
      have e2 : ¬ s = x := fun z => e z.symm
      rw [if_neg (by simpa using e), idxP_str s ns (k + 1) hm, List.idxOf_cons]
      have e3 : (x == s) = false := by simpa using e
      rw [e3]
      simp only [cond_false]
      rw [Nat.add_right_comm, Nat.add_assoc]
theorem qIndex_str (s : Str) (ns : List Str) (h : s ∈ ns) : qIndex (.tup (ns.map .str)) (.str s) = some (.int ((ns.idxOf s : Nat) : Int)) := by
  show (if _ then (idxP (.str s) (ns.map .str) 0).map fun n => PV.int (n : Nat) else none) = _
  rw [if_pos (by simp), idxP_str s ns 0 h, Nat.zero_add]
  rfl
/-! ### all, any -/
theorem bls_map (bs : List Bool) : bls (bs.map .bl) = some bs := by
  induction bs with
  | nil => rfl
  | cons b bs ih =>
    show (bls (bs.map .bl)).map (b :: ·) = _
    rw [ih]; rfl
@[simp] theorem qAll_bls {α : Type} (f : α → Bool) (l : List α) : qAll [.lst (l.map fun x => .bl (f x))] = some (.bl (l.all f)) := by
  have e : (l.map fun x => PV.bl (f x)) = (l.map f).map .bl := by rw [List.map_map]; rfl
  rw [e]
  show (bls ((l.map f).map .bl)).map (fun bs => PV.bl (bs.all id)) = _
  rw [bls_map]
  simp [List.all_map]
@[simp] theorem qAny_bls {α : Type} (f : α → Bool) (l : List α) : qAny [.lst (l.map fun x => .bl (f x))] = some (.bl (l.any f)) := by
  have e : (l.map fun x => PV.bl (f x)) = (l.map f).map .bl := by rw [List.map_map]; rfl
  rw [e]
  show (bls ((l.map f).map .bl)).map (fun bs => PV.bl (bs.any id)) = _
  rw [bls_map]
  simp [List.any_map]
@[simp] theorem qAll_nil : qAll [.lst []] = some (.bl true) := rfl
@[simp] theorem qAll_one (a : Bool) : qAll [.lst [.bl a]] = some (.bl a) := by cases a <;> rfl
@[simp] theorem qAll_two (a b : Bool) : qAll [.lst [.bl a, .bl b]] = some (.bl (a && b)) := by cases a <;> cases b <;> rfl
/-! ### pairs of a dict -/
theorem zip_parts : ∀ kps : KP, (kps.map (·.1)).zip (kps.map (·.2)) = kps
  | [] => rfl
  | (k, v) :: r => by rw [List.map_cons, List.map_cons, List.zip_cons_cons, zip_parts r]
theorem putP_new {kps : KP} {k : Key} {v : PV} (h : k ∉ kps.map (·.1)) : putP kps k v = kps ++ [(k, v)] := by
  unfold putP
  rw [if_neg]
  rw [List.any_eq_true]
  rintro ⟨x, hx, he⟩
  exact h (List.mem_map.mpr ⟨x, hx, of_decide_eq_true he⟩)
theorem putP_keys {kps : KP} {k : Key} {v : PV} (h : k ∈ kps.map (·.1)) : (putP kps k v).map (·.1) = kps.map (·.1) := by
  unfold putP
  obtain ⟨x, hx, rfl⟩ := List.mem_map.mp h
  rw [if_pos (List.any_eq_true.mpr ⟨x, hx, by simp⟩), List.map_map]
  refine List.map_congr_left fun y _ => ?_
  simp only [Function.comp]
  split <;> rfl
theorem putP_mem {kps : KP} {k j : Key} {v : PV} (h : j ∈ (putP kps k v).map (·.1)) : j = k ∨ j ∈ kps.map (·.1) := by
  by_cases hk : k ∈ kps.map (·.1)
  · rw [putP_keys hk] at h; exact .inr h
  · rw [putP_new hk, List.map_append] at h
    rcases List.mem_append.mp h with h | h
    · exact .inr h
    · simp at h; exact .inl h
theorem putP_nodup {kps : KP} {k : Key} {v : PV} (h : (kps.map (·.1)).Nodup) : ((putP kps k v).map (·.1)).Nodup := by
  by_cases hk : k ∈ kps.map (·.1)
  · rw [putP_keys hk]; exact h
  · rw [putP_new hk, List.map_append, List.nodup_append]
    refine ⟨h, by simp, fun a ha b hb => ?_⟩
    simp at hb
    subst hb
    exact fun z => hk (z ▸ ha)
/-- distinct keys stand as they are put -/
theorem putsP_new : ∀ (kvs acc : KP), ((acc ++ kvs).map (·.1)).Nodup → putsP acc kvs = acc ++ kvs
  | [], acc, _ => by rw [List.append_nil]; rfl
  | (k, v) :: r, acc, h => by
    have hk : k ∉ acc.map (·.1) := by
      rw [List.map_append, List.nodup_append] at h
      exact fun z => h.2.2 k z k (by simp) rfl
    have e : putsP acc ((k, v) :: r) = putsP (putP acc k v) r := rfl
    rw [e, putP_new hk, putsP_new r (acc ++ [(k, v)]) (by rw [List.append_assoc]; exact h), List.append_assoc]
    rfl
theorem nodup_bound {α : Type} [DecidableEq α] : ∀ (ks ns : List α), ks.Nodup → (∀ k ∈ ks, k ∈ ns) → ks.length ≤ ns.length
  | [], ns, _, _ => Nat.zero_le _
  | k :: ks, ns, h, hm => by
    rw [List.nodup_cons] at h
    have hk := hm k List.mem_cons_self
    have ih := nodup_bound ks (ns.erase k) h.2 fun j hj => (List.mem_erase_of_ne (fun z => by subst z; exact h.1 hj)).mpr (hm j (List.mem_cons_of_mem _ hj))
    rw [List.length_erase_of_mem hk] at ih
    have : 0 < ns.length := List.length_pos_of_mem hk
    rw [List.length_cons]
    omega
theorem strsK_map (ss : List Str) : strsK (ss.map .inr) = some ss := by
  induction ss with
  | nil => rfl
  | cons s ss ih =>
    show (strsK (ss.map .inr)).map (s :: ·) = _
    rw [ih]; rfl
theorem intsK_map (ss : List Int) : intsK (ss.map .inl) = some ss := by
  induction ss with
  | nil => rfl
  | cons s ss ih =>
    show (intsK (ss.map .inl)).map (s :: ·) = _
    rw [ih]; rfl
theorem sortK_strs (ss : List Str) (h : ss.length < 64) : sortK (ss.map .inr) = some ((sortS ss).map .str) := by
  unfold sortK
  rw [if_pos (by rw [List.length_map]; exact h), strsK_map]
  cases ss with
  | nil => rfl
  | cons s ss => rfl
theorem sortK_ints (ss : List Int) (h : ss.length < 64) : sortK (ss.map .inl) = some ((sortI ss).map .int) := by
  unfold sortK
  rw [if_pos (by rw [List.length_map]; exact h), intsK_map]
theorem sortS_mem {s : Str} {ss : List Str} : s ∈ sortS ss ↔ s ∈ ss := (sortBy_perm ltS ss).mem_iff
theorem sortS_length (ss : List Str) : (sortS ss).length = ss.length := (sortBy_perm ltS ss).length_eq
theorem sortS_nodup {ss : List Str} (h : ss.Nodup) : (sortS ss).Nodup := (sortBy_perm ltS ss).nodup_iff.mpr h
theorem sortI_self {ns : List Int} (h : ns.Pairwise (· ≤ ·)) : sortI ns = ns := (sortI_eq (List.Perm.refl _) h).symm

theorem lc_map {α : Type} {gx : PV → Cells → Option Cells} {dc de : Den PV} {own : List Nat} (g : α → PV) (p : α → Bool) (f : α → PV) (e : Cells) : ∀ (xs : List α) (acc : List PV), (∀ x ∈ xs, lcTurn gx dc de own (g x) e = some (if p x = true then some (f x) else none, e)) → lcLoop gx dc de own (xs.map g) acc e = some (.ok (acc ++ (xs.filter p).map f) e)
  | [], acc, _ => by rw [List.map_nil, lc_nil, List.filter_nil, List.map_nil, List.append_nil]
  | x :: xs, acc, h => by
    rw [List.map_cons, lc_cons, h x List.mem_cons_self]
    have ih := fun acc => lc_map g p f e xs acc fun y hy => h y (List.mem_cons_of_mem _ hy)
    by_cases c : p x = true
    · rw [if_pos c]
      simp only
      rw [ih, List.filter_cons_of_pos c, List.map_cons, List.append_assoc]
      rfl
    · rw [if_neg c]
      simp only
      rw [ih, List.filter_cons_of_neg c]
theorem lc_mapT {α : Type} {gx : PV → Cells → Option Cells} {dc de : Den PV} {own : List Nat} (g : α → PV) (f : α → PV) (e : Cells) (xs : List α) (acc : List PV) (h : ∀ x ∈ xs, lcTurn gx dc de own (g x) e = some (some (f x), e)) : lcLoop gx dc de own (xs.map g) acc e = some (.ok (acc ++ xs.map f) e) := by
  have q := lc_map g (fun _ => true) f e xs acc (gx := gx) (dc := dc) (de := de) (own := own) fun x hx => by rw [h x hx]; rfl
  rw [q, List.filter_eq_self.mpr (fun _ _ => rfl)]
/-- 0 .. m - 1 -/
def rgI (m : Nat) : List Int := (List.range m).map fun i : Nat => Int.ofNat i
theorem rgP_eq (m : Nat) : rgP (m : Int) = (rgI m).map .int := by
  unfold rgP rgI
  rw [Int.toNat_natCast, List.map_map]
  rfl
theorem mem_rgI {m : Nat} {a : Int} : a ∈ rgI m ↔ 0 ≤ a ∧ a < m := by
  unfold rgI
  rw [List.mem_map]
  constructor
  · rintro ⟨i, hi, rfl⟩
    have := List.mem_range.mp hi
    exact ⟨Int.natCast_nonneg i, Int.ofNat_lt.mpr this⟩
  · rintro ⟨h1, h2⟩
    exact ⟨a.toNat, List.mem_range.mpr (by omega), Int.toNat_of_nonneg h1⟩
theorem rgI_length (m : Nat) : (rgI m).length = m := by unfold rgI; rw [List.length_map, List.length_range]
theorem rgI_sorted (m : Nat) : (rgI m).Pairwise (· < ·) := by
  unfold rgI
  rw [List.pairwise_map]
  exact List.pairwise_lt_range.imp fun {a b} h => Int.ofNat_lt.mpr h
theorem nodup_of_lt {l : List Int} (h : l.Pairwise (· < ·)) : l.Nodup := h.imp fun h e => by omega
/-! ### equal data, kind by kind -/
@[simp] theorem ne_non_bl  (b : Bool) : pvEq PV.non (PV.bl b) = false := rfl
@[simp] theorem ne_non_int  (i : Int) : pvEq PV.non (PV.int i) = false := rfl
@[simp] theorem ne_non_str  (s : Str) : pvEq PV.non (PV.str s) = false := rfl
@[simp] theorem ne_non_tup  (xs : List PV) : pvEq PV.non (PV.tup xs) = false := rfl
@[simp] theorem ne_non_lst  (ys : List PV) : pvEq PV.non (PV.lst ys) = false := rfl
@[simp] theorem ne_bl_non (b : Bool)  : pvEq (PV.bl b) PV.non = false := rfl
@[simp] theorem ne_bl_str (b : Bool) (s : Str) : pvEq (PV.bl b) (PV.str s) = false := rfl
@[simp] theorem ne_bl_tup (b : Bool) (xs : List PV) : pvEq (PV.bl b) (PV.tup xs) = false := rfl
@[simp] theorem ne_bl_lst (b : Bool) (ys : List PV) : pvEq (PV.bl b) (PV.lst ys) = false := rfl
@[simp] theorem ne_int_non (i : Int)  : pvEq (PV.int i) PV.non = false := rfl
@[simp] theorem ne_int_str (i : Int) (s : Str) : pvEq (PV.int i) (PV.str s) = false := rfl
@[simp] theorem ne_int_tup (i : Int) (xs : List PV) : pvEq (PV.int i) (PV.tup xs) = false := rfl
@[simp] theorem ne_int_lst (i : Int) (ys : List PV) : pvEq (PV.int i) (PV.lst ys) = false := rfl
@[simp] theorem ne_str_non (s : Str)  : pvEq (PV.str s) PV.non = false := rfl
@[simp] theorem ne_str_bl (s : Str) (b : Bool) : pvEq (PV.str s) (PV.bl b) = false := rfl
@[simp] theorem ne_str_int (s : Str) (i : Int) : pvEq (PV.str s) (PV.int i) = false := rfl
@[simp] theorem ne_str_tup (s : Str) (xs : List PV) : pvEq (PV.str s) (PV.tup xs) = false := rfl
@[simp] theorem ne_str_lst (s : Str) (ys : List PV) : pvEq (PV.str s) (PV.lst ys) = false := rfl
@[simp] theorem ne_tup_non (xs : List PV)  : pvEq (PV.tup xs) PV.non = false := rfl
@[simp] theorem ne_tup_bl (xs : List PV) (b : Bool) : pvEq (PV.tup xs) (PV.bl b) = false := rfl
@[simp] theorem ne_tup_int (xs : List PV) (i : Int) : pvEq (PV.tup xs) (PV.int i) = false := rfl
@[simp] theorem ne_tup_str (xs : List PV) (s : Str) : pvEq (PV.tup xs) (PV.str s) = false := rfl
@[simp] theorem ne_tup_lst (xs : List PV) (ys : List PV) : pvEq (PV.tup xs) (PV.lst ys) = false := rfl
@[simp] theorem ne_lst_non (ys : List PV)  : pvEq (PV.lst ys) PV.non = false := rfl
@[simp] theorem ne_lst_bl (ys : List PV) (b : Bool) : pvEq (PV.lst ys) (PV.bl b) = false := rfl
@[simp] theorem ne_lst_int (ys : List PV) (i : Int) : pvEq (PV.lst ys) (PV.int i) = false := rfl
@[simp] theorem ne_lst_str (ys : List PV) (s : Str) : pvEq (PV.lst ys) (PV.str s) = false := rfl
@[simp] theorem ne_lst_tup (ys : List PV) (xs : List PV) : pvEq (PV.lst ys) (PV.tup xs) = false := rfl
@[simp] theorem eq_non_non : pvEq .non .non = true := rfl
@[simp] theorem eq_tup_nil : pvEq (.tup []) (.tup []) = true := rfl
@[simp] theorem eq_tup_cons (x y : PV) (xs ys : List PV) : pvEq (.tup (x :: xs)) (.tup (y :: ys)) = (pvEq x y && pvEq (.tup xs) (.tup ys)) := rfl
@[simp] theorem eq_tup_nc (y : PV) (ys : List PV) : pvEq (.tup []) (.tup (y :: ys)) = false := rfl
@[simp] theorem eq_tup_cn (x : PV) (xs : List PV) : pvEq (.tup (x :: xs)) (.tup []) = false := rfl
@[simp] theorem eq_lst_nil : pvEq (.lst []) (.lst []) = true := rfl
@[simp] theorem eq_lst_cons (x y : PV) (xs ys : List PV) : pvEq (.lst (x :: xs)) (.lst (y :: ys)) = (pvEq x y && pvEq (.lst xs) (.lst ys)) := rfl
@[simp] theorem eq_lst_nc (y : PV) (ys : List PV) : pvEq (.lst []) (.lst (y :: ys)) = false := rfl
@[simp] theorem eq_lst_cn (x : PV) (xs : List PV) : pvEq (.lst (x :: xs)) (.lst []) = false := rfl
theorem qShl_one {k : Nat} (h : k ≤ 1000) : qShl (.int 1) (.int (k : Int)) = some (.int (2 ^ k)) := by
  show (if 0 ≤ (k : Int) ∧ (k : Int) ≤ 1000000 ∧ (1 : Int).natAbs < 2 ^ 64 then some ((1 : Int) * 2 ^ ((k : Int)).toNat) else none).map PV.int = _
  rw [if_pos ⟨by omega, by omega, by decide⟩, Int.toNat_natCast, Int.one_mul]
  rfl
/-! ### a def's end -/
theorem fn_rt {m : Nat} {d : SDen} {args : List PV} {v : PV} {c e' : Cells} (hc : args.map .v ++ List.replicate (m - args.length) .un = c) (h : d c = some (.rt v e')) : fnDen m d args = some (.ok v) := by
  unfold fnDen
  rw [hc, h]
theorem fn_nx {m : Nat} {d : SDen} {args : List PV} {c e' : Cells} (hc : args.map .v ++ List.replicate (m - args.length) .un = c) (h : d c = some (.nx e')) : fnDen m d args = some (.ok .non) := by
  unfold fnDen
  rw [hc, h]
theorem fn_ex {m : Nat} {d : SDen} {args : List PV} {x : Exn} {c e' : Cells} (hc : args.map .v ++ List.replicate (m - args.length) .un = c) (h : d c = some (.ex x e')) : fnDen m d args = some (.error x) := by
  unfold fnDen
  rw [hc, h]
end Pu
set_option Elab.async false
set_option linter.all false
set_option maxRecDepth 100000
set_option maxHeartbeats 4000000
/-! Pm, part D: the newer dens worked out; finite checks. -/
namespace Pu
open PySem L2
@[simp] theorem setT_at (gx : PV → Cells → Option Cells) (de : Den PV) (e : Cells) : sSetT gx de e = (sOf de fun x e => match gx x e with
  | some e' => some (.nx e')
  | none => none) e := rfl
@[simp] theorem tryOnly_at (cn : Str) (db ds : SDen) (e : Cells) : sTryOnly cn db ds e = match db e with
  | some (.ex c e) => if c.c = cn ∧ c.ns = [] ∧ c.vs = [] then ds e else none
  | o => o := rfl
theorem dFld_eq (cs : List Str) (f : Str) (da : Den PV) (e : Cells) : dFld cs f da e = (da.bind fun x => Den.lift (match x with
  | .ins c ns vs => if c ∈ cs then fldOf f ns vs else none
  | _ => none)) e := rfl
/-- what holds by computing at each of a list holds at each of its members -/
theorem at_each {α β : Type} {f g : α → β} {l : List α} (h : l.map f = l.map g) : ∀ a ∈ l, f a = g a := fun a ha => by
  induction l with
  | nil => exact (List.not_mem_nil ha).elim
  | cons x l ih =>
    rw [List.map_cons, List.map_cons] at h
    rcases List.mem_cons.mp ha with rfl | ha
    · exact (List.cons.inj h).1
    · exact ih (List.cons.inj h).2 ha
end Pu
set_option Elab.async false
set_option linter.all false
set_option maxRecDepth 100000
set_option maxHeartbeats 4000000
/-! Pr, part A: tests and programs over two names and two steps, as data. -/
namespace Pu
open PySem L2
/-! ### lists of things, each once -/
section
variable {α : Type} [DecidableEq α]
def add1 (F : List α) (x : α) : List α := if x ∈ F then F else F ++ [x]
def adds (F xs : List α) : List α := xs.foldl add1 F
theorem adds_nil (F : List α) : adds F [] = F := rfl
theorem adds_cons (F : List α) (x : α) (xs : List α) : adds F (x :: xs) = adds (add1 F x) xs := rfl
theorem adds_append (F xs ys : List α) : adds F (xs ++ ys) = adds (adds F xs) ys := by unfold adds; rw [List.foldl_append]
theorem mem_add1 {F : List α} {x y : α} : y ∈ add1 F x ↔ y ∈ F ∨ y = x := by
  unfold add1
  split
  · rename_i h; exact ⟨.inl, fun z => z.elim id fun e => by rw [e]; exact h⟩
  · rw [List.mem_append, List.mem_singleton]
theorem mem_adds {y : α} : ∀ {xs F : List α}, y ∈ adds F xs ↔ y ∈ F ∨ y ∈ xs
  | [], F => by rw [adds_nil]; simp
  | x :: xs, F => by rw [adds_cons, mem_adds, mem_add1, List.mem_cons, or_assoc]
theorem nodup_add1 {F : List α} {x : α} (h : F.Nodup) : (add1 F x).Nodup := by
  unfold add1
  split
  · exact h
  · rename_i hx
    rw [List.nodup_append]
    exact ⟨h, by simp, fun a ha b hb => by rw [List.mem_singleton] at hb; subst hb; exact fun e => hx (e ▸ ha)⟩
theorem nodup_adds : ∀ {xs F : List α}, F.Nodup → (adds F xs).Nodup
  | [], _, h => h
  | x :: xs, F, h => by rw [adds_cons]; exact nodup_adds (nodup_add1 h)
theorem adds_in : ∀ {xs F : List α}, (∀ x ∈ xs, x ∈ F) → adds F xs = F
  | [], _, _ => rfl
  | x :: xs, F, h => by
    have e : add1 F x = F := if_pos (h x List.mem_cons_self)
    rw [adds_cons, e]
    exact adds_in fun y hy => h y (List.mem_cons_of_mem _ hy)
theorem adds_len : ∀ {xs F : List α}, (adds F xs).length ≤ F.length + xs.length
  | [], _ => Nat.le_refl _
  | x :: xs, F => by
    rw [adds_cons, List.length_cons]
    have h := adds_len (xs := xs) (F := add1 F x)
    have : (add1 F x).length ≤ F.length + 1 := by
      unfold add1; split
      · omega
      · rw [List.length_append]; exact Nat.le_refl _
    omega
/-- a dict whose keys tell the things apart -/
theorem put_add1 {key : α → Key} {val : α → PV} (inj : ∀ x y, key x = key y → x = y) (F : List α) (x : α) : putP (F.map fun y => (key y, val y)) (key x) (val x) = (add1 F x).map fun y => (key y, val y) := by
  by_cases h : x ∈ F
  · have e : add1 F x = F := if_pos h
    rw [e]
    unfold putP
    rw [if_pos, List.map_map]
    · refine List.map_congr_left fun y _ => ?_
      simp only [Function.comp]
      split
      · rename_i hk; rw [inj _ _ hk]
      · rfl
    · rw [List.any_eq_true]
      exact ⟨_, List.mem_map.mpr ⟨x, h, rfl⟩, by simp⟩
  · have e : add1 F x = F ++ [x] := if_neg h
    rw [e, putP_new, List.map_append]
    · rfl
    · rw [List.map_map]
      intro hm
      obtain ⟨y, hy, hk⟩ := List.mem_map.mp hm
      exact h (inj _ _ hk ▸ hy)
theorem puts_adds {key : α → Key} {val : α → PV} (inj : ∀ x y, key x = key y → x = y) : ∀ (xs F : List α), putsP (F.map fun y => (key y, val y)) (xs.map fun y => (key y, val y)) = (adds F xs).map fun y => (key y, val y)
  | [], _ => rfl
  | x :: xs, F => by
    have e : putsP (F.map fun y => (key y, val y)) ((x :: xs).map fun y => (key y, val y)) = putsP (putP (F.map fun y => (key y, val y)) (key x) (val x)) (xs.map fun y => (key y, val y)) := rfl
    rw [e, put_add1 inj, puts_adds inj xs, adds_cons]
theorem merge_adds {key : α → Key} {val : α → PV} (inj : ∀ x y, key x = key y → x = y) (xs F : List α) : mergeP (F.map fun y => (key y, val y)) (xs.map fun y => (key y, val y)) = (adds F xs).map fun y => (key y, val y) := puts_adds inj xs F
theorem get_adds {key : α → Key} {val : α → PV} (inj : ∀ x y, key x = key y → x = y) (F : List α) (x : α) : (getP (F.map fun y => (key y, val y)) (key x)).isSome = decide (x ∈ F) := by
  induction F with
  | nil => rfl
  | cons y F ih =>
    unfold getP at ih ⊢
    rw [List.map_cons, List.find?_cons]
    by_cases h : key y = key x
    · have h' := inj _ _ h
      subst h'
      simp
    · have h' : ¬ x = y := fun e => h (by rw [e])
      simp only [h, decide_false]
      rw [ih]
      simp [h']
end
/-! ### two names -/
def pick (f t : Bool) : List Bool := (if f then [false] else []) ++ (if t then [true] else [])
theorem mem_pick {f t b : Bool} : b ∈ pick f t ↔ (if b then t else f) = true := by cases f <;> cases t <;> cases b <;> decide
theorem five {l : List Bool} (h : l.Nodup) : l = [] ∨ l = [false] ∨ l = [true] ∨ l = [false, true] ∨ l = [true, false] := by
  rcases l with _ | ⟨a, _ | ⟨b, _ | ⟨c, l⟩⟩⟩
  · simp
  · cases a <;> simp
  · cases a <;> cases b <;> simp at h ⊢
  · cases a <;> cases b <;> cases c <;> simp at h
def nm : Bool → Str
  | false => "b"
  | true => "c"
def sn : Bool → Str
  | false => "p"
  | true => "q"
theorem nm_inj : ∀ a b, nm a = nm b → a = b := by decide +kernel
theorem sn_inj : ∀ a b, sn a = sn b → a = b := by decide +kernel
abbrev NV (l : List Bool) : List PV := l.map fun b => .str (nm b)
abbrev SV (l : List Bool) : List PV := l.map fun b => .str (sn b)
theorem sort_nm {l : List Bool} (h : l.Nodup) : sortS (l.map nm) = (pick (decide (false ∈ l)) (decide (true ∈ l))).map nm := by
  rcases five h with rfl | rfl | rfl | rfl | rfl <;> decide +kernel
theorem sort_sn {l : List Bool} (h : l.Nodup) : sortS (l.map sn) = (pick (decide (false ∈ l)) (decide (true ∈ l))).map sn := by
  rcases five h with rfl | rfl | rfl | rfl | rfl <;> decide +kernel
theorem ded_map {g : Bool → Str} (inj : ∀ a b, g a = g b → a = b) : ∀ l : List Bool, ∃ l' : List Bool, dedS (l.map g) = l'.map g ∧ l'.Nodup ∧ ∀ b, b ∈ l' ↔ b ∈ l
  | [] => ⟨[], rfl, List.nodup_nil, fun _ => Iff.rfl⟩
  | a :: l => by
    obtain ⟨l', e, n, m⟩ := ded_map inj l
    have hm : g a ∈ l.map g ↔ a ∈ l := by
      rw [List.mem_map]
      exact ⟨fun ⟨b, hb, e⟩ => inj _ _ e ▸ hb, fun h => ⟨a, h, rfl⟩⟩
    rw [List.map_cons]
    unfold dedS
    by_cases h : a ∈ l
    · rw [if_pos (hm.mpr h)]
      exact ⟨l', e, n, fun b => by rw [m, List.mem_cons]; exact ⟨.inr, fun z => z.elim (fun e => by rw [e]; exact h) id⟩⟩
    · rw [if_neg fun z => h (hm.mp z)]
      exact ⟨a :: l', by rw [e]; rfl, List.nodup_cons.mpr ⟨fun z => h ((m a).mp z), n⟩, fun b => by rw [List.mem_cons, List.mem_cons, m]⟩
theorem short2 {l : List Bool} (h : l.Nodup) : l.length ≤ 2 := by rcases five h with rfl | rfl | rfl | rfl | rfl <;> decide
theorem sortset_nm (l : List Bool) (h : l.length ≤ 1000) : qSortSet (.lst (NV l)) = some (NV (pick (decide (false ∈ l)) (decide (true ∈ l)))) := by
  obtain ⟨l', e, n, m⟩ := ded_map nm_inj l
  have e0 : NV l = (l.map nm).map .str := by rw [List.map_map]; rfl
  have e1 : strsP (NV l) = some (l.map nm) := by
    rw [e0]; clear e e0 h
    induction l.map nm with
    | nil => rfl
    | cons s r ih => show (strsP (r.map .str)).map (s :: ·) = _; rw [ih]; rfl
  show (match strsP (NV l) with | some ss => if ss.length ≤ 1000 ∧ (dedS ss).length < 64 then some ((sortS (dedS ss)).map PV.str) else none | none => none) = _
  have := short2 n
  rw [e1]
  simp only
  rw [if_pos ⟨by rw [List.length_map]; exact h, by rw [e, List.length_map]; omega⟩, e, sort_nm n]
  simp only [m]
  rw [List.map_map]
  rfl
theorem sortset_sn (l : List Bool) (h : l.length ≤ 1000) : qSortSet (.lst (SV l)) = some (SV (pick (decide (false ∈ l)) (decide (true ∈ l)))) := by
  obtain ⟨l', e, n, m⟩ := ded_map sn_inj l
  have e0 : SV l = (l.map sn).map .str := by rw [List.map_map]; rfl
  have e1 : strsP (SV l) = some (l.map sn) := by
    rw [e0]; clear e e0 h
    induction l.map sn with
    | nil => rfl
    | cons s r ih => show (strsP (r.map .str)).map (s :: ·) = _; rw [ih]; rfl
  show (match strsP (SV l) with | some ss => if ss.length ≤ 1000 ∧ (dedS ss).length < 64 then some ((sortS (dedS ss)).map PV.str) else none | none => none) = _
  have := short2 n
  rw [e1]
  simp only
  rw [if_pos ⟨by rw [List.length_map]; exact h, by rw [e, List.length_map]; omega⟩, e, sort_sn n]
  simp only [m]
  rw [List.map_map]
  rfl
/-- a dict of names, all of them True -/
abbrev KN (g : Bool → Str) (l : List Bool) : KP := l.map fun b => ((.inr (g b) : Key), PV.bl true)
theorem kn_inj {g : Bool → Str} (inj : ∀ a b, g a = g b → a = b) : ∀ a b : Bool, (Sum.inr (g a) : Key) = Sum.inr (g b) → a = b := fun a b h => inj a b (Sum.inr.inj h)
theorem sorted_kn {g : Bool → Str} (h : ∀ l : List Bool, l.Nodup → sortS (l.map g) = (pick (decide (false ∈ l)) (decide (true ∈ l))).map g) {l : List Bool} (n : l.Nodup) : qSorted [.dicOf (KN g l)] = some ((pick (decide (false ∈ l)) (decide (true ∈ l))).map fun b => .str (g b)) := by
  show sortK ((KN g l).map (·.1)) = _
  have e : (KN g l).map (·.1) = (l.map g).map .inr := by rw [List.map_map, List.map_map]; rfl
  have := short2 n
  rw [e, sortK_strs _ (by rw [List.length_map]; omega), h l n, List.map_map]
  rfl
end Pu
set_option Elab.async false
set_option linter.all false
set_option maxRecDepth 100000
set_option maxHeartbeats 4000000
/-! Pr, part B: tests and programs. -/
namespace Pu
open PySem L2
inductive Tst where
  | yes | no | is (s : Bool) | nt (a : Tst) | an (a b : Tst) | oor (a b : Tst)
deriving DecidableEq
inductive Prg where
  | st (s : Bool) | te (t : Tst) | lp (a : Prg) | th (a b : Prg) | oo (a b : Prg)
deriving DecidableEq
def Tst.pv : Tst → PV
  | .yes => .tup [.str "yes"]
  | .no => .tup [.str "no"]
  | .is s => .tup [.str "is", .str (nm s)]
  | .nt a => .tup [.str "not", a.pv]
  | .an a b => .tup [.str "and", a.pv, b.pv]
  | .oor a b => .tup [.str "or", a.pv, b.pv]
def Prg.pv : Prg → PV
  | .st s => .tup [.str "step", .str (sn s)]
  | .te t => .tup [.str "test", t.pv]
  | .lp a => .tup [.str "loop", a.pv]
  | .th a b => .tup [.str "then", a.pv, b.pv]
  | .oo a b => .tup [.str "or", a.pv, b.pv]
def Tst.dep : Tst → Nat
  | .nt a => a.dep + 1
  | .an a b => max a.dep b.dep + 1
  | .oor a b => max a.dep b.dep + 1
  | .yes => 0
  | .no => 0
  | .is _ => 0
def Prg.dep : Prg → Nat
  | .st _ => 0
  | .te _ => 0
  | .lp a => a.dep + 1
  | .th a b => max a.dep b.dep + 1
  | .oo a b => max a.dep b.dep + 1
/-- tests up to two deep -/
def Prg.low : Prg → Prop
  | .st _ => True
  | .te t => t.dep ≤ 2
  | .lp a => a.low
  | .th a b => a.low ∧ b.low
  | .oo a b => a.low ∧ b.low
def Tst.wt : Tst → Nat
  | .nt a => a.wt + 1
  | .an a b => a.wt + b.wt + 1
  | .oor a b => a.wt + b.wt + 1
  | .yes => 1
  | .no => 1
  | .is _ => 1
def Prg.wt : Prg → Nat
  | .st _ => 1
  | .te t => t.wt + 1
  | .lp a => a.wt + 1
  | .th a b => a.wt + b.wt + 1
  | .oo a b => a.wt + b.wt + 1
theorem Tst.wt_le : ∀ t : Tst, t.wt + 1 ≤ 2 * 2 ^ t.dep
  | .yes => by simp [wt, dep]
  | .no => by simp [wt, dep]
  | .is _ => by simp [wt, dep]
  | .nt a => by
    have h := a.wt_le
    show a.wt + 1 + 1 ≤ 2 * 2 ^ (a.dep + 1)
    have := Nat.two_pow_pos a.dep
    rw [Nat.pow_succ]; omega
  | .an a b => by
    have h := a.wt_le
    have k := b.wt_le
    show a.wt + b.wt + 1 + 1 ≤ 2 * 2 ^ (max a.dep b.dep + 1)
    have h1 := Nat.pow_le_pow_right (n := 2) (by omega) (Nat.le_max_left a.dep b.dep)
    have h2 := Nat.pow_le_pow_right (n := 2) (by omega) (Nat.le_max_right a.dep b.dep)
    rw [Nat.pow_succ]; omega
  | .oor a b => by
    have h := a.wt_le
    have k := b.wt_le
    show a.wt + b.wt + 1 + 1 ≤ 2 * 2 ^ (max a.dep b.dep + 1)
    have h1 := Nat.pow_le_pow_right (n := 2) (by omega) (Nat.le_max_left a.dep b.dep)
    have h2 := Nat.pow_le_pow_right (n := 2) (by omega) (Nat.le_max_right a.dep b.dep)
    rw [Nat.pow_succ]; omega
theorem Prg.wt_le : ∀ p : Prg, p.low → p.wt + 1 ≤ 9 * 2 ^ p.dep
  | .st _, _ => by simp [wt, dep]
  | .te t, h => by
    have k := t.wt_le
    have h' : t.dep ≤ 2 := h
    have h1 := Nat.pow_le_pow_right (n := 2) (by omega) h'
    show t.wt + 1 + 1 ≤ 9 * 2 ^ 0
    omega
  | .lp a, h => by
    have h := a.wt_le h
    show a.wt + 1 + 1 ≤ 9 * 2 ^ (a.dep + 1)
    have := Nat.two_pow_pos a.dep
    rw [Nat.pow_succ]; omega
  | .th a b, h => by
    have h0 := a.wt_le h.1
    have k := b.wt_le h.2
    show a.wt + b.wt + 1 + 1 ≤ 9 * 2 ^ (max a.dep b.dep + 1)
    have h1 := Nat.pow_le_pow_right (n := 2) (by omega) (Nat.le_max_left a.dep b.dep)
    have h2 := Nat.pow_le_pow_right (n := 2) (by omega) (Nat.le_max_right a.dep b.dep)
    rw [Nat.pow_succ]; omega
  | .oo a b, h => by
    have h0 := a.wt_le h.1
    have k := b.wt_le h.2
    show a.wt + b.wt + 1 + 1 ≤ 9 * 2 ^ (max a.dep b.dep + 1)
    have h1 := Nat.pow_le_pow_right (n := 2) (by omega) (Nat.le_max_left a.dep b.dep)
    have h2 := Nat.pow_le_pow_right (n := 2) (by omega) (Nat.le_max_right a.dep b.dep)
    rw [Nat.pow_succ]; omega
/-! ### as data -/
theorem Tst.eqv : ∀ t u : Tst, pvEq t.pv u.pv = decide (t = u) := by
  intro t
  induction t with
  | yes => intro u; cases u <;> simp [pv]
  | no => intro u; cases u <;> simp [pv]
  | is s => intro u; cases u <;> simp [pv] <;> (rename_i r; cases s <;> cases r <;> decide +kernel)
  | nt a ih => intro u; cases u <;> simp [pv, ih]
  | an a b ih ih2 => intro u; cases u <;> simp [pv, ih, ih2]
  | oor a b ih ih2 => intro u; cases u <;> simp [pv, ih, ih2]
theorem Prg.eqv : ∀ t u : Prg, pvEq t.pv u.pv = decide (t = u) := by
  intro t
  induction t with
  | st s => intro u; cases u <;> simp [pv] <;> (rename_i r; cases s <;> cases r <;> decide +kernel)
  | te t => intro u; cases u <;> simp [pv, Tst.eqv]
  | lp a ih => intro u; cases u <;> simp [pv, ih]
  | th a b ih ih2 => intro u; cases u <;> simp [pv, ih, ih2]
  | oo a b ih ih2 => intro u; cases u <;> simp [pv, ih, ih2]
theorem Tst.plain : ∀ t : Tst, t.pv.plain = true
  | .yes => rfl
  | .no => rfl
  | .is s => rfl
  | .nt a => by simp [pv, a.plain]
  | .an a b => by simp [pv, a.plain, b.plain]
  | .oor a b => by simp [pv, a.plain, b.plain]
theorem Prg.plain : ∀ t : Prg, t.pv.plain = true
  | .st s => rfl
  | .te t => by simp [pv, t.plain]
  | .lp a => by simp [pv, a.plain]
  | .th a b => by simp [pv, a.plain, b.plain]
  | .oo a b => by simp [pv, a.plain, b.plain]
theorem Tst.depth : ∀ t : Tst, t.pv.depth = t.dep + 1
  | .yes => rfl
  | .no => rfl
  | .is s => rfl
  | .nt a => by simp [pv, dep, a.depth]
  | .an a b => by simp [pv, dep, a.depth, b.depth]
  | .oor a b => by simp [pv, dep, a.depth, b.depth]
theorem Prg.depth : ∀ t : Prg, t.low → t.pv.depth ≤ t.dep + 4
  | .st s, _ => by simp [pv, dep]
  | .te t, h => by
    have : t.dep ≤ 2 := h
    simp [pv, dep, t.depth]; omega
  | .lp a, h => by
    have := a.depth h
    simp [pv, dep]; omega
  | .th a b, h => by
    have := a.depth h.1
    have := b.depth h.2
    simp [pv, dep]; omega
  | .oo a b, h => by
    have := a.depth h.1
    have := b.depth h.2
    simp [pv, dep]; omega
theorem Tst.tree : ∀ t : Tst, treeP t.pv = true
  | .yes => by decide +kernel
  | .no => by decide +kernel
  | .is s => by cases s <;> decide +kernel
  | .nt a => by show ((treeP (.str "not")) && (treeP a.pv && true)) = true; rw [a.tree]; decide +kernel
  | .an a b => by show ((treeP (.str "and")) && (treeP a.pv && (treeP b.pv && true))) = true; rw [a.tree, b.tree]; decide +kernel
  | .oor a b => by show ((treeP (.str "or")) && (treeP a.pv && (treeP b.pv && true))) = true; rw [a.tree, b.tree]; decide +kernel
theorem Prg.tree : ∀ t : Prg, treeP t.pv = true
  | .st s => by cases s <;> decide +kernel
  | .te a => by show ((treeP (.str "test")) && (treeP a.pv && true)) = true; rw [a.tree]; decide +kernel
  | .lp a => by show ((treeP (.str "loop")) && (treeP a.pv && true)) = true; rw [a.tree]; decide +kernel
  | .th a b => by show ((treeP (.str "then")) && (treeP a.pv && (treeP b.pv && true))) = true; rw [a.tree, b.tree]; decide +kernel
  | .oo a b => by show ((treeP (.str "or")) && (treeP a.pv && (treeP b.pv && true))) = true; rw [a.tree, b.tree]; decide +kernel
/-! ### texts of programs -/
abbrev cpsL (s : Str) : List Nat := s.cps.toList
theorem cps_app (a b : Str) : cpsL (a ++ b) = cpsL a ++ cpsL b := Array.toList_append
def Tst.cs : Tst → List Nat
  | .yes => cpsL "('yes',)"
  | .no => cpsL "('no',)"
  | .is s => cpsL "('is', '" ++ cpsL (nm s) ++ cpsL "')"
  | .nt a => cpsL "('not', " ++ a.cs ++ cpsL ")"
  | .an a b => cpsL "('and', " ++ a.cs ++ cpsL ", " ++ b.cs ++ cpsL ")"
  | .oor a b => cpsL "('or', " ++ a.cs ++ cpsL ", " ++ b.cs ++ cpsL ")"
def Prg.cs : Prg → List Nat
  | .st s => cpsL "('step', '" ++ cpsL (sn s) ++ cpsL "')"
  | .te a => cpsL "('test', " ++ a.cs ++ cpsL ")"
  | .lp a => cpsL "('loop', " ++ a.cs ++ cpsL ")"
  | .th a b => cpsL "('then', " ++ a.cs ++ cpsL ", " ++ b.cs ++ cpsL ")"
  | .oo a b => cpsL "('or', " ++ a.cs ++ cpsL ", " ++ b.cs ++ cpsL ")"
theorem two_cs (w : Str) (x : PyData) : cpsL (PyData.tuple [.str w, x]).shown = cpsL "(" ++ (cpsL (reprText w) ++ cpsL ", " ++ cpsL x.shown) ++ cpsL ")" := by
  show cpsL (("(" : Str) ++ (reprText w ++ ", " ++ x.shown) ++ (")" : Str)) = _
  rw [cps_app, cps_app, cps_app, cps_app]
theorem three_cs (w : Str) (x y : PyData) : cpsL (PyData.tuple [.str w, x, y]).shown = cpsL "(" ++ (cpsL (reprText w) ++ cpsL ", " ++ (cpsL x.shown ++ cpsL ", " ++ cpsL y.shown)) ++ cpsL ")" := by
  show cpsL (("(" : Str) ++ (reprText w ++ ", " ++ (x.shown ++ ", " ++ y.shown)) ++ (")" : Str)) = _
  rw [cps_app, cps_app, cps_app, cps_app, cps_app, cps_app]
theorem head_cs (w h : Str) (e : cpsL "(" ++ (cpsL (reprText w) ++ cpsL ", ") = cpsL h) (r : List Nat) : cpsL "(" ++ (cpsL (reprText w) ++ cpsL ", " ++ r) = cpsL h ++ r := by
  rw [← e]; simp only [List.append_assoc]
theorem Tst.shown : ∀ t : Tst, cpsL t.pv.toD.shown = t.cs
  | .yes => by decide +kernel
  | .no => by decide +kernel
  | .is s => by cases s <;> decide +kernel
  | .nt a => (two_cs "not" a.pv.toD).trans (by rw [head_cs "not" "('not', " (by decide +kernel), a.shown]; rfl)
  | .an a b => (three_cs "and" a.pv.toD b.pv.toD).trans (by rw [head_cs "and" "('and', " (by decide +kernel), a.shown, b.shown]; simp only [cs, List.append_assoc])
  | .oor a b => (three_cs "or" a.pv.toD b.pv.toD).trans (by rw [head_cs "or" "('or', " (by decide +kernel), a.shown, b.shown]; simp only [cs, List.append_assoc])
theorem Prg.shown : ∀ t : Prg, cpsL t.pv.toD.shown = t.cs
  | .st s => by cases s <;> decide +kernel
  | .te a => (two_cs "test" a.pv.toD).trans (by rw [head_cs "test" "('test', " (by decide +kernel), a.shown]; rfl)
  | .lp a => (two_cs "loop" a.pv.toD).trans (by rw [head_cs "loop" "('loop', " (by decide +kernel), a.shown]; rfl)
  | .th a b => (three_cs "then" a.pv.toD b.pv.toD).trans (by rw [head_cs "then" "('then', " (by decide +kernel), a.shown, b.shown]; simp only [cs, List.append_assoc])
  | .oo a b => (three_cs "or" a.pv.toD b.pv.toD).trans (by rw [head_cs "or" "('or', " (by decide +kernel), a.shown, b.shown]; simp only [cs, List.append_assoc])
end Pu
set_option Elab.async false
set_option linter.all false
set_option maxRecDepth 100000
set_option maxHeartbeats 4000000
/-! Pr, part C: programs are told apart by their texts; programs can be sorted. -/
namespace Pu
open PySem L2
theorem l_yes : cpsL "('yes',)" = [40, 39, 121, 101, 115, 39, 44, 41] := by decide +kernel
theorem l_no : cpsL "('no',)" = [40, 39, 110, 111, 39, 44, 41] := by decide +kernel
theorem l_is : cpsL "('is', '" = [40, 39, 105, 115, 39, 44, 32, 39] := by decide +kernel
theorem l_isb : cpsL "b" = [98] := by decide +kernel
theorem l_isc : cpsL "c" = [99] := by decide +kernel
theorem l_isp : cpsL "p" = [112] := by decide +kernel
theorem l_isq : cpsL "q" = [113] := by decide +kernel
theorem l_qe : cpsL "')" = [39, 41] := by decide +kernel
theorem l_nt : cpsL "('not', " = [40, 39, 110, 111, 116, 39, 44, 32] := by decide +kernel
theorem l_an : cpsL "('and', " = [40, 39, 97, 110, 100, 39, 44, 32] := by decide +kernel
theorem l_oor : cpsL "('or', " = [40, 39, 111, 114, 39, 44, 32] := by decide +kernel
theorem l_st : cpsL "('step', '" = [40, 39, 115, 116, 101, 112, 39, 44, 32, 39] := by decide +kernel
theorem l_te : cpsL "('test', " = [40, 39, 116, 101, 115, 116, 39, 44, 32] := by decide +kernel
theorem l_lp : cpsL "('loop', " = [40, 39, 108, 111, 111, 112, 39, 44, 32] := by decide +kernel
theorem l_th : cpsL "('then', " = [40, 39, 116, 104, 101, 110, 39, 44, 32] := by decide +kernel
theorem l_sep : cpsL ", " = [44, 32] := by decide +kernel
theorem l_end : cpsL ")" = [41] := by decide +kernel
theorem l_nf : cpsL (nm false) = [98] := by decide +kernel
theorem l_nt' : cpsL (nm true) = [99] := by decide +kernel
theorem l_sf : cpsL (sn false) = [112] := by decide +kernel
theorem l_st' : cpsL (sn true) = [113] := by decide +kernel
theorem Tst.code : ∀ (t u : Tst) (r s : List Nat), t.cs ++ r = u.cs ++ s → t = u ∧ r = s := by
  intro t
  induction t with
  | yes => intro u r s h; cases u <;> simp_all [cs, l_yes, l_no, l_is, l_isb, l_isc, l_isp, l_isq, l_qe, l_nt, l_an, l_oor, l_st, l_te, l_lp, l_th, l_sep, l_end]
  | no => intro u r s h; cases u <;> simp_all [cs, l_yes, l_no, l_is, l_isb, l_isc, l_isp, l_isq, l_qe, l_nt, l_an, l_oor, l_st, l_te, l_lp, l_th, l_sep, l_end]
  | is x => intro u r s h; cases u with
    | is y => cases x <;> cases y <;> simp_all [cs, l_yes, l_no, l_is, l_isb, l_isc, l_isp, l_isq, l_qe, l_nt, l_an, l_oor, l_st, l_te, l_lp, l_th, l_sep, l_end, l_nf, l_nt']
    | _ => simp [cs, l_yes, l_no, l_is, l_isb, l_isc, l_isp, l_isq, l_qe, l_nt, l_an, l_oor, l_st, l_te, l_lp, l_th, l_sep, l_end] at h
  | nt a ih => intro u r s h; cases u with
    | nt b =>
      simp only [cs, List.append_assoc, List.append_cancel_left_eq] at h
      obtain ⟨e1, e2⟩ := ih _ _ _ h
      exact ⟨by rw [e1], List.append_cancel_left e2⟩
    | _ => simp [cs, l_yes, l_no, l_is, l_isb, l_isc, l_isp, l_isq, l_qe, l_nt, l_an, l_oor, l_st, l_te, l_lp, l_th, l_sep, l_end] at h
  | an a b ih ih2 => intro u r s h; cases u with
    | an c d =>
      simp only [cs, List.append_assoc, List.append_cancel_left_eq] at h
      obtain ⟨e1, e2⟩ := ih _ _ _ h
      obtain ⟨e3, e4⟩ := ih2 _ _ _ (List.append_cancel_left e2)
      exact ⟨by rw [e1, e3], List.append_cancel_left e4⟩
    | _ => simp [cs, l_yes, l_no, l_is, l_isb, l_isc, l_isp, l_isq, l_qe, l_nt, l_an, l_oor, l_st, l_te, l_lp, l_th, l_sep, l_end] at h
  | oor a b ih ih2 => intro u r s h; cases u with
    | oor c d =>
      simp only [cs, List.append_assoc, List.append_cancel_left_eq] at h
      obtain ⟨e1, e2⟩ := ih _ _ _ h
      obtain ⟨e3, e4⟩ := ih2 _ _ _ (List.append_cancel_left e2)
      exact ⟨by rw [e1, e3], List.append_cancel_left e4⟩
    | _ => simp [cs, l_yes, l_no, l_is, l_isb, l_isc, l_isp, l_isq, l_qe, l_nt, l_an, l_oor, l_st, l_te, l_lp, l_th, l_sep, l_end] at h
theorem Prg.code : ∀ (t u : Prg) (r s : List Nat), t.cs ++ r = u.cs ++ s → t = u ∧ r = s := by
  intro t
  induction t with
  | st x => intro u r s h; cases u with
    | st y => cases x <;> cases y <;> simp_all [cs, l_yes, l_no, l_is, l_isb, l_isc, l_isp, l_isq, l_qe, l_nt, l_an, l_oor, l_st, l_te, l_lp, l_th, l_sep, l_end, l_sf, l_st']
    | _ => simp [cs, l_yes, l_no, l_is, l_isb, l_isc, l_isp, l_isq, l_qe, l_nt, l_an, l_oor, l_st, l_te, l_lp, l_th, l_sep, l_end] at h
  | te a => intro u r s h; cases u with
    | te b =>
      simp only [cs, List.append_assoc, List.append_cancel_left_eq] at h
      obtain ⟨e1, e2⟩ := Tst.code _ _ _ _ h
      exact ⟨by rw [e1], List.append_cancel_left e2⟩
    | _ => simp [cs, l_yes, l_no, l_is, l_isb, l_isc, l_isp, l_isq, l_qe, l_nt, l_an, l_oor, l_st, l_te, l_lp, l_th, l_sep, l_end] at h
  | lp a ih => intro u r s h; cases u with
    | lp b =>
      simp only [cs, List.append_assoc, List.append_cancel_left_eq] at h
      obtain ⟨e1, e2⟩ := ih _ _ _ h
      exact ⟨by rw [e1], List.append_cancel_left e2⟩
    | _ => simp [cs, l_yes, l_no, l_is, l_isb, l_isc, l_isp, l_isq, l_qe, l_nt, l_an, l_oor, l_st, l_te, l_lp, l_th, l_sep, l_end] at h
  | th a b ih ih2 => intro u r s h; cases u with
    | th c d =>
      simp only [cs, List.append_assoc, List.append_cancel_left_eq] at h
      obtain ⟨e1, e2⟩ := ih _ _ _ h
      obtain ⟨e3, e4⟩ := ih2 _ _ _ (List.append_cancel_left e2)
      exact ⟨by rw [e1, e3], List.append_cancel_left e4⟩
    | _ => simp [cs, l_yes, l_no, l_is, l_isb, l_isc, l_isp, l_isq, l_qe, l_nt, l_an, l_oor, l_st, l_te, l_lp, l_th, l_sep, l_end] at h
  | oo a b ih ih2 => intro u r s h; cases u with
    | oo c d =>
      simp only [cs, List.append_assoc, List.append_cancel_left_eq] at h
      obtain ⟨e1, e2⟩ := ih _ _ _ h
      obtain ⟨e3, e4⟩ := ih2 _ _ _ (List.append_cancel_left e2)
      exact ⟨by rw [e1, e3], List.append_cancel_left e4⟩
    | _ => simp [cs, l_yes, l_no, l_is, l_isb, l_isc, l_isp, l_isq, l_qe, l_nt, l_an, l_oor, l_st, l_te, l_lp, l_th, l_sep, l_end] at h
/-- what repr tells of a program -/
def Prg.sh (p : Prg) : Str := p.pv.toD.shown
theorem Prg.sh_inj : ∀ p q : Prg, p.sh = q.sh → p = q := fun p q h => by
  have e : p.cs = q.cs := by rw [← p.shown, ← q.shown]; exact congrArg cpsL h
  exact (Prg.code p q [] [] (by rw [e])).1
def Prg.key (p : Prg) : Key := .inr p.sh
theorem Prg.key_inj : ∀ p q : Prg, p.key = q.key → p = q := fun p q h => Prg.sh_inj p q (Sum.inr.inj h)
theorem Tst.cs_len : ∀ t : Tst, t.cs.length ≤ 16 * t.wt
  | .yes => by simp [cs, wt, l_yes, l_no, l_is, l_isb, l_isc, l_isp, l_isq, l_qe, l_nt, l_an, l_oor, l_st, l_te, l_lp, l_th, l_sep, l_end]
  | .no => by simp [cs, wt, l_yes, l_no, l_is, l_isb, l_isc, l_isp, l_isq, l_qe, l_nt, l_an, l_oor, l_st, l_te, l_lp, l_th, l_sep, l_end]
  | .is s => by cases s <;> simp [cs, wt, l_yes, l_no, l_is, l_isb, l_isc, l_isp, l_isq, l_qe, l_nt, l_an, l_oor, l_st, l_te, l_lp, l_th, l_sep, l_end, l_nf, l_nt']
  | .nt a => by have := a.cs_len; simp [cs, wt, l_yes, l_no, l_is, l_isb, l_isc, l_isp, l_isq, l_qe, l_nt, l_an, l_oor, l_st, l_te, l_lp, l_th, l_sep, l_end]; omega
  | .an a b => by have := a.cs_len; have := b.cs_len; simp [cs, wt, l_yes, l_no, l_is, l_isb, l_isc, l_isp, l_isq, l_qe, l_nt, l_an, l_oor, l_st, l_te, l_lp, l_th, l_sep, l_end]; omega
  | .oor a b => by have := a.cs_len; have := b.cs_len; simp [cs, wt, l_yes, l_no, l_is, l_isb, l_isc, l_isp, l_isq, l_qe, l_nt, l_an, l_oor, l_st, l_te, l_lp, l_th, l_sep, l_end]; omega
theorem Prg.cs_len : ∀ t : Prg, t.cs.length ≤ 16 * t.wt
  | .st s => by cases s <;> simp [cs, wt, l_yes, l_no, l_is, l_isb, l_isc, l_isp, l_isq, l_qe, l_nt, l_an, l_oor, l_st, l_te, l_lp, l_th, l_sep, l_end, l_sf, l_st']
  | .te a => by have := a.cs_len; simp [cs, wt, l_yes, l_no, l_is, l_isb, l_isc, l_isp, l_isq, l_qe, l_nt, l_an, l_oor, l_st, l_te, l_lp, l_th, l_sep, l_end]; omega
  | .lp a => by have := a.cs_len; simp [cs, wt, l_yes, l_no, l_is, l_isb, l_isc, l_isp, l_isq, l_qe, l_nt, l_an, l_oor, l_st, l_te, l_lp, l_th, l_sep, l_end]; omega
  | .th a b => by have := a.cs_len; have := b.cs_len; simp [cs, wt, l_yes, l_no, l_is, l_isb, l_isc, l_isp, l_isq, l_qe, l_nt, l_an, l_oor, l_st, l_te, l_lp, l_th, l_sep, l_end]; omega
  | .oo a b => by have := a.cs_len; have := b.cs_len; simp [cs, wt, l_yes, l_no, l_is, l_isb, l_isc, l_isp, l_isq, l_qe, l_nt, l_an, l_oor, l_st, l_te, l_lp, l_th, l_sep, l_end]; omega
abbrev low7 (l : List Nat) : Bool := l.all fun c => decide (c < 0x110000)
theorem Tst.cs_low : ∀ t : Tst, low7 t.cs = true
  | .yes => by decide +kernel
  | .no => by decide +kernel
  | .is s => by cases s <;> decide +kernel
  | .nt a => by have := a.cs_low; simp [cs, l_yes, l_no, l_is, l_isb, l_isc, l_isp, l_isq, l_qe, l_nt, l_an, l_oor, l_st, l_te, l_lp, l_th, l_sep, l_end]; simpa using this
  | .an a b => by have h1 := a.cs_low; have h2 := b.cs_low; simp [cs, l_yes, l_no, l_is, l_isb, l_isc, l_isp, l_isq, l_qe, l_nt, l_an, l_oor, l_st, l_te, l_lp, l_th, l_sep, l_end]; exact ⟨by simpa using h1, by simpa using h2⟩
  | .oor a b => by have h1 := a.cs_low; have h2 := b.cs_low; simp [cs, l_yes, l_no, l_is, l_isb, l_isc, l_isp, l_isq, l_qe, l_nt, l_an, l_oor, l_st, l_te, l_lp, l_th, l_sep, l_end]; exact ⟨by simpa using h1, by simpa using h2⟩
theorem Prg.cs_low : ∀ t : Prg, low7 t.cs = true
  | .st s => by cases s <;> decide +kernel
  | .te a => by have := a.cs_low; simp [cs, l_yes, l_no, l_is, l_isb, l_isc, l_isp, l_isq, l_qe, l_nt, l_an, l_oor, l_st, l_te, l_lp, l_th, l_sep, l_end]; simpa using this
  | .lp a => by have := a.cs_low; simp [cs, l_yes, l_no, l_is, l_isb, l_isc, l_isp, l_isq, l_qe, l_nt, l_an, l_oor, l_st, l_te, l_lp, l_th, l_sep, l_end]; simpa using this
  | .th a b => by have h1 := a.cs_low; have h2 := b.cs_low; simp [cs, l_yes, l_no, l_is, l_isb, l_isc, l_isp, l_isq, l_qe, l_nt, l_an, l_oor, l_st, l_te, l_lp, l_th, l_sep, l_end]; exact ⟨by simpa using h1, by simpa using h2⟩
  | .oo a b => by have h1 := a.cs_low; have h2 := b.cs_low; simp [cs, l_yes, l_no, l_is, l_isb, l_isc, l_isp, l_isq, l_qe, l_nt, l_an, l_oor, l_st, l_te, l_lp, l_th, l_sep, l_end]; exact ⟨by simpa using h1, by simpa using h2⟩
theorem all_list (f : Nat → Bool) (a : Array Nat) : a.all f = a.toList.all f := by simp
theorem Prg.sh_ok (p : Prg) : PyData.strOk p.sh = true := by
  show p.sh.cps.all _ = true
  rw [all_list]
  have e : p.sh.cps.toList = p.cs := p.shown
  rw [e]
  exact p.cs_low
theorem Prg.key_pv (p : Prg) : (PV.str p.sh).key = some p.key := by
  show (if PyData.strOk p.sh = true then some (Sum.inr p.sh : Key) else none) = _
  rw [if_pos p.sh_ok]
  rfl
theorem Tst.showable : ∀ t : Tst, t.pv.toD.showable = true
  | .yes => by decide +kernel
  | .no => by decide +kernel
  | .is s => by cases s <;> decide +kernel
  | .nt a => by show (true && (a.pv.toD.showable && true)) = true; rw [a.showable]; rfl
  | .an a b => by show (true && (a.pv.toD.showable && (b.pv.toD.showable && true))) = true; rw [a.showable, b.showable]; rfl
  | .oor a b => by show (true && (a.pv.toD.showable && (b.pv.toD.showable && true))) = true; rw [a.showable, b.showable]; rfl
theorem Prg.showable : ∀ t : Prg, t.pv.toD.showable = true
  | .st s => by cases s <;> decide +kernel
  | .te a => by show (true && (a.pv.toD.showable && true)) = true; rw [a.showable]; rfl
  | .lp a => by show (true && (a.pv.toD.showable && true)) = true; rw [a.showable]; rfl
  | .th a b => by show (true && (a.pv.toD.showable && (b.pv.toD.showable && true))) = true; rw [a.showable, b.showable]; rfl
  | .oo a b => by show (true && (a.pv.toD.showable && (b.pv.toD.showable && true))) = true; rw [a.showable, b.showable]; rfl
theorem Tst.noDict : ∀ t : Tst, t.pv.toD.hasDict = false
  | .yes => by decide +kernel
  | .no => by decide +kernel
  | .is s => by cases s <;> decide +kernel
  | .nt a => by show (false || (a.pv.toD.hasDict || false)) = false; rw [a.noDict]; rfl
  | .an a b => by show (false || (a.pv.toD.hasDict || (b.pv.toD.hasDict || false))) = false; rw [a.noDict, b.noDict]; rfl
  | .oor a b => by show (false || (a.pv.toD.hasDict || (b.pv.toD.hasDict || false))) = false; rw [a.noDict, b.noDict]; rfl
theorem Prg.noDict : ∀ t : Prg, t.pv.toD.hasDict = false
  | .st s => by cases s <;> decide +kernel
  | .te a => by show (false || (a.pv.toD.hasDict || false)) = false; rw [a.noDict]; rfl
  | .lp a => by show (false || (a.pv.toD.hasDict || false)) = false; rw [a.noDict]; rfl
  | .th a b => by show (false || (a.pv.toD.hasDict || (b.pv.toD.hasDict || false))) = false; rw [a.noDict, b.noDict]; rfl
  | .oo a b => by show (false || (a.pv.toD.hasDict || (b.pv.toD.hasDict || false))) = false; rw [a.noDict, b.noDict]; rfl
theorem Prg.isTup : ∀ p : Prg, ∃ xs, p.pv = .tup xs
  | .st _ => ⟨_, rfl⟩
  | .te _ => ⟨_, rfl⟩
  | .lp _ => ⟨_, rfl⟩
  | .th _ _ => ⟨_, rfl⟩
  | .oo _ _ => ⟨_, rfl⟩
theorem Prg.shows (p : Prg) (h : p.low) (hd : p.dep ≤ 8) : p.pv.shows = true := by
  have h1 := p.depth h
  have h2 := p.wt_le h
  have h3 := Nat.pow_le_pow_right (n := 2) (by omega) hd
  have h4 := p.cs_len
  have e : p.pv.toD.shown.length = p.cs.length := by rw [← p.shown]; exact Array.length_toList.symm
  have ln : p.pv.toD.shown.length ≤ 2 ^ 24 := by rw [e]; omega
  show (p.pv.plain && decide (p.pv.depth ≤ 190) && p.pv.toD.showable && !p.pv.toD.hasDict && decide (p.pv.toD.shown.length ≤ sizeLine) && PyData.strOk p.pv.toD.shown) = true
  rw [p.plain, p.showable, p.noDict, show PyData.strOk p.pv.toD.shown = true from p.sh_ok, decide_eq_true (show p.pv.depth ≤ 190 by omega), decide_eq_true (show p.pv.toD.shown.length ≤ sizeLine from ln)]
  rfl
theorem Prg.repr (p : Prg) (h : p.low) (hd : p.dep ≤ 8) : qRepr [p.pv] = some (.str p.sh) := by
  have hs := p.shows h hd
  unfold Prg.sh
  obtain ⟨xs, e⟩ := p.isTup
  rw [e] at hs ⊢
  exact if_pos hs
/-! ### what differs first can be compared -/
theorem cmp2 (w v : Str) (a b : PyData) (h : PyData.eqv a b = true ∨ cmpD a b = true) : cmpD (.tuple [.str w, a]) (.tuple [.str v, b]) = true := by
  show (if PyData.eqv (.str w) (.str v) then (if PyData.eqv a b then true else cmpD a b) else true) = true
  rcases h with h | h <;> simp [h]
theorem cmp3 (w v : Str) (a b c d : PyData) (h : PyData.eqv a b = true ∨ cmpD a b = true) (h2 : PyData.eqv c d = true ∨ cmpD c d = true) : cmpD (.tuple [.str w, a, c]) (.tuple [.str v, b, d]) = true := by
  show (if PyData.eqv (.str w) (.str v) then (if PyData.eqv a b then (if PyData.eqv c d then true else cmpD c d) else cmpD a b) else true) = true
  rcases h with h | h <;> rcases h2 with h2 | h2 <;> simp [h, h2]
theorem cmpW (w v : Str) (xs ys : List PyData) (h : w ≠ v) : cmpD (.tuple (.str w :: xs)) (.tuple (.str v :: ys)) = true := by
  show (if PyData.eqv (.str w) (.str v) then cmpsD xs ys else true) = true
  have : PyData.eqv (.str w) (.str v) = false := by
    have := eq_str w v
    rw [decide_eq_false h] at this
    exact this
  simp [this]
theorem Tst.cmp : ∀ t u : Tst, cmpD t.pv.toD u.pv.toD = true := by
  intro t
  induction t with
  | yes => intro u; cases u <;> first | (exact cmpW _ _ _ _ (by decide +kernel)) | decide +kernel
  | no => intro u; cases u <;> first | (exact cmpW _ _ _ _ (by decide +kernel)) | decide +kernel
  | is s => intro u; cases u <;> first | (exact cmpW _ _ _ _ (by decide +kernel)) | (exact cmp2 _ _ _ _ (.inr rfl))
  | nt a ih => intro u; cases u <;> first | (exact cmpW _ _ _ _ (by decide +kernel)) | (exact cmp2 _ _ _ _ (.inr (ih _)))
  | an a b ih ih2 => intro u; cases u <;> first | (exact cmpW _ _ _ _ (by decide +kernel)) | (exact cmp3 _ _ _ _ _ _ (.inr (ih _)) (.inr (ih2 _)))
  | oor a b ih ih2 => intro u; cases u <;> first | (exact cmpW _ _ _ _ (by decide +kernel)) | (exact cmp3 _ _ _ _ _ _ (.inr (ih _)) (.inr (ih2 _)))
theorem Prg.cmp : ∀ t u : Prg, cmpD t.pv.toD u.pv.toD = true := by
  intro t
  induction t with
  | st s => intro u; cases u <;> first | (exact cmpW _ _ _ _ (by decide +kernel)) | (exact cmp2 _ _ _ _ (.inr rfl))
  | te a => intro u; cases u <;> first | (exact cmpW _ _ _ _ (by decide +kernel)) | (exact cmp2 _ _ _ _ (.inr (Tst.cmp _ _)))
  | lp a ih => intro u; cases u <;> first | (exact cmpW _ _ _ _ (by decide +kernel)) | (exact cmp2 _ _ _ _ (.inr (ih _)))
  | th a b ih ih2 => intro u; cases u <;> first | (exact cmpW _ _ _ _ (by decide +kernel)) | (exact cmp3 _ _ _ _ _ _ (.inr (ih _)) (.inr (ih2 _)))
  | oo a b ih ih2 => intro u; cases u <;> first | (exact cmpW _ _ _ _ (by decide +kernel)) | (exact cmp3 _ _ _ _ _ _ (.inr (ih _)) (.inr (ih2 _)))
theorem Prg.headK : ∀ p : Prg, headK p.pv.toD = some 1
  | .st _ => rfl
  | .te _ => rfl
  | .lp _ => rfl
  | .th _ _ => rfl
  | .oo _ _ => rfl
abbrev PPs (l : List Prg) : List PV := l.map Prg.pv
theorem trees_pps : ∀ l : List Prg, treesP (PPs l) = true
  | [] => rfl
  | p :: l => by show (treeP p.pv && treesP (PPs l)) = true; rw [p.tree, trees_pps l]; rfl
theorem sortOk_pps (l : List Prg) (hl : l.length ≤ 100000) (h : ∀ p ∈ l, p.low ∧ p.dep ≤ 8) : sortOk (PPs l) = true := by
  cases l with
  | nil => decide
  | cons p l =>
    unfold sortOk
    have hh : headP (PPs (p :: l)) = 1 := by show (Pu.headK p.pv.toD).getD 3 = 1; rw [p.headK]; rfl
    rw [hh, trees_pps, decide_eq_true (show (PPs (p :: l)).length ≤ 100000 by rw [List.length_map]; exact hl)]
    simp only [Bool.true_and, List.all_eq_true]
    rw [Bool.and_eq_true_iff, List.all_eq_true]
    refine ⟨rfl, fun x hx => ?_⟩
    obtain ⟨q, hq, rfl⟩ := List.mem_map.mp hx
    obtain ⟨h1, h2⟩ := h q hq
    have h3 := q.depth h1
    rw [q.headK, decide_eq_true (show q.pv.depth ≤ 60 by omega)]
    simp only [decide_true, Bool.true_and, List.all_eq_true]
    intro y hy
    obtain ⟨r, hr, rfl⟩ := List.mem_map.mp hy
    exact Prg.cmp q r
theorem Prg.not_int : ∀ p : Prg, intsP [p.pv] = none := fun p => by obtain ⟨xs, e⟩ := p.isTup; rw [e]; rfl
theorem sortT_pps (p : Prg) (l : List Prg) (hl : (p :: l).length ≤ 100000) (h : ∀ q ∈ p :: l, q.low ∧ q.dep ≤ 8) : qSortT [.lst (PPs (p :: l))] = some (sortP (PPs (p :: l))) := by
  have e : qSorted1 (.lst (PPs (p :: l))) = none := by
    obtain ⟨xs, e⟩ := p.isTup
    show qSorted1 (.lst (p.pv :: PPs l)) = none
    rw [e]
    rfl
  show (match qSorted1 (.lst (PPs (p :: l))) with | some v => some v | none => if sortOk (PPs (p :: l)) = true then some (sortP (PPs (p :: l))) else none) = _
  rw [e]
  exact if_pos (sortOk_pps _ hl h)
end Pu
set_option Elab.async false
set_option linter.all false
set_option maxRecDepth 100000
set_option maxHeartbeats 4000000
/-! Pr, part D: comprehensions over programs and names. -/
namespace Pu
open PySem L2
theorem dc_map {α : Type} {gx : PV → Cells → Option Cells} {dc dk dv : Den PV} {own : List Nat} (g : α → PV) (p : α → Bool) (f : α → Key × PV) (e : Cells) : ∀ (xs : List α) (acc : KP), (∀ x ∈ xs, dcTurn gx dc dk dv own (g x) e = some (if p x = true then some (f x) else none, e)) → dcLoop gx dc dk dv own (xs.map g) acc e = some (.ok (putsP acc ((xs.filter p).map f)) e)
  | [], acc, _ => rfl
  | x :: xs, acc, h => by
    rw [List.map_cons, dc_cons, h x List.mem_cons_self]
    have ih := fun acc => dc_map g p f e xs acc fun y hy => h y (List.mem_cons_of_mem _ hy)
    by_cases c : p x = true
    · rw [if_pos c]
      simp only
      rw [ih, List.filter_cons_of_pos c, List.map_cons]
      rfl
    · rw [if_neg c]
      simp only
      rw [ih, List.filter_cons_of_neg c]
theorem set_set_un {e : Cells} {k : Nat} (x : Cell) (h : e[k]? = some .un) : (e.set k x).set k .un = e := by
  rw [List.set_set]
  obtain ⟨hl, hk⟩ := List.getElem?_eq_some_iff.mp h
  refine List.ext_getElem? fun j => ?_
  by_cases hj : k = j
  · subst hj
    rw [List.getElem?_set_self hl, h]
  · rw [List.getElem?_set_ne hj]
theorem has_len {e : Cells} {k : Nat} {c : Cell} (h : e[k]? = some c) : k < e.length := (List.getElem?_eq_some_iff.mp h).1
/-- {name: True for name in names} -/
theorem dc_names {g : Bool → Str} (ok : ∀ b, PyData.strOk (g b) = true) (inj : ∀ a b, g a = g b → a = b) (i : Nat) (l : List Bool) (e : Cells) (hi : e[i]? = some .un) : dcLoop (gxN i) (Den.ret (.bl true)) (dVar i) (Den.ret (.bl true)) [i] (l.map fun b => .str (g b)) [] e = some (.ok (KN g (adds [] l)) e) := by
  have q := dc_map (gx := gxN i) (dc := Den.ret (.bl true)) (dk := dVar i) (dv := Den.ret (.bl true)) (own := [i]) (fun b => .str (g b)) (fun _ => true) (fun b => ((.inr (g b) : Key), PV.bl true)) e l [] fun b _ => by
    have hk : (PV.str (g b)).key = some (.inr (g b)) := if_pos (ok b)
    have hl := has_len hi
    simp only [dcTurn, gxN_at, hl, if_true, ret_at, var_at, List.getElem?_set_self hl, hk, wipeE_cons, wipeE_nil, set_set_un _ hi]
  rw [q, List.filter_eq_self.mpr (fun _ _ => rfl)]
  exact congrArg (fun z => some (Out.ok z e)) (puts_adds (kn_inj inj) l [])
theorem nm_ok : ∀ b, PyData.strOk (nm b) = true := by decide +kernel
theorem sn_ok : ∀ b, PyData.strOk (sn b) = true := by decide +kernel
/-! ### equal programs -/
abbrev Prg.okp (p : Prg) : Prop := p.low ∧ p.dep ≤ 8
theorem Prg.fit (p : Prg) (h : p.okp) : p.pv.fit = true := by
  rw [fit_eq_true]
  have := p.depth h.1
  have := h.2
  exact ⟨p.plain, by omega⟩
theorem pps_cons (p : Prg) (l : List Prg) : PPs (p :: l) = p.pv :: PPs l := rfl
theorem plains_pps : ∀ l : List Prg, PV.plains (PPs l) = true
  | [] => rfl
  | p :: l => by rw [pps_cons, plains_cons, p.plain, plains_pps l]; rfl
theorem depths_pps : ∀ l : List Prg, (∀ p ∈ l, p.okp) → PV.depths (PPs l) ≤ 12
  | [], _ => by simp
  | p :: l, h => by
    rw [pps_cons, depths_cons]
    have := depths_pps l fun q hq => h q (List.mem_cons_of_mem _ hq)
    have h1 := h p List.mem_cons_self
    have := p.depth h1.1
    have := h1.2
    omega
theorem any_pps (x : Prg) (l : List Prg) : ((PPs l).any fun z => pvEq z x.pv) = decide (x ∈ l) := by
  induction l with
  | nil => rfl
  | cons y l ih =>
    rw [pps_cons, List.any_cons, ih, Prg.eqv]
    by_cases h : y = x
    · simp [h]
    · have : ¬ x = y := fun z => h z.symm
      simp [h, this]
theorem notIn_pps (x : Prg) (l : List Prg) (hx : x.okp) (h : ∀ p ∈ l, p.okp) : qNotIn x.pv (.lst (PPs l)) = some (.bl (!decide (x ∈ l))) := by
  have a := any_pps x l
  have f1 := x.fit hx
  have f2 : (PV.lst (PPs l)).fit = true := by
    rw [fit_eq_true, plain_lst, depth_lst]
    have := depths_pps l h
    exact ⟨plains_pps l, by omega⟩
  obtain ⟨xs, e⟩ := x.isTup
  rw [e] at a f1 ⊢
  show (if (PV.tup xs).fit = true ∧ (PV.lst (PPs l)).fit = true then some (PV.bl (!((PPs l).any fun z => pvEq z (.tup xs)))) else none) = _
  rw [if_pos ⟨f1, f2⟩, a]
/-- [xs[k] for k in range(len(xs)) if xs[k] not in xs[:k]] -/
theorem once_turn (i k : Nat) (ik : i ≠ k) (A B : List Prg) (x : Prg) (e : Cells) (hk : e[k]? = some .un) (hi : e[i]? = some (.v (.lst (PPs (A ++ x :: B))))) (h : ∀ p ∈ A ++ x :: B, p.okp) :
    lcTurn (gxN k) (dOp qNotIn (dOp qIx (dVar i) (dVar k)) (dSl (dVar i) none (some (dVar k)))) (dOp qIx (dVar i) (dVar k)) [k] (.int (A.length : Nat)) e = some (if x ∈ A then none else some x.pv, e) := by
  have hl := has_len hk
  have i1 : (e.set k (.v (.int (A.length : Nat))))[i]? = some (.v (.lst (PPs (A ++ x :: B)))) := by rw [List.getElem?_set_ne (fun z => ik z.symm)]; exact hi
  have i2 : (e.set k (.v (.int (A.length : Nat))))[k]? = some (.v (.int (A.length : Nat))) := List.getElem?_set_self hl
  have g1 : (PPs (A ++ x :: B))[A.length]? = some x.pv := by
    rw [List.getElem?_map, List.getElem?_append_right (Nat.le_refl _), Nat.sub_self]; rfl
  have g2 : (PPs (A ++ x :: B)).take A.length = PPs A := by rw [← List.map_take, List.take_left]
  have q := notIn_pps x A (h x (by simp)) fun p hp => h p (List.mem_append_left _ hp)
  have c1 : dOp qIx (dVar i) (dVar k) (e.set k (.v (.int (A.length : Nat)))) = some (.ok x.pv (e.set k (.v (.int (A.length : Nat))))) := by
    simp only [dOp_eq, bind_at, var_at, i1, i2, qIx_lst, atI_cast, g1, lift_at]
  have c2 : dOp qNotIn (dOp qIx (dVar i) (dVar k)) (dSl (dVar i) none (some (dVar k))) (e.set k (.v (.int (A.length : Nat)))) = some (.ok (.bl (!decide (x ∈ A))) (e.set k (.v (.int (A.length : Nat))))) := by
    rw [dOp_eq, bind_at, c1]
    simp only [bind_at, dSl_eq, var_at, i1, i2, dPart_none, dPart_some_eq, lift_at, qSl_lst, cut_to_cast, g2, q]
  unfold lcTurn
  rw [gxN_at, if_pos hl]
  simp only
  rw [c2]
  by_cases hx : x ∈ A
  · simp only [hx, decide_true, Bool.not_true, if_true, wipeE_cons, wipeE_nil, set_set_un _ hk]
  · simp only [hx, decide_false, Bool.not_false, if_false]
    rw [c1]
    simp only [wipeE_cons, wipeE_nil, set_set_un _ hk]
theorem once_lc (i k : Nat) (ik : i ≠ k) (L : List Prg) (e : Cells) (hk : e[k]? = some .un) (hi : e[i]? = some (.v (.lst (PPs L)))) (h : ∀ p ∈ L, p.okp) : ∀ (B A : List Prg), A ++ B = L →
    lcLoop (gxN k) (dOp qNotIn (dOp qIx (dVar i) (dVar k)) (dSl (dVar i) none (some (dVar k)))) (dOp qIx (dVar i) (dVar k)) [k] ((List.range' A.length B.length).map fun n : Nat => .int (n : Nat)) (PPs (adds [] A)) e = some (.ok (PPs (adds [] L)) e)
  | [], A, ab => by
    rw [List.append_nil] at ab
    subst ab
    exact lc_nil _ _
  | x :: B, A, ab => by
    have t := once_turn i k ik A B x e hk (ab ▸ hi) (ab ▸ h)
    rw [List.length_cons, List.range'_succ, List.map_cons, lc_cons, t]
    have ih := once_lc i k ik L e hk hi h B (A ++ [x]) (by rw [List.append_assoc]; exact ab)
    rw [List.length_append, List.length_singleton] at ih
    have ea : adds [] (A ++ [x]) = add1 (adds [] A) x := by rw [adds_append]; rfl
    have em : x ∈ adds [] A ↔ x ∈ A := by rw [mem_adds]; simp
    rw [ea] at ih
    by_cases hx : x ∈ A
    · have e1 : add1 (adds [] A) x = adds [] A := if_pos (em.mpr hx)
      rw [e1] at ih
      rw [if_pos hx]
      exact ih
    · have e1 : add1 (adds [] A) x = adds [] A ++ [x] := if_neg fun z => hx (em.mp z)
      rw [e1, PPs, List.map_append] at ih
      rw [if_neg hx]
      exact ih
theorem once_all (i k : Nat) (ik : i ≠ k) (L : List Prg) (e : Cells) (hk : e[k]? = some .un) (hi : e[i]? = some (.v (.lst (PPs L)))) (h : ∀ p ∈ L, p.okp) :
    lcLoop (gxN k) (dOp qNotIn (dOp qIx (dVar i) (dVar k)) (dSl (dVar i) none (some (dVar k)))) (dOp qIx (dVar i) (dVar k)) [k] (rgP (L.length : Nat)) [] e = some (.ok (PPs (adds [] L)) e) := by
  have q := once_lc i k ik L e hk hi h L [] rfl
  rw [List.length_nil, ← List.range_eq_range'] at q
  exact q
end Pu
set_option Elab.async false
set_option linter.all false
set_option maxRecDepth 100000
set_option maxHeartbeats 4000000
/-! Pr, part E: what lies within a program. -/
namespace Pu
open PySem L2
def Tst.has (x : Bool) : Tst → Bool
  | .yes => false
  | .no => false
  | .is s => s == x
  | .nt a => a.has x
  | .an a b => a.has x || b.has x
  | .oor a b => a.has x || b.has x
/-- names as they stand there -/
def Tst.said : Tst → List Bool
  | .yes => []
  | .no => []
  | .is s => [s]
  | .nt a => a.said
  | .an a b => a.said ++ b.said
  | .oor a b => a.said ++ b.said
theorem Tst.mem_said (x : Bool) : ∀ t : Tst, x ∈ t.said ↔ t.has x = true
  | .yes => by simp [said, has]
  | .no => by simp [said, has]
  | .is s => by cases s <;> cases x <;> decide
  | .nt a => a.mem_said x
  | .an a b => by simp [said, has, a.mem_said x, b.mem_said x]
  | .oor a b => by simp [said, has, a.mem_said x, b.mem_said x]
theorem Tst.said_len : ∀ t : Tst, t.said.length ≤ t.wt
  | .yes => by simp [said, wt]
  | .no => by simp [said, wt]
  | .is s => by simp [said, wt]
  | .nt a => by have := a.said_len; simp [said, wt]; omega
  | .an a b => by have := a.said_len; have := b.said_len; simp [said, wt]; omega
  | .oor a b => by have := a.said_len; have := b.said_len; simp [said, wt]; omega
abbrev Tst.nms (t : Tst) : List Bool := pick (t.has false) (t.has true)
def Prg.parts : Prg → List Prg
  | .st _ => []
  | .te _ => []
  | .lp a => [a]
  | .th a b => [a, b]
  | .oo a b => [a, b]
/-- itself first -/
def Prg.pre : Prg → List Prg
  | .st s => [.st s]
  | .te t => [.te t]
  | .lp a => .lp a :: a.pre
  | .th a b => .th a b :: (a.pre ++ b.pre)
  | .oo a b => .oo a b :: (a.pre ++ b.pre)
def Prg.psz (p : Prg) : Nat := p.pre.length
theorem Prg.psz_lp (a : Prg) : (Prg.lp a).psz = a.psz + 1 := rfl
theorem Prg.psz_th (a b : Prg) : (Prg.th a b).psz = a.psz + b.psz + 1 := by simp [psz, pre]
theorem Prg.psz_oo (a b : Prg) : (Prg.oo a b).psz = a.psz + b.psz + 1 := by simp [psz, pre]
theorem Prg.psz_pos : ∀ p : Prg, 0 < p.psz
  | .st _ => Nat.zero_lt_one
  | .te _ => Nat.zero_lt_one
  | .lp _ => Nat.succ_pos _
  | .th _ _ => Nat.succ_pos _
  | .oo _ _ => Nat.succ_pos _
theorem Prg.psz_le : ∀ p : Prg, p.psz ≤ p.wt
  | .st _ => Nat.le_refl _
  | .te _ => by simp [psz, pre, wt]
  | .lp a => by have := a.psz_le; rw [psz_lp]; simp [wt]; omega
  | .th a b => by have := a.psz_le; have := b.psz_le; rw [psz_th]; simp [wt]; omega
  | .oo a b => by have := a.psz_le; have := b.psz_le; rw [psz_oo]; simp [wt]; omega
theorem Prg.self_pre : ∀ p : Prg, p ∈ p.pre
  | .st _ => by simp [pre]
  | .te _ => by simp [pre]
  | .lp _ => by simp [pre]
  | .th _ _ => by simp [pre]
  | .oo _ _ => by simp [pre]
theorem Prg.pre_pre : ∀ {p q r : Prg}, q ∈ p.pre → r ∈ q.pre → r ∈ p.pre
  | .st _, q, r, h, k => by simp [pre] at h; subst h; exact k
  | .te _, q, r, h, k => by simp [pre] at h; subst h; exact k
  | .lp a, q, r, h, k => by
    simp only [pre, List.mem_cons] at h
    rcases h with rfl | h
    · exact k
    · exact List.mem_cons_of_mem _ (pre_pre h k)
  | .th a b, q, r, h, k => by
    simp only [pre, List.mem_cons, List.mem_append] at h
    rcases h with rfl | h | h
    · exact k
    · exact List.mem_cons_of_mem _ (List.mem_append_left _ (pre_pre h k))
    · exact List.mem_cons_of_mem _ (List.mem_append_right _ (pre_pre h k))
  | .oo a b, q, r, h, k => by
    simp only [pre, List.mem_cons, List.mem_append] at h
    rcases h with rfl | h | h
    · exact k
    · exact List.mem_cons_of_mem _ (List.mem_append_left _ (pre_pre h k))
    · exact List.mem_cons_of_mem _ (List.mem_append_right _ (pre_pre h k))
theorem Prg.pre_ok {d : Nat} : ∀ {p : Prg}, p.low → p.dep ≤ d → ∀ q ∈ p.pre, q.low ∧ q.dep ≤ d
  | .st _, h, hd, q, hq => by simp [pre] at hq; subst hq; exact ⟨h, hd⟩
  | .te _, h, hd, q, hq => by simp [pre] at hq; subst hq; exact ⟨h, hd⟩
  | .lp a, h, hd, q, hq => by
    simp only [pre, List.mem_cons] at hq
    rcases hq with rfl | hq
    · exact ⟨h, hd⟩
    · exact pre_ok (p := a) h (by simp only [dep] at hd; omega) q hq
  | .th a b, h, hd, q, hq => by
    simp only [pre, List.mem_cons, List.mem_append] at hq
    rcases hq with rfl | hq | hq
    · exact ⟨h, hd⟩
    · exact pre_ok (p := a) h.1 (by simp only [dep] at hd; omega) q hq
    · exact pre_ok (p := b) h.2 (by simp only [dep] at hd; omega) q hq
  | .oo a b, h, hd, q, hq => by
    simp only [pre, List.mem_cons, List.mem_append] at hq
    rcases hq with rfl | hq | hq
    · exact ⟨h, hd⟩
    · exact pre_ok (p := a) h.1 (by simp only [dep] at hd; omega) q hq
    · exact pre_ok (p := b) h.2 (by simp only [dep] at hd; omega) q hq
def Prg.once (p : Prg) : List Prg := adds [] p.pre
theorem Prg.mem_once {p q : Prg} : q ∈ p.once ↔ q ∈ p.pre := by unfold once; rw [mem_adds]; simp
def Prg.stepL : Prg → List Bool
  | .st s => [s]
  | _ => []
def Prg.testL : Prg → List Bool
  | .te t => t.nms
  | _ => []
def Prg.testS : Prg → List Bool
  | .te t => t.said
  | _ => []
def Prg.hasS (p : Prg) (x : Bool) : Bool := decide (x ∈ p.pre.flatMap stepL)
def Prg.hasN (p : Prg) (x : Bool) : Bool := decide (x ∈ p.pre.flatMap testL)
abbrev Prg.sts (p : Prg) : List Bool := pick (p.hasS false) (p.hasS true)
abbrev Prg.nms (p : Prg) : List Bool := pick (p.hasN false) (p.hasN true)
theorem Tst.mem_nms (x : Bool) (t : Tst) : x ∈ t.nms ↔ x ∈ t.said := by
  rw [Tst.mem_said, mem_pick]; cases x <;> rfl
theorem Prg.mem_testS (x : Bool) (p : Prg) : x ∈ p.pre.flatMap testS ↔ x ∈ p.pre.flatMap testL := by
  simp only [List.mem_flatMap]
  refine exists_congr fun q => and_congr_right fun _ => ?_
  cases q with
  | te t => exact (t.mem_nms x).symm
  | _ => exact Iff.rfl
/-- the names of what is drawn over names -/
theorem pick_self (f t : Bool) : adds [] (pick f t) = pick f t := by cases f <;> cases t <;> decide
theorem nodup_pick (f t : Bool) : (pick f t).Nodup := by cases f <;> cases t <;> decide
theorem adds_adds {F l : List Bool} (hF : F.Nodup) (hl : l.Nodup) : adds F (adds [] l) = adds F l := by
  rcases five hF with rfl | rfl | rfl | rfl | rfl <;> rcases five hl with rfl | rfl | rfl | rfl | rfl <;> decide
theorem set_same {e : Cells} {i : Nat} {c : Cell} (h : e[i]? = some c) : e.set i c = e := by
  obtain ⟨hl, hk⟩ := List.getElem?_eq_some_iff.mp h
  refine List.ext_getElem? fun j => ?_
  by_cases hj : i = j
  · subst hj
    rw [List.getElem?_set_self hl, h]
  · rw [List.getElem?_set_ne hj]
/-- found.update({name: True for name in names}) -/
theorem upd_names {g : Bool → Str} (ok : ∀ b, PyData.strOk (g b) = true) (inj : ∀ a b, g a = g b → a = b) (i j : Nat) (F l : List Bool) (e : Cells) (d : Den PV) (hi : e[i]? = some (.dOf true (KN g F))) (hj : e[j]? = some .un) (hd : d e = some (.ok (.tup (l.map fun b => .str (g b))) e)) (hF : F.Nodup) (hl : l.Nodup) :
    sDrop (dUpdM i (dDicOf (dDc (dSeq d) (gxN j) (Den.ret (.bl true)) (dVar j) (Den.ret (.bl true)) [j]))) e = some (.nx (e.set i (.dOf true (KN g (adds F l))))) := by
  have q := dc_names ok inj j l e hj
  have m := merge_adds (key := fun b => (.inr (g b) : Key)) (val := fun _ => PV.bl true) (kn_inj inj) (adds [] l) F
  have e1 := short2 hF
  have e2 := short2 (nodup_adds (xs := l) List.nodup_nil)
  have e3 : F.length + (adds [] l).length ≤ sizeLine := by have : 4 ≤ sizeLine := by decide
                                                           omega
  rw [adds_adds hF hl] at m
  have w : wipeE e [j] = e := by rw [wipeE_cons, wipeE_nil, set_same hj]
  have i1 : e[i]? = some (.d true ((KN g F).map (·.1)) ((KN g F).map (·.2))) := hi
  simp only [drop_st, updM_at, i1, bind_at, dDicOf_eq, dDc_at, dSeq_eq, hd, lift_at, seq_tup, w, q, ret_at, PV.dicOf, zip_parts, List.length_map, e3, if_true]
  rw [m]
end Pu
set_option Elab.async false
set_option linter.all false
set_option maxRecDepth 100000
set_option maxHeartbeats 4000000
/-! Pr, part F: what is left of a program. -/
namespace Pu
open PySem L2
def Tst.ev (v : Bool → Bool) : Tst → Bool
  | .yes => true
  | .no => false
  | .is s => v s
  | .nt a => !a.ev v
  | .an a b => a.ev v && b.ev v
  | .oor a b => a.ev v || b.ev v
def Prg.ends (v : Bool → Bool) : Prg → Bool
  | .st _ => false
  | .te t => t.ev v
  | .lp _ => true
  | .th a b => a.ends v && b.ends v
  | .oo a b => a.ends v || b.ends v
abbrev skipP : Prg := .te .yes
abbrev failP : Prg := .te .no
def thenP (p q : Prg) : Prg := if p = failP ∨ q = failP then failP else if p = skipP then q else if q = skipP then p else .th p q
def behindP (L : List Prg) (q : Prg) : List Prg := (L.map fun x => thenP x q).filter fun x => decide (x ≠ failP)
def restsP (v : Bool → Bool) (s : Bool) : Prg → List Prg
  | .st b => if b = s then [skipP] else []
  | .te _ => []
  | .lp a => behindP (restsP v s a) (.lp a)
  | .th a b => behindP (restsP v s a) b ++ (if a.ends v then restsP v s b else [])
  | .oo a b => restsP v s a ++ restsP v s b
/-- all that can be left -/
def pdP : Prg → List Prg
  | .st _ => [skipP]
  | .te _ => []
  | .lp a => (pdP a).map fun x => thenP x (.lp a)
  | .th a b => ((pdP a).map fun x => thenP x b) ++ pdP b
  | .oo a b => pdP a ++ pdP b
theorem mem_behind {L : List Prg} {q x : Prg} (h : x ∈ behindP L q) : ∃ y ∈ L, x = thenP y q := by
  obtain ⟨y, hy, e⟩ := List.mem_map.mp (List.mem_filter.mp h).1
  exact ⟨y, hy, e.symm⟩
theorem rests_pd (v : Bool → Bool) (s : Bool) : ∀ (p q : Prg), q ∈ restsP v s p → q ∈ pdP p
  | .st b, q, h => by
    unfold restsP at h
    split at h
    · exact h
    · exact (List.not_mem_nil h).elim
  | .te _, q, h => (List.not_mem_nil h).elim
  | .lp a, q, h => by
    obtain ⟨y, hy, rfl⟩ := mem_behind h
    exact List.mem_map.mpr ⟨y, rests_pd v s a y hy, rfl⟩
  | .th a b, q, h => by
    unfold restsP at h
    rcases List.mem_append.mp h with h | h
    · obtain ⟨y, hy, rfl⟩ := mem_behind h
      exact List.mem_append_left _ (List.mem_map.mpr ⟨y, rests_pd v s a y hy, rfl⟩)
    · split at h
      · exact List.mem_append_right _ (rests_pd v s b q h)
      · exact (List.not_mem_nil h).elim
  | .oo a b, q, h => (List.mem_append.mp h).elim (fun h => List.mem_append_left _ (rests_pd v s a q h)) fun h => List.mem_append_right _ (rests_pd v s b q h)
theorem then_skip (y : Prg) : thenP y skipP = y := by
  unfold thenP
  by_cases h : y = failP
  · subst h; rfl
  · by_cases k : y = skipP
    · subst k; rfl
    · rw [if_neg (by simp [h]), if_neg k, if_pos rfl]
theorem then_cases (x q : Prg) : thenP x q = failP ∨ (x = skipP ∧ thenP x q = q) ∨ (q = skipP ∧ thenP x q = x) ∨ thenP x q = .th x q := by
  unfold thenP
  by_cases h : x = failP ∨ q = failP
  · exact .inl (if_pos h)
  · rw [if_neg h]
    by_cases k : x = skipP
    · exact .inr (.inl ⟨k, if_pos k⟩)
    · rw [if_neg k]
      by_cases l : q = skipP
      · exact .inr (.inr (.inl ⟨l, if_pos l⟩))
      · exact .inr (.inr (.inr (if_neg l)))
theorem pd_shut (v : Bool → Bool) (s : Bool) : ∀ (p q : Prg), q ∈ pdP p → ∀ r ∈ restsP v s q, r ∈ pdP p
  | .st b, q, h, r, k => by rw [List.mem_singleton.mp h] at k; exact (List.not_mem_nil k).elim
  | .te _, q, h, r, k => (List.not_mem_nil h).elim
  | .lp a, q, h, r, k => by
    obtain ⟨x, hx, rfl⟩ := List.mem_map.mp h
    rcases then_cases x (.lp a) with e | ⟨_, e⟩ | ⟨e, _⟩ | e
    · rw [e] at k; exact (List.not_mem_nil k).elim
    · rw [e] at k; exact rests_pd v s _ r k
    · cases e
    · rw [e] at k
      unfold restsP at k
      rcases List.mem_append.mp k with k | k
      · obtain ⟨y, hy, rfl⟩ := mem_behind k
        exact List.mem_map.mpr ⟨y, pd_shut v s a x hx y hy, rfl⟩
      · split at k
        · exact rests_pd v s _ r k
        · exact (List.not_mem_nil k).elim
  | .th a b, q, h, r, k => by
    rcases List.mem_append.mp h with h | h
    · obtain ⟨x, hx, rfl⟩ := List.mem_map.mp h
      rcases then_cases x b with e | ⟨_, e⟩ | ⟨eb, e⟩ | e
      · rw [e] at k; exact (List.not_mem_nil k).elim
      · rw [e] at k; exact List.mem_append_right _ (rests_pd v s _ r k)
      · rw [e] at k
        exact List.mem_append_left _ (List.mem_map.mpr ⟨r, pd_shut v s a x hx r k, by rw [eb, then_skip]⟩)
      · rw [e] at k
        unfold restsP at k
        rcases List.mem_append.mp k with k | k
        · obtain ⟨y, hy, rfl⟩ := mem_behind k
          exact List.mem_append_left _ (List.mem_map.mpr ⟨y, pd_shut v s a x hx y hy, rfl⟩)
        · split at k
          · exact List.mem_append_right _ (rests_pd v s _ r k)
          · exact (List.not_mem_nil k).elim
    · exact List.mem_append_right _ (pd_shut v s b q h r k)
  | .oo a b, q, h, r, k => (List.mem_append.mp h).elim (fun h => List.mem_append_left _ (pd_shut v s a q h r k)) fun h => List.mem_append_right _ (pd_shut v s b q h r k)
theorem then_dep (x q : Prg) : (thenP x q).dep ≤ max x.dep q.dep + 1 := by
  rcases then_cases x q with e | ⟨_, e⟩ | ⟨_, e⟩ | e <;> rw [e]
  · exact Nat.zero_le _
  · omega
  · omega
  · exact Nat.le_refl _
theorem then_low {x q : Prg} (h : x.low) (k : q.low) : (thenP x q).low := by
  rcases then_cases x q with e | ⟨_, e⟩ | ⟨_, e⟩ | e <;> rw [e]
  · exact Nat.zero_le _
  · exact k
  · exact h
  · exact ⟨h, k⟩
theorem pd_ok : ∀ (p : Prg), p.low → ∀ q ∈ pdP p, q.low ∧ q.dep ≤ 2 * p.dep
  | .st b, _, q, h => by rw [List.mem_singleton.mp h]; exact ⟨Nat.zero_le _, Nat.zero_le _⟩
  | .te _, _, q, h => (List.not_mem_nil h).elim
  | .lp a, hl, q, h => by
    obtain ⟨x, hx, rfl⟩ := List.mem_map.mp h
    obtain ⟨h1, h2⟩ := pd_ok a hl x hx
    have := then_dep x (.lp a)
    refine ⟨then_low h1 hl, ?_⟩
    simp only [Prg.dep] at this ⊢
    omega
  | .th a b, hl, q, h => by
    rcases List.mem_append.mp h with h | h
    · obtain ⟨x, hx, rfl⟩ := List.mem_map.mp h
      obtain ⟨h1, h2⟩ := pd_ok a hl.1 x hx
      have := then_dep x b
      refine ⟨then_low h1 hl.2, ?_⟩
      simp only [Prg.dep] at this ⊢
      omega
    · obtain ⟨h1, h2⟩ := pd_ok b hl.2 q h
      refine ⟨h1, ?_⟩
      simp only [Prg.dep]
      omega
  | .oo a b, hl, q, h => by
    rcases List.mem_append.mp h with h | h
    · obtain ⟨h1, h2⟩ := pd_ok a hl.1 q h
      exact ⟨h1, by simp only [Prg.dep]; omega⟩
    · obtain ⟨h1, h2⟩ := pd_ok b hl.2 q h
      exact ⟨h1, by simp only [Prg.dep]; omega⟩
theorem pd_len : ∀ p : Prg, (pdP p).length ≤ p.wt
  | .st _ => by simp [pdP, Prg.wt]
  | .te _ => by simp [pdP, Prg.wt]
  | .lp a => by have := pd_len a; simp [pdP, Prg.wt]; omega
  | .th a b => by have := pd_len a; have := pd_len b; simp [pdP, Prg.wt]; omega
  | .oo a b => by have := pd_len a; have := pd_len b; simp [pdP, Prg.wt]; omega
/-- what is left, in order, each once -/
theorem sort_pps (L : List Prg) : ∃ G : List Prg, PPs G = sortP (PPs L) ∧ (∀ x, x ∈ G ↔ x ∈ L) ∧ G.length = L.length := by
  have pm := sortBy_perm ltP (PPs L)
  have all : ∀ zs : List PV, (∀ z ∈ zs, z ∈ PPs L) → ∃ G : List Prg, PPs G = zs := by
    intro zs
    induction zs with
    | nil => exact fun _ => ⟨[], rfl⟩
    | cons z zs ih =>
      intro h
      obtain ⟨G, e⟩ := ih fun y hy => h y (List.mem_cons_of_mem _ hy)
      obtain ⟨p, _, rfl⟩ := List.mem_map.mp (h z List.mem_cons_self)
      exact ⟨p :: G, by rw [Pu.pps_cons, e]⟩
  obtain ⟨G, e⟩ := all (sortP (PPs L)) fun z hz => pm.mem_iff.mp hz
  have inj : ∀ x y : Prg, x.pv = y.pv → x = y := fun x y h => by
    have q := x.eqv y
    rw [h, pvEq_refl y.pv y.plain] at q
    exact of_decide_eq_true q.symm
  have mm : ∀ (A : List Prg) (x : Prg), x.pv ∈ PPs A ↔ x ∈ A := fun A x => by
    rw [List.mem_map]
    exact ⟨fun ⟨y, hy, e⟩ => inj _ _ e ▸ hy, fun h => ⟨x, h, rfl⟩⟩
  refine ⟨G, e, fun x => ?_, ?_⟩
  · rw [← mm G, ← mm L, e]
    exact pm.mem_iff
  · have h1 : (PPs G).length = (PPs L).length := by rw [e]; exact pm.length_eq
    rw [List.length_map, List.length_map] at h1
    exact h1
noncomputable def dst (L : List Prg) : List Prg := Classical.choose (sort_pps (adds [] L))
theorem dst_pv (L : List Prg) : sortP (PPs (adds [] L)) = PPs (dst L) := (Classical.choose_spec (sort_pps (adds [] L))).1.symm
theorem mem_dst {L : List Prg} {x : Prg} : x ∈ dst L ↔ x ∈ L := by
  rw [show x ∈ dst L ↔ x ∈ adds [] L from (Classical.choose_spec (sort_pps (adds [] L))).2.1 x, mem_adds]
  simp
theorem dst_len (L : List Prg) : (dst L).length ≤ L.length := by
  have h := adds_len (xs := L) (F := [])
  have e : (dst L).length = (adds [] L).length := (Classical.choose_spec (sort_pps (adds [] L))).2.2
  rw [List.length_nil] at h
  omega
theorem rests_len (v : Bool → Bool) (s : Bool) : ∀ p : Prg, (restsP v s p).length ≤ p.wt
  | .st b => by unfold restsP; split <;> simp [Prg.wt]
  | .te _ => by simp [restsP, Prg.wt]
  | .lp a => by
    have := rests_len v s a
    have h := List.length_filter_le (fun x => decide (x ≠ failP)) ((restsP v s a).map fun x => thenP x (.lp a))
    rw [List.length_map] at h
    simp only [restsP, behindP, Prg.wt]
    omega
  | .th a b => by
    have := rests_len v s a
    have := rests_len v s b
    have h := List.length_filter_le (fun x => decide (x ≠ failP)) ((restsP v s a).map fun x => thenP x b)
    rw [List.length_map] at h
    have h2 : (if a.ends v = true then restsP v s b else []).length ≤ b.wt := by
      split
      · assumption
      · exact Nat.zero_le _
    simp only [restsP, behindP, Prg.wt, List.length_append]
    omega
  | .oo a b => by have := rests_len v s a; have := rests_len v s b; simp [restsP, Prg.wt]; omega
/-- all programs behind atoms and steps -/
noncomputable def newsP (ps : List ((Bool → Bool) × Bool)) (p : Prg) : List Prg := ps.flatMap fun c => dst (restsP c.1 c.2 p)
noncomputable def finP (ps : List ((Bool → Bool) × Bool)) : Nat → List Prg → Nat → List Prg
  | 0, F, _ => F
  | m + 1, F, k => match F[k]? with
    | some p => finP ps m (adds F (newsP ps p)) (k + 1)
    | none => F
theorem mem_news {ps : List ((Bool → Bool) × Bool)} {p q : Prg} (h : q ∈ newsP ps p) : ∃ c ∈ ps, q ∈ restsP c.1 c.2 p := by
  obtain ⟨c, hc, hq⟩ := List.mem_flatMap.mp h
  exact ⟨c, hc, mem_dst.mp hq⟩
theorem news_shut {ps : List ((Bool → Bool) × Bool)} {p x q : Prg} (h : x ∈ p :: pdP p) (hq : q ∈ newsP ps x) : q ∈ p :: pdP p := by
  obtain ⟨c, _, hq⟩ := mem_news hq
  rcases List.mem_cons.mp h with rfl | h
  · exact List.mem_cons_of_mem _ (rests_pd _ _ _ _ hq)
  · exact List.mem_cons_of_mem _ (pd_shut _ _ _ _ h _ hq)
theorem adds_pre : ∀ (xs F : List Prg), ∃ X, adds F xs = F ++ X
  | [], F => ⟨[], (List.append_nil F).symm⟩
  | x :: xs, F => by
    rw [adds_cons]
    unfold add1
    split
    · exact adds_pre xs F
    · obtain ⟨X, e⟩ := adds_pre xs (F ++ [x])
      exact ⟨x :: X, by rw [e, List.append_assoc]; rfl⟩
end Pu
set_option Elab.async false
set_option linter.all false
set_option maxRecDepth 100000
set_option maxHeartbeats 8000000
namespace Lk01
open PySem PySem.Spec PyProof.Rows L2 Pu
abbrev prg : Program := PySem.Challenge.pw_guardedways_k05_what_is_left_of_programs
def top (i : Nat) : Stmt := prg.main.body.getD i (.Pass ⟨0, 0, 0, 0⟩)
/-- what the top has written of an exception class -/
structure ExT (K : PySem.W.Frag) (mg : Str → Option Value) (x : Str) (C : Addr) : Prop where
  q : PySem.W.excIn K C [.type "ValueError", .type "Exception", .type "BaseException", .type "object"] "ValueError.__new__" = true
  g : mg x = some (.ref C)
  k : PySem.W.keepIn K (.ref C) = true
  s : PySem.W.subIn K (.ref C) (.type "BaseException") = some true
  t : PySem.W.typeIn K (.ref C) = some (.type "type")
  self : PySem.W.exmOne K (.ref C) (.ref C) = some true
  c : ExcC K C
  v : PySem.W.kitOne K (.ref C) (.type "ValueError") = some true
theorem ExT.raises {X : Cx} {x : Str} {C : Addr} (h : ExT X.K X.mg x C) : ExC X x C := ⟨h.q, h.g, h.k, h.s, h.t⟩
theorem ExT.names {X : Cx} {x : Str} {C : Addr} (h : ExT X.K X.mg x C) (hg : Gl X x) (hd : (x == ("__debug__" : Str)) = false := by decide) : Names X x (.ref C) := ⟨hg, hd, .inl h.g⟩
structure Top (K : PySem.W.Frag) (mg : Str → Option Value) (X_BadProgram : Addr) : Prop where
  b_ValueError : mg "ValueError" = none
  b_all : mg "all" = none
  b_bool : mg "bool" = none
  b_int : mg "int" = none
  b_isinstance : mg "isinstance" = none
  b_len : mg "len" = none
  b_list : mg "list" = none
  b_range : mg "range" = none
  b_repr : mg "repr" = none
  b_sorted : mg "sorted" = none
  b_str : mg "str" = none
  b_tuple : mg "tuple" = none
  c_FAIL : GC K mg "FAIL" (.tup [.str "test", .tup [.str "no"]])
  c_LETTERS : GC K mg "LETTERS" (.str "abcdefghijklmnopqrstuvwxyz")
  c_MOST_NAMES : GC K mg "MOST_NAMES" (.int 5)
  c_MOST_STEPS : GC K mg "MOST_STEPS" (.int 6)
  c_SKIP : GC K mg "SKIP" (.tup [.str "test", .tup [.str "yes"]])
  x_BadProgram : ExT K mg "BadProgram" X_BadProgram
  cf_atoms : ∀ c ∈ (["Scene"] : List Str), ClsF K mg c ["atoms"]
  cf_names : ∀ c ∈ (["Scene"] : List Str), ClsF K mg c ["names"]
  cf_steps : ∀ c ∈ (["Scene"] : List Str), ClsF K mg c ["steps"]
/-! ### _law_draws -/
abbrev s__law_draws : Stmt := top 38
abbrev N__law_draws : List Str := ["script"]
abbrev P__law_draws : List Str := ["script"]
def d__law_draws : Den (List PV) :=
  (dShort (dCons (dLstOf (dArgs qList (dCons (dVar 0) dNil))) (dCons (Den.ret (.int 0)) (dCons (Den.ret (.int 0)) (dCons (Den.ret (.int 1)) dNil)))))
def F__law_draws : FnO := fnDenO 1 d__law_draws
/-! ### _law_draw -/
abbrev s__law_draw : Stmt := top 39
abbrev N__law_draw : List Str := ["draws", "limit", "cell", "value"]
abbrev P__law_draw : List Str := ["draws", "limit"]
def d__law_draw : SDen :=
  (sSeq (sIf (dAnd (dOp qEq (dIxM 0 (Den.ret (.int 2))) (Den.ret (.int 0))) (dOp qLt (dIxM 0 (Den.ret (.int 1))) (dArgs qLen (dCons (dIxM 0 (Den.ret (.int 0))) dNil)))) (sSeq (sSet 2 (dOp qIx (dIxM 0 (Den.ret (.int 0))) (dIxM 0 (Den.ret (.int 1))))) (sSeq (sSetIxM 0 (dAdd (dIxM 0 (Den.ret (.int 1))) (Den.ret (.int 1))) (Den.ret (.int 1))) (sSeq (sIf (dOp qGe (dVar 2) (dOp qPow (Den.ret (.int 10)) (Den.ret (.int 18)))) (sSetIxM 0 (dVar 2) (Den.ret (.int 2))) sNext) (sSetIxM 0 (dOp qMod (dArgs qInt (dCons (dAdd (dAdd (dOp qMul (dIxM 0 (Den.ret (.int 3))) (Den.ret (.int 48271))) (dVar 2)) (Den.ret (.int 13))) dNil)) (Den.ret (.int 2147483647))) (Den.ret (.int 3)))))) sNext) (sSeq (sIf (dOp qGt (dIxM 0 (Den.ret (.int 2))) (Den.ret (.int 0))) (sSeq (sSet 3 (dOp qMod (dArgs qInt (dCons (dIxM 0 (Den.ret (.int 2))) dNil)) (dVar 1))) (sSeq (sSetIxM 0 (dOp qDiv (dIxM 0 (Den.ret (.int 2))) (dVar 1)) (Den.ret (.int 2))) (sRet (dVar 3)))) sNext) (sSeq (sSetIxM 0 (dOp qMod (dArgs qInt (dCons (dAdd (dOp qMul (dIxM 0 (Den.ret (.int 3))) (Den.ret (.int 69621))) (Den.ret (.int 7))) dNil)) (Den.ret (.int 2147483629))) (Den.ret (.int 3))) (sRet (dOp qMod (dArgs qInt (dCons (dOp qDiv (dIxM 0 (Den.ret (.int 3))) (Den.ret (.int 11))) dNil)) (dVar 1))))))
def F__law_draw : FnM := fnDenM 4 d__law_draw
/-! ### _law_scene -/
abbrev s__law_scene : Stmt := top 43
abbrev N__law_scene : List Str := ["draws"]
abbrev P__law_scene : List Str := ["draws"]
def d__law_scene (f_law_draw : FnM) : SDen :=
  (sRet (dTup (dCons (dSl (dTup (dCons (Den.ret (.str "b")) (dCons (Den.ret (.str "c")) dNil))) none (some (dCallM 0 f_law_draw (dCons (Den.ret (.int 3)) dNil)))) (dCons (dSl (dTup (dCons (Den.ret (.str "p")) (dCons (Den.ret (.str "q")) dNil))) none (some (dAdd (Den.ret (.int 1)) (dCallM 0 f_law_draw (dCons (Den.ret (.int 2)) dNil))))) dNil))))
def F__law_scene : FnM := fnDenM 1 (d__law_scene F__law_draw)
/-! ### is_name -/
abbrev s_is_name : Stmt := top 9
abbrev N_is_name : List Str := ["value", "one"]
abbrev P_is_name : List Str := ["value"]
def d_is_name : SDen :=
  (sRet (dAnd (dIsT "str" (dVar 0)) (dAnd (dChain qLt qLe (Den.ret (.int 0)) (dArgs qLen (dCons (dVar 0) dNil)) (Den.ret (.int 12))) (dArgs qAll (dCons (dLstOf (dLc (dSeq (dVar 0)) (gxN 1) (Den.ret (.bl true)) (dOp qIn (dVar 1) (Den.ret (.str "abcdefghijklmnopqrstuvwxyz"))) [1])) dNil)))))
def F_is_name : Fn := fnDen 2 d_is_name
/-! ### is_names -/
abbrev s_is_names : Stmt := top 10
abbrev N_is_names : List Str := ["value", "most", "one"]
abbrev P_is_names : List Str := ["value", "most"]
def d_is_names (fis_name : Fn) : SDen :=
  (sSeq (sIf (dOr (dNot (dIsT "tuple" (dVar 0))) (dOr (dOp qGt (dArgs qLen (dCons (dVar 0) dNil)) (dVar 1)) (dNot (dArgs qAll (dCons (dLstOf (dLc (dSeq (dVar 0)) (gxN 2) (Den.ret (.bl true)) (dCall fis_name [] (dCons (dVar 2) dNil)) [2])) dNil))))) (sRet (Den.ret (.bl false))) sNext) (sRet (dOp qEq (dLstOf (dArgs qList (dCons (dVar 0) dNil))) (dLstOf (dArgs qSorted (dCons (dDicOf (dDc (dSeq (dVar 0)) (gxN 2) (Den.ret (.bl true)) (dVar 2) (Den.ret (.bl true)) [2])) dNil))))))
def F_is_names : Fn := fnDen 3 (d_is_names F_is_name)
/-! ### Scene____init__ -/
abbrev s_Scene____init__ : Stmt := inClass (top 20) 0
abbrev N_Scene____init__ : List Str := ["self", "names", "steps"]
abbrev P_Scene____init__ : List Str := ["self", "names", "steps"]
def d_Scene____init__ (fis_names : Fn) : SDen :=
  (sSeq (sIf (dOr (dNot (dCall fis_names [] (dCons (dVar 1) (dCons (Den.ret (.int 5)) dNil)))) (dNot (dCall fis_names [] (dCons (dVar 2) (dCons (Den.ret (.int 6)) dNil))))) (sRaise "BadProgram") sNext) (sSeq (sSetFld ["Scene"] 0 "names" (dVar 1)) (sSeq (sSetFld ["Scene"] 0 "steps" (dVar 2)) (sSetFld ["Scene"] 0 "atoms" ((dRg (dOp qShl (Den.ret (.int 1)) (dArgs qLen (dCons (dVar 1) dNil)))).bind fun xs => Den.ret (.tup xs))))))
def F_Scene____init__ : FnI := fnDenI 3 "Scene" (d_Scene____init__ F_is_names)
/-! ### _law_test -/
abbrev s__law_test : Stmt := top 41
abbrev N__law_test : List Str := ["draws", "names", "deep", "kind"]
abbrev P__law_test : List Str := ["draws", "names", "deep"]
def d__law_test (f_law_draw : FnM) (f_law_test : FnM) : SDen :=
  (sSeq (sSet 3 (dCallM 0 f_law_draw (dCons (Den.ret (.int 7)) dNil))) (sSeq (sIf (dOr (dOp qEq (dVar 2) (Den.ret (.int 0))) (dOp qLt (dVar 3) (Den.ret (.int 3)))) (sSeq (sIf (dOr (dOp qEq (dVar 3) (Den.ret (.int 0))) (dOp qEq (dArgs qLen (dCons (dVar 1) dNil)) (Den.ret (.int 0)))) (sRet (dOp qIx (dLstOf (dShort (dCons (dTup (dCons (Den.ret (.str "yes")) dNil)) (dCons (dTup (dCons (Den.ret (.str "no")) dNil)) dNil)))) (dCallM 0 f_law_draw (dCons (Den.ret (.int 2)) dNil)))) sNext) (sRet (dTup (dCons (Den.ret (.str "is")) (dCons (dOp qIx (dVar 1) (dCallM 0 f_law_draw (dCons (dArgs qLen (dCons (dVar 1) dNil)) dNil))) dNil))))) sNext) (sSeq (sIf (dOp qEq (dVar 3) (Den.ret (.int 3))) (sRet (dTup (dCons (Den.ret (.str "not")) (dCons (dCallM 0 f_law_test (dCons (dVar 1) (dCons (dOp qSub (dVar 2) (Den.ret (.int 1))) dNil))) dNil)))) sNext) (sRet (dTup (dCons (dOp qIx (dLstOf (dShort (dCons (Den.ret (.str "and")) (dCons (Den.ret (.str "or")) dNil)))) (dOp qMod (dArgs qInt (dCons (dVar 3) dNil)) (Den.ret (.int 2)))) (dCons (dCallM 0 f_law_test (dCons (dVar 1) (dCons (dOp qSub (dVar 2) (Den.ret (.int 1))) dNil))) (dCons (dCallM 0 f_law_test (dCons (dVar 1) (dCons (dOp qSub (dVar 2) (Den.ret (.int 1))) dNil))) dNil))))))))
def F__law_test : Nat → FnM
  | 0 => fun _ _ => none
  | n + 1 => fnDenM 4 (d__law_test F__law_draw (F__law_test n))
/-! ### _law_program -/
abbrev s__law_program : Stmt := top 44
abbrev N__law_program : List Str := ["draws", "scene", "deep", "kind"]
abbrev P__law_program : List Str := ["draws", "scene", "deep"]
def d__law_program (f_law_draw : FnM) (f_law_program : FnM) (f_law_test : FnM) : SDen :=
  (sSeq (sSet 3 (dCallM 0 f_law_draw (dCons (Den.ret (.int 9)) dNil))) (sSeq (sIf (dOr (dOp qEq (dVar 2) (Den.ret (.int 0))) (dOp qLt (dVar 3) (Den.ret (.int 3)))) (sSeq (sIf (dOp qEq (dVar 3) (Den.ret (.int 0))) (sRet (dTup (dCons (Den.ret (.str "test")) (dCons (dCallM 0 f_law_test (dCons (dOp qIx (dVar 1) (Den.ret (.int 0))) (dCons (Den.ret (.int 2)) dNil))) dNil)))) sNext) (sRet (dTup (dCons (Den.ret (.str "step")) (dCons (dOp qIx (dOp qIx (dVar 1) (Den.ret (.int 1))) (dCallM 0 f_law_draw (dCons (dArgs qLen (dCons (dOp qIx (dVar 1) (Den.ret (.int 1))) dNil)) dNil))) dNil))))) sNext) (sSeq (sIf (dOp qLt (dVar 3) (Den.ret (.int 5))) (sRet (dTup (dCons (Den.ret (.str "loop")) (dCons (dCallM 0 f_law_program (dCons (dVar 1) (dCons (dOp qSub (dVar 2) (Den.ret (.int 1))) dNil))) dNil)))) sNext) (sRet (dTup (dCons (dOp qIx (dLstOf (dShort (dCons (Den.ret (.str "then")) (dCons (Den.ret (.str "or")) dNil)))) (dOp qMod (dArgs qInt (dCons (dVar 3) dNil)) (Den.ret (.int 2)))) (dCons (dCallM 0 f_law_program (dCons (dVar 1) (dCons (dOp qSub (dVar 2) (Den.ret (.int 1))) dNil))) (dCons (dCallM 0 f_law_program (dCons (dVar 1) (dCons (dOp qSub (dVar 2) (Den.ret (.int 1))) dNil))) dNil))))))))
def F__law_program : Nat → FnM
  | 0 => fun _ _ => none
  | n + 1 => fnDenM 4 (d__law_program F__law_draw (F__law_program n) (F__law_test 64))
/-! ### _law_same -/
abbrev s__law_same : Stmt := top 40
abbrev N__law_same : List Str := ["actual", "expected", "k"]
abbrev P__law_same : List Str := ["actual", "expected"]
def d__law_same (f_law_same : Fn) : SDen :=
  (sSeq (sIf (dOr (dIsT "tuple" (dVar 1)) (dIsT "list" (dVar 1))) (sSeq (sIf (dOr (dOp qNe (dIsT "tuple" (dVar 1)) (dIsT "tuple" (dVar 0))) (dOp qNe (dIsT "list" (dVar 1)) (dIsT "list" (dVar 0)))) (sRet (Den.ret (.bl false))) sNext) (sSeq (sIf (dOp qNe (dArgs qLen (dCons (dVar 0) dNil)) (dArgs qLen (dCons (dVar 1) dNil))) (sRet (Den.ret (.bl false))) sNext) (sRet (dOp qEq (dArgs qLen (dCons (dLstOf (dLc (dRg (dArgs qLen (dCons (dVar 1) dNil))) (gxN 2) (dNot (dCall f_law_same [] (dCons (dOp qIx (dVar 0) (dVar 2)) (dCons (dOp qIx (dVar 1) (dVar 2)) dNil)))) (dVar 2) [2])) dNil)) (Den.ret (.int 0)))))) sNext) (sSeq (sIf (dIsT "str" (dVar 1)) (sRet (dAnd (dIsT "str" (dVar 0)) (dOp qEq (dVar 0) (dVar 1)))) sNext) (sSeq (sIf (dOp (qIs false) (dVar 1) (Den.ret (.non))) (sRet (dOp (qIs false) (dVar 0) (Den.ret (.non)))) sNext) (sSeq (sIf (dOr (dIsT "bool" (dVar 1)) (dIsT "bool" (dVar 0))) (sRet (dAnd (dIsT "bool" (dVar 1)) (dAnd (dIsT "bool" (dVar 0)) (dOp qEq (dVar 0) (dVar 1))))) sNext) (sRet (dAnd (dIsT "int" (dVar 0)) (dAnd (dIsT "int" (dVar 1)) (dOp qEq (dVar 0) (dVar 1)))))))))
def F__law_same : Nat → Fn
  | 0 => fun _ => none
  | n + 1 => fnDen 3 (d__law_same (F__law_same n))
/-! ### is_test -/
abbrev s_is_test : Stmt := top 11
abbrev N_is_test : List Str := ["value", "deep", "word", "part"]
abbrev P_is_test : List Str := ["value", "deep"]
def d_is_test (fis_name : Fn) (fis_test : Fn) : SDen :=
  (sSeq (sIf (dOr (dOp qEq (dVar 1) (Den.ret (.int 0))) (dOr (dNot (dIsT "tuple" (dVar 0))) (dOp qEq (dArgs qLen (dCons (dVar 0) dNil)) (Den.ret (.int 0))))) (sRet (Den.ret (.bl false))) sNext) (sSeq (sSet 2 (dOp qIx (dVar 0) (Den.ret (.int 0)))) (sSeq (sIf (dOp qIn (dVar 2) (dTup (dCons (Den.ret (.str "yes")) (dCons (Den.ret (.str "no")) dNil)))) (sRet (dOp qEq (dArgs qLen (dCons (dVar 0) dNil)) (Den.ret (.int 1)))) sNext) (sSeq (sIf (dOp qEq (dVar 2) (Den.ret (.str "is"))) (sRet (dAnd (dOp qEq (dArgs qLen (dCons (dVar 0) dNil)) (Den.ret (.int 2))) (dCall fis_name [] (dCons (dOp qIx (dVar 0) (Den.ret (.int 1))) dNil)))) sNext) (sSeq (sIf (dOp qEq (dVar 2) (Den.ret (.str "not"))) (sRet (dAnd (dOp qEq (dArgs qLen (dCons (dVar 0) dNil)) (Den.ret (.int 2))) (dCall fis_test [] (dCons (dOp qIx (dVar 0) (Den.ret (.int 1))) (dCons (dOp qSub (dVar 1) (Den.ret (.int 1))) dNil))))) sNext) (sRet (dAnd (dOp qIn (dVar 2) (dTup (dCons (Den.ret (.str "and")) (dCons (Den.ret (.str "or")) dNil)))) (dAnd (dOp qEq (dArgs qLen (dCons (dVar 0) dNil)) (Den.ret (.int 3))) (dArgs qAll (dCons (dLstOf (dLc (dSeq (dSl (dVar 0) (some (Den.ret (.int 1))) none)) (gxN 3) (Den.ret (.bl true)) (dCall fis_test [] (dCons (dVar 3) (dCons (dOp qSub (dVar 1) (Den.ret (.int 1))) dNil))) [3])) dNil))))))))))
def F_is_test : Nat → Fn
  | 0 => fun _ => none
  | n + 1 => fnDen 4 (d_is_test F_is_name (F_is_test n))
/-! ### is_program -/
abbrev s_is_program : Stmt := top 21
abbrev N_is_program : List Str := ["value", "deep", "word", "part"]
abbrev P_is_program : List Str := ["value", "deep"]
def d_is_program (fis_name : Fn) (fis_test : Fn) (fis_program : Fn) : SDen :=
  (sSeq (sIf (dOr (dOp qEq (dVar 1) (Den.ret (.int 0))) (dOr (dNot (dIsT "tuple" (dVar 0))) (dOp qLt (dArgs qLen (dCons (dVar 0) dNil)) (Den.ret (.int 2))))) (sRet (Den.ret (.bl false))) sNext) (sSeq (sSet 2 (dOp qIx (dVar 0) (Den.ret (.int 0)))) (sSeq (sIf (dOp qEq (dVar 2) (Den.ret (.str "step"))) (sRet (dAnd (dOp qEq (dArgs qLen (dCons (dVar 0) dNil)) (Den.ret (.int 2))) (dCall fis_name [] (dCons (dOp qIx (dVar 0) (Den.ret (.int 1))) dNil)))) sNext) (sSeq (sIf (dOp qEq (dVar 2) (Den.ret (.str "test"))) (sRet (dAnd (dOp qEq (dArgs qLen (dCons (dVar 0) dNil)) (Den.ret (.int 2))) (dCall fis_test [.int 40] (dCons (dOp qIx (dVar 0) (Den.ret (.int 1))) dNil)))) sNext) (sSeq (sIf (dOp qEq (dVar 2) (Den.ret (.str "loop"))) (sRet (dAnd (dOp qEq (dArgs qLen (dCons (dVar 0) dNil)) (Den.ret (.int 2))) (dCall fis_program [] (dCons (dOp qIx (dVar 0) (Den.ret (.int 1))) (dCons (dOp qSub (dVar 1) (Den.ret (.int 1))) dNil))))) sNext) (sRet (dAnd (dOp qIn (dVar 2) (dTup (dCons (Den.ret (.str "then")) (dCons (Den.ret (.str "or")) dNil)))) (dAnd (dOp qEq (dArgs qLen (dCons (dVar 0) dNil)) (Den.ret (.int 3))) (dArgs qAll (dCons (dLstOf (dLc (dSeq (dSl (dVar 0) (some (Den.ret (.int 1))) none)) (gxN 3) (Den.ret (.bl true)) (dCall fis_program [] (dCons (dVar 3) (dCons (dOp qSub (dVar 1) (Den.ret (.int 1))) dNil))) [3])) dNil))))))))))
def F_is_program : Nat → Fn
  | 0 => fun _ => none
  | n + 1 => fnDen 4 (d_is_program F_is_name (F_is_test 64) (F_is_program n))
/-! ### key_of -/
abbrev s_key_of : Stmt := top 22
abbrev N_key_of : List Str := ["value"]
abbrev P_key_of : List Str := ["value"]
def d_key_of : SDen :=
  (sRet (dArgs qRepr (dCons (dVar 0) dNil)))
def F_key_of : Fn := fnDen 1 d_key_of
/-! ### parts_of -/
abbrev s_parts_of : Stmt := top 24
abbrev N_parts_of : List Str := ["program"]
abbrev P_parts_of : List Str := ["program"]
def d_parts_of : SDen :=
  (sRet (dIf (dOp qIn (dOp qIx (dVar 0) (Den.ret (.int 0))) (dTup (dCons (Den.ret (.str "step")) (dCons (Den.ret (.str "test")) dNil)))) (dTup dNil) (dSl (dVar 0) (some (Den.ret (.int 1))) none)))
def F_parts_of : Fn := fnDen 1 d_parts_of
/-! ### within -/
abbrev s_within : Stmt := top 25
abbrev N_within : List Str := ["program", "found", "todo", "here"]
abbrev P_within : List Str := ["program"]
def d_within (fkey_of : Fn) (fparts_of : Fn) : SDen :=
  (sSeq (sSetD 1 (Den.ret [])) (sSeq (sSetM 2 (dShort (dCons (dVar 0) dNil))) (sSeq (sWhile (dOp qGt (dLenM 2) (Den.ret (.int 0))) (sSeq (sSet 3 (dPopM 2)) (sIf (dInM true 1 (dCall fkey_of [] (dCons (dVar 3) dNil))) (sSeq (sSetKM 1 (dVar 3) (dCall fkey_of [] (dCons (dVar 3) dNil))) (sDrop (dExtM 2 (dRevL (dLstOf (dArgs qList (dCons (dCall fparts_of [] (dCons (dVar 3) dNil)) dNil))))))) sNext)) 100000) (sRet (dTupV (dFreezeD 1))))))
def F_within : Fn := fnDen 4 (d_within F_key_of F_parts_of)
/-! ### steps_in -/
abbrev s_steps_in : Stmt := top 26
abbrev N_steps_in : List Str := ["program", "one"]
abbrev P_steps_in : List Str := ["program"]
def d_steps_in (fwithin : Fn) : SDen :=
  (sRet (dArgs qTuple (dCons (dLstOf (dArgs qSorted (dCons (dDicOf (dDc (dSeq (dCall fwithin [] (dCons (dVar 0) dNil))) (gxN 1) (dOp qEq (dOp qIx (dVar 1) (Den.ret (.int 0))) (Den.ret (.str "step"))) (dOp qIx (dVar 1) (Den.ret (.int 1))) (Den.ret (.bl true)) [1])) dNil))) dNil)))
def F_steps_in : Fn := fnDen 2 (d_steps_in F_within)
/-! ### names_in -/
abbrev s_names_in : Stmt := top 12
abbrev N_names_in : List Str := ["test", "found", "part", "name"]
abbrev P_names_in : List Str := ["test"]
def d_names_in (fnames_in : Fn) : SDen :=
  (sSeq (sIf (dOp qEq (dOp qIx (dVar 0) (Den.ret (.int 0))) (Den.ret (.str "is"))) (sRet (dTup (dCons (dOp qIx (dVar 0) (Den.ret (.int 1))) dNil))) sNext) (sSeq (sSetD 1 (Den.ret [])) (sSeq (sFor (dSeq (dSl (dVar 0) (some (Den.ret (.int 1))) none)) (gxN 2) (sDrop (dUpdM 1 (dDicOf (dDc (dSeq (dCall fnames_in [] (dCons (dVar 2) dNil))) (gxN 3) (Den.ret (.bl true)) (dVar 3) (Den.ret (.bl true)) [3]))))) (sRet (dArgs qTuple (dCons (dLstOf (dArgs qSorted (dCons (dFreezeD 1) dNil))) dNil))))))
def F_names_in : Nat → Fn
  | 0 => fun _ => none
  | n + 1 => fnDen 4 (d_names_in (F_names_in n))
/-! ### tests_in -/
abbrev s_tests_in : Stmt := top 27
abbrev N_tests_in : List Str := ["program", "found", "one", "name"]
abbrev P_tests_in : List Str := ["program"]
def d_tests_in (fwithin : Fn) (fnames_in : Fn) : SDen :=
  (sSeq (sSetD 1 (Den.ret [])) (sSeq (sFor (dSeq (dCall fwithin [] (dCons (dVar 0) dNil))) (gxN 2) (sIf (dOp qEq (dOp qIx (dVar 2) (Den.ret (.int 0))) (Den.ret (.str "test"))) (sDrop (dUpdM 1 (dDicOf (dDc (dSeq (dCall fnames_in [] (dCons (dOp qIx (dVar 2) (Den.ret (.int 1))) dNil))) (gxN 3) (Den.ret (.bl true)) (dVar 3) (Den.ret (.bl true)) [3])))) sNext)) (sRet (dArgs qTuple (dCons (dLstOf (dArgs qSorted (dCons (dFreezeD 1) dNil))) dNil)))))
def F_tests_in : Fn := fnDen 4 (d_tests_in F_within (F_names_in 64))
/-! ### fits -/
abbrev s_fits : Stmt := top 28
abbrev N_fits : List Str := ["scene", "program", "name", "step"]
abbrev P_fits : List Str := ["scene", "program"]
def d_fits (fis_program : Fn) (fsteps_in : Fn) (ftests_in : Fn) : SDen :=
  (sSeq (sIf (dNot (dCall fis_program [.int 60] (dCons (dVar 1) dNil))) (sRet (Den.ret (.bl false))) sNext) (sSeq (sIf (dNot (dArgs qAll (dCons (dLstOf (dLc (dSeq (dCall ftests_in [] (dCons (dVar 1) dNil))) (gxN 2) (Den.ret (.bl true)) (dOp qIn (dVar 2) (dFld ["Scene"] "names" (dVar 0))) [2])) dNil))) (sRet (Den.ret (.bl false))) sNext) (sRet (dArgs qAll (dCons (dLstOf (dLc (dSeq (dCall fsteps_in [] (dCons (dVar 1) dNil))) (gxN 3) (Den.ret (.bl true)) (dOp qIn (dVar 3) (dFld ["Scene"] "steps" (dVar 0))) [3])) dNil)))))
def F_fits : Fn := fnDen 4 (d_fits (F_is_program 64) F_steps_in F_tests_in)
/-! ### look_at -/
abbrev s_look_at : Stmt := top 29
abbrev N_look_at : List Str := ["scene", "programs", "program"]
abbrev P_look_at : List Str := ["scene", "programs"]
def d_look_at (ffits : Fn) : SDen :=
  (sFor (dSeq (dVar 1)) (gxN 2) (sIf (dNot (dCall ffits [] (dCons (dVar 0) (dCons (dVar 2) dNil)))) (sRaise "BadProgram") sNext))
def F_look_at : Fn := fnDen 3 (d_look_at F_fits)
/-! ### distinct -/
abbrev s_distinct : Stmt := top 23
abbrev N_distinct : List Str := ["programs", "program"]
abbrev P_distinct : List Str := ["programs"]
def d_distinct (fkey_of : Fn) : SDen :=
  (sRet (dArgs qTuple (dCons (dLstOf (dSortV (dDicOf (dDc (dSeq (dVar 0)) (gxN 1) (Den.ret (.bl true)) (dCall fkey_of [] (dCons (dVar 1) dNil)) (dVar 1) [1])))) dNil)))
def F_distinct : Fn := fnDen 2 (d_distinct F_key_of)
/-! ### then -/
abbrev s_then : Stmt := top 32
abbrev N_then : List Str := ["first", "other"]
abbrev P_then : List Str := ["first", "other"]
def d_then : SDen :=
  (sSeq (sIf (dOr (dOp qEq (dVar 0) (Den.ret (.tup [.str "test", .tup [.str "no"]]))) (dOp qEq (dVar 1) (Den.ret (.tup [.str "test", .tup [.str "no"]])))) (sRet (Den.ret (.tup [.str "test", .tup [.str "no"]]))) sNext) (sSeq (sIf (dOp qEq (dVar 0) (Den.ret (.tup [.str "test", .tup [.str "yes"]]))) (sRet (dVar 1)) sNext) (sRet (dIf (dOp qEq (dVar 1) (Den.ret (.tup [.str "test", .tup [.str "yes"]]))) (dVar 0) (dTup (dCons (Den.ret (.str "then")) (dCons (dVar 0) (dCons (dVar 1) dNil))))))))
def F_then : Fn := fnDen 2 d_then
/-! ### behind -/
abbrev s_behind : Stmt := top 35
abbrev N_behind : List Str := ["programs", "last", "more", "program"]
abbrev P_behind : List Str := ["programs", "last"]
def d_behind (fthen : Fn) : SDen :=
  (sRet (dLstOf (dLc (dSeq (dLstOf (dLc (dSeq (dVar 0)) (gxN 3) (Den.ret (.bl true)) (dCall fthen [] (dCons (dVar 3) (dCons (dVar 1) dNil))) [3]))) (gxN 2) (dOp qNe (dVar 2) (Den.ret (.tup [.str "test", .tup [.str "no"]]))) (dVar 2) [2])))
def F_behind : Fn := fnDen 4 (d_behind F_then)
/-! ### has -/
abbrev s_has : Stmt := top 13
abbrev N_has : List Str := ["atom", "at"]
abbrev P_has : List Str := ["atom", "at"]
def d_has : SDen :=
  (sRet (dOp qEq (dOp qAnd (dOp qShr (dVar 0) (dVar 1)) (Den.ret (.int 1))) (Den.ret (.int 1))))
def F_has : Fn := fnDen 2 d_has
/-! ### holds -/
abbrev s_holds : Stmt := top 14
abbrev N_holds : List Str := ["test", "atom", "names", "word"]
abbrev P_holds : List Str := ["test", "atom", "names"]
def d_holds (fhas : Fn) (fholds : Fn) : SDen :=
  (sSeq (sSet 3 (dOp qIx (dVar 0) (Den.ret (.int 0)))) (sSeq (sIf (dOp qEq (dVar 3) (Den.ret (.str "is"))) (sRet (dCall fhas [] (dCons (dVar 1) (dCons (dIndexT (dVar 2) (dOp qIx (dVar 0) (Den.ret (.int 1)))) dNil)))) sNext) (sSeq (sIf (dOp qEq (dVar 3) (Den.ret (.str "not"))) (sRet (dNot (dCall fholds [] (dCons (dOp qIx (dVar 0) (Den.ret (.int 1))) (dCons (dVar 1) (dCons (dVar 2) dNil)))))) sNext) (sSeq (sIf (dOp qEq (dVar 3) (Den.ret (.str "and"))) (sRet (dAnd (dCall fholds [] (dCons (dOp qIx (dVar 0) (Den.ret (.int 1))) (dCons (dVar 1) (dCons (dVar 2) dNil)))) (dCall fholds [] (dCons (dOp qIx (dVar 0) (Den.ret (.int 2))) (dCons (dVar 1) (dCons (dVar 2) dNil)))))) sNext) (sSeq (sIf (dOp qEq (dVar 3) (Den.ret (.str "or"))) (sRet (dOr (dCall fholds [] (dCons (dOp qIx (dVar 0) (Den.ret (.int 1))) (dCons (dVar 1) (dCons (dVar 2) dNil)))) (dCall fholds [] (dCons (dOp qIx (dVar 0) (Den.ret (.int 2))) (dCons (dVar 1) (dCons (dVar 2) dNil)))))) sNext) (sRet (dOp qEq (dVar 3) (Den.ret (.str "yes")))))))))
def F_holds : Nat → Fn
  | 0 => fun _ => none
  | n + 1 => fnDen 4 (d_holds F_has (F_holds n))
/-! ### may_end -/
abbrev s_may_end : Stmt := top 31
abbrev N_may_end : List Str := ["scene", "program", "atom", "word"]
abbrev P_may_end : List Str := ["scene", "program", "atom"]
def d_may_end (fholds : Fn) (fmay_end : Fn) : SDen :=
  (sSeq (sSet 3 (dOp qIx (dVar 1) (Den.ret (.int 0)))) (sSeq (sIf (dOp qEq (dVar 3) (Den.ret (.str "test"))) (sRet (dCall fholds [] (dCons (dOp qIx (dVar 1) (Den.ret (.int 1))) (dCons (dVar 2) (dCons (dFld ["Scene"] "names" (dVar 0)) dNil))))) sNext) (sSeq (sIf (dOp qEq (dVar 3) (Den.ret (.str "step"))) (sRet (Den.ret (.bl false))) sNext) (sSeq (sIf (dOp qEq (dVar 3) (Den.ret (.str "or"))) (sRet (dOr (dCall fmay_end [] (dCons (dVar 0) (dCons (dOp qIx (dVar 1) (Den.ret (.int 1))) (dCons (dVar 2) dNil)))) (dCall fmay_end [] (dCons (dVar 0) (dCons (dOp qIx (dVar 1) (Den.ret (.int 2))) (dCons (dVar 2) dNil)))))) sNext) (sSeq (sIf (dOp qEq (dVar 3) (Den.ret (.str "then"))) (sRet (dAnd (dCall fmay_end [] (dCons (dVar 0) (dCons (dOp qIx (dVar 1) (Den.ret (.int 1))) (dCons (dVar 2) dNil)))) (dCall fmay_end [] (dCons (dVar 0) (dCons (dOp qIx (dVar 1) (Den.ret (.int 2))) (dCons (dVar 2) dNil)))))) sNext) (sRet (Den.ret (.bl true))))))))
def F_may_end : Nat → Fn
  | 0 => fun _ => none
  | n + 1 => fnDen 4 (d_may_end (F_holds 64) (F_may_end n))
/-! ### rests -/
abbrev s_rests : Stmt := top 34
abbrev N_rests : List Str := ["scene", "program", "atom", "step", "word", "found"]
abbrev P_rests : List Str := ["scene", "program", "atom", "step"]
def d_rests (fbehind : Fn) (fmay_end : Fn) (frests : Fn) : SDen :=
  (sSeq (sSet 4 (dOp qIx (dVar 1) (Den.ret (.int 0)))) (sSeq (sIf (dOp qEq (dVar 4) (Den.ret (.str "step"))) (sRet (dIf (dOp qEq (dOp qIx (dVar 1) (Den.ret (.int 1))) (dVar 3)) (dLstOf (dShort (dCons (Den.ret (.tup [.str "test", .tup [.str "yes"]])) dNil))) (dLstOf (dShort dNil)))) sNext) (sSeq (sIf (dOp qEq (dVar 4) (Den.ret (.str "test"))) (sRet (dLstOf (dShort dNil))) sNext) (sSeq (sIf (dOp qEq (dVar 4) (Den.ret (.str "or"))) (sRet (dLstOf (dCatL (dCall frests [] (dCons (dVar 0) (dCons (dOp qIx (dVar 1) (Den.ret (.int 1))) (dCons (dVar 2) (dCons (dVar 3) dNil))))) (dCall frests [] (dCons (dVar 0) (dCons (dOp qIx (dVar 1) (Den.ret (.int 2))) (dCons (dVar 2) (dCons (dVar 3) dNil)))))))) sNext) (sSeq (sIf (dOp qEq (dVar 4) (Den.ret (.str "loop"))) (sRet (dCall fbehind [] (dCons (dCall frests [] (dCons (dVar 0) (dCons (dOp qIx (dVar 1) (Den.ret (.int 1))) (dCons (dVar 2) (dCons (dVar 3) dNil))))) (dCons (dVar 1) dNil)))) sNext) (sSeq (sSet 5 (dCall fbehind [] (dCons (dCall frests [] (dCons (dVar 0) (dCons (dOp qIx (dVar 1) (Den.ret (.int 1))) (dCons (dVar 2) (dCons (dVar 3) dNil))))) (dCons (dOp qIx (dVar 1) (Den.ret (.int 2))) dNil)))) (sSeq (sIf (dCall fmay_end [] (dCons (dVar 0) (dCons (dOp qIx (dVar 1) (Den.ret (.int 1))) (dCons (dVar 2) dNil)))) (sSet 5 (dLstOf (dCatL (dVar 5) (dCall frests [] (dCons (dVar 0) (dCons (dOp qIx (dVar 1) (Den.ret (.int 2))) (dCons (dVar 2) (dCons (dVar 3) dNil)))))))) sNext) (sRet (dVar 5)))))))))
def F_rests : Nat → Fn
  | 0 => fun _ => none
  | n + 1 => fnDen 6 (d_rests F_behind (F_may_end 64) (F_rests n))
/-! ### all_left -/
abbrev s_all_left : Stmt := top 36
abbrev N_all_left : List Str := ["scene", "program", "found", "todo", "here", "atom", "step", "more"]
abbrev P_all_left : List Str := ["scene", "program"]
def d_all_left (flook_at : Fn) (fkey_of : Fn) (fdistinct : Fn) (frests : Fn) : SDen :=
  (sSeq (sDrop (dCallV flook_at 1 (dCons (dVar 0) (dCons (dVar 1) dNil)))) (sSeq (sSetD 2 (dDisp1 (dCall fkey_of [] (dCons (dVar 1) dNil)) (dVar 1))) (sSeq (sSetM 3 (dShort (dCons (dVar 1) dNil))) (sSeq (sWhile (dOp qGt (dLenM 3) (Den.ret (.int 0))) (sSeq (sSet 4 (dPop0M 3)) (sFor (dSeq (dFld ["Scene"] "atoms" (dVar 0))) (gxN 5) (sFor (dSeq (dFld ["Scene"] "steps" (dVar 0))) (gxN 6) (sFor (dSeq (dCall fdistinct [] (dCons (dCall frests [] (dCons (dVar 0) (dCons (dVar 4) (dCons (dVar 5) (dCons (dVar 6) dNil))))) dNil))) (gxN 7) (sIf (dInM true 2 (dCall fkey_of [] (dCons (dVar 7) dNil))) (sSeq (sSetKM 2 (dVar 7) (dCall fkey_of [] (dCons (dVar 7) dNil))) (sDrop (dAppM 3 (dVar 7)))) sNext))))) 100000) (sRet (dTupV (dFreezeD 2)))))))
def F_all_left : Fn := fnDen 8 (d_all_left F_look_at F_key_of F_distinct (F_rests 64))
/-! ### _law_then -/
abbrev s__law_then : Stmt := top 46
abbrev N__law_then : List Str := ["one", "two", "skip", "fail"]
abbrev P__law_then : List Str := ["one", "two"]
def d__law_then : SDen :=
  (sSeq (sPar 2 3 (dTup (dCons (Den.ret (.str "test")) (dCons (dTup (dCons (Den.ret (.str "yes")) dNil)) dNil))) (dTup (dCons (Den.ret (.str "test")) (dCons (dTup (dCons (Den.ret (.str "no")) dNil)) dNil)))) (sSeq (sIf (dOr (dOp qEq (dVar 0) (dVar 3)) (dOp qEq (dVar 1) (dVar 3))) (sRet (dVar 3)) sNext) (sRet (dIf (dOp qEq (dVar 0) (dVar 2)) (dVar 1) (dIf (dOp qEq (dVar 1) (dVar 2)) (dVar 0) (dTup (dCons (Den.ret (.str "then")) (dCons (dVar 0) (dCons (dVar 1) dNil)))))))))
def F__law_then : Fn := fnDen 4 d__law_then
/-! ### _law_holds -/
abbrev s__law_holds : Stmt := top 42
abbrev N__law_holds : List Str := ["test", "atom", "names", "word", "one", "two"]
abbrev P__law_holds : List Str := ["test", "atom", "names"]
def d__law_holds (f_law_holds : Fn) : SDen :=
  (sSeq (sSet 3 (dOp qIx (dVar 0) (Den.ret (.int 0)))) (sSeq (sIf (dOp qIn (dVar 3) (dTup (dCons (Den.ret (.str "yes")) (dCons (Den.ret (.str "no")) dNil)))) (sRet (dOp qEq (dVar 3) (Den.ret (.str "yes")))) sNext) (sSeq (sIf (dOp qEq (dVar 3) (Den.ret (.str "is"))) (sRet (dOp qEq (dOp qAnd (dOp qShr (dVar 1) (dIndexT (dVar 2) (dOp qIx (dVar 0) (Den.ret (.int 1))))) (Den.ret (.int 1))) (Den.ret (.int 1)))) sNext) (sSeq (sIf (dOp qEq (dVar 3) (Den.ret (.str "not"))) (sRet (dNot (dCall f_law_holds [] (dCons (dOp qIx (dVar 0) (Den.ret (.int 1))) (dCons (dVar 1) (dCons (dVar 2) dNil)))))) sNext) (sSeq (sPar 4 5 (dCall f_law_holds [] (dCons (dOp qIx (dVar 0) (Den.ret (.int 1))) (dCons (dVar 1) (dCons (dVar 2) dNil)))) (dCall f_law_holds [] (dCons (dOp qIx (dVar 0) (Den.ret (.int 2))) (dCons (dVar 1) (dCons (dVar 2) dNil))))) (sRet (dIf (dOp qEq (dVar 3) (Den.ret (.str "and"))) (dAnd (dVar 4) (dVar 5)) (dOr (dVar 4) (dVar 5)))))))))
def F__law_holds : Nat → Fn
  | 0 => fun _ => none
  | n + 1 => fnDen 6 (d__law_holds (F__law_holds n))
/-! ### _law_ends -/
abbrev s__law_ends : Stmt := top 45
abbrev N__law_ends : List Str := ["program", "atom", "names", "word", "one", "two"]
abbrev P__law_ends : List Str := ["program", "atom", "names"]
def d__law_ends (f_law_ends : Fn) (f_law_holds : Fn) : SDen :=
  (sSeq (sSet 3 (dOp qIx (dVar 0) (Den.ret (.int 0)))) (sSeq (sIf (dOp qIn (dVar 3) (dTup (dCons (Den.ret (.str "test")) (dCons (Den.ret (.str "step")) (dCons (Den.ret (.str "loop")) dNil))))) (sRet (dOr (dOp qEq (dVar 3) (Den.ret (.str "loop"))) (dAnd (dOp qEq (dVar 3) (Den.ret (.str "test"))) (dCall f_law_holds [] (dCons (dOp qIx (dVar 0) (Den.ret (.int 1))) (dCons (dVar 1) (dCons (dVar 2) dNil))))))) sNext) (sSeq (sPar 4 5 (dCall f_law_ends [] (dCons (dOp qIx (dVar 0) (Den.ret (.int 1))) (dCons (dVar 1) (dCons (dVar 2) dNil)))) (dCall f_law_ends [] (dCons (dOp qIx (dVar 0) (Den.ret (.int 2))) (dCons (dVar 1) (dCons (dVar 2) dNil))))) (sRet (dIf (dOp qEq (dVar 3) (Den.ret (.str "or"))) (dOr (dVar 4) (dVar 5)) (dAnd (dVar 4) (dVar 5)))))))
def F__law_ends : Nat → Fn
  | 0 => fun _ => none
  | n + 1 => fnDen 6 (d__law_ends (F__law_ends n) (F__law_holds 64))
/-! ### _law_different -/
abbrev s__law_different : Stmt := top 48
abbrev N__law_different : List Str := ["programs", "told", "one"]
abbrev P__law_different : List Str := ["programs"]
def d__law_different : SDen :=
  (sSeq (sSetM 1 (dShort dNil)) (sSeq (sFor (dSeq (dVar 0)) (gxN 2) (sIf (dInL true 1 (dVar 2)) (sDrop (dAppM 1 (dVar 2))) sNext)) (sRet (dArgs qTuple (dCons (dLstOf (dArgs qSortT (dCons (dFreeze 1) dNil))) dNil)))))
def F__law_different : Fn := fnDen 3 d__law_different
/-! ### left_behind -/
abbrev s_left_behind : Stmt := top 33
abbrev N_left_behind : List Str := ["scene", "program", "atom", "step"]
abbrev P_left_behind : List Str := ["scene", "program", "atom", "step"]
def d_left_behind (flook_at : Fn) (fdistinct : Fn) (frests : Fn) : SDen :=
  (sSeq (sDrop (dCallV flook_at 1 (dCons (dVar 0) (dCons (dVar 1) dNil)))) (sRet (dCall fdistinct [] (dCons (dCall frests [] (dCons (dVar 0) (dCons (dVar 1) (dCons (dVar 2) (dCons (dVar 3) dNil))))) dNil))))
def F_left_behind : Fn := fnDen 4 (d_left_behind F_look_at F_distinct (F_rests 64))
/-! ### _law_left -/
abbrev s__law_left : Stmt := top 47
abbrev N__law_left : List Str := ["program", "atom", "step", "names", "word", "last", "told", "one"]
abbrev P__law_left : List Str := ["program", "atom", "step", "names"]
def d__law_left (f_law_then : Fn) (f_law_ends : Fn) (f_law_left : Fn) : SDen :=
  (sSeq (sSet 4 (dOp qIx (dVar 0) (Den.ret (.int 0)))) (sSeq (sIf (dOp qIn (dVar 4) (dTup (dCons (Den.ret (.str "test")) (dCons (Den.ret (.str "step")) dNil)))) (sRet (dIf (dAnd (dOp qEq (dVar 4) (Den.ret (.str "step"))) (dOp qEq (dOp qIx (dVar 0) (Den.ret (.int 1))) (dVar 2))) (dLstOf (dShort (dCons (dTup (dCons (Den.ret (.str "test")) (dCons (dTup (dCons (Den.ret (.str "yes")) dNil)) dNil))) dNil))) (dLstOf (dShort dNil)))) sNext) (sSeq (sIf (dOp qEq (dVar 4) (Den.ret (.str "or"))) (sRet (dLstOf (dCatL (dCall f_law_left [] (dCons (dOp qIx (dVar 0) (Den.ret (.int 1))) (dCons (dVar 1) (dCons (dVar 2) (dCons (dVar 3) dNil))))) (dCall f_law_left [] (dCons (dOp qIx (dVar 0) (Den.ret (.int 2))) (dCons (dVar 1) (dCons (dVar 2) (dCons (dVar 3) dNil)))))))) sNext) (sSeq (sSet 5 (dIf (dOp qEq (dVar 4) (Den.ret (.str "loop"))) (dVar 0) (dOp qIx (dVar 0) (Den.ret (.int 2))))) (sSeq (sSet 6 (dLstOf (dLc (dSeq (dCall f_law_left [] (dCons (dOp qIx (dVar 0) (Den.ret (.int 1))) (dCons (dVar 1) (dCons (dVar 2) (dCons (dVar 3) dNil)))))) (gxN 7) (Den.ret (.bl true)) (dCall f_law_then [] (dCons (dVar 7) (dCons (dVar 5) dNil))) [7]))) (sSeq (sSet 6 (dLstOf (dLc (dSeq (dVar 6)) (gxN 7) (dOp qNe (dVar 7) (dTup (dCons (Den.ret (.str "test")) (dCons (dTup (dCons (Den.ret (.str "no")) dNil)) dNil)))) (dVar 7) [7]))) (sSeq (sIf (dAnd (dOp qEq (dVar 4) (Den.ret (.str "then"))) (dCall f_law_ends [] (dCons (dOp qIx (dVar 0) (Den.ret (.int 1))) (dCons (dVar 1) (dCons (dVar 3) dNil))))) (sSet 6 (dLstOf (dCatL (dVar 6) (dCall f_law_left [] (dCons (dOp qIx (dVar 0) (Den.ret (.int 2))) (dCons (dVar 1) (dCons (dVar 2) (dCons (dVar 3) dNil)))))))) sNext) (sRet (dVar 6)))))))))
def F__law_left : Nat → Fn
  | 0 => fun _ => none
  | n + 1 => fnDen 8 (d__law_left F__law_then (F__law_ends 64) (F__law_left n))
/-! ### law -/
abbrev s_law : Stmt := top 49
abbrev N_law : List Str := ["script", "draws", "turn", "scene", "told", "atoms", "atom", "bad", "program", "other", "step", "every", "at", "which", "e", "one"]
abbrev P_law : List Str := ["script"]
def d_law (f_law_draws : FnO) (f_law_scene : FnM) (fScene____init__ : FnI) (f_law_program : FnM) (f_law_same : Fn) (fall_left : Fn) (fthen : Fn) (f_law_then : Fn) (fmay_end : Fn) (f_law_ends : Fn) (f_law_different : Fn) (fleft_behind : Fn) (f_law_left : Fn) : SDen :=
  (sSeq (sSetM 1 (dCallO f_law_draws (dCons (dVar 0) dNil))) (sSeq (sFor (dRg (Den.ret (.int 5))) (gxN 2) (sSeq (sSet 3 (dCallM 1 f_law_scene dNil)) (sSeq (sSet 4 (dMake "Scene" fScene____init__ (dCons (dOp qIx (dVar 3) (Den.ret (.int 0))) (dCons (dOp qIx (dVar 3) (Den.ret (.int 1))) dNil)))) (sSeq (sPar 8 9 (dCallM 1 f_law_program (dCons (dVar 3) (dCons (Den.ret (.int 4)) dNil))) (dCallM 1 f_law_program (dCons (dVar 3) (dCons (Den.ret (.int 2)) dNil)))) (sSeq (sIf (dNot (dCall f_law_same [] (dCons (dLstOf (dShort (dCons (dCall fthen [] (dCons (dVar 8) (dCons (dVar 9) dNil))) (dCons (dCall fthen [] (dCons (dTup (dCons (Den.ret (.str "test")) (dCons (dTup (dCons (Den.ret (.str "yes")) dNil)) dNil))) (dCons (dVar 9) dNil))) (dCons (dCall fthen [] (dCons (dVar 8) (dCons (dTup (dCons (Den.ret (.str "test")) (dCons (dTup (dCons (Den.ret (.str "no")) dNil)) dNil))) dNil))) dNil))))) (dCons (dLstOf (dShort (dCons (dCall f_law_then [] (dCons (dVar 8) (dCons (dVar 9) dNil))) (dCons (dVar 9) (dCons (dTup (dCons (Den.ret (.str "test")) (dCons (dTup (dCons (Den.ret (.str "no")) dNil)) dNil))) dNil))))) dNil)))) (sRet (Den.ret (.bl false))) sNext) (sSeq (sSet 5 (dLstOf (dRg (dOp qShl (Den.ret (.int 1)) (dArgs qLen (dCons (dOp qIx (dVar 3) (Den.ret (.int 0))) dNil)))))) (sSeq (sFor (dSeq (dVar 5)) (gxN 6) (sSeq (sIf (dNot (dCall f_law_same [] (dCons (dCall fmay_end [] (dCons (dVar 4) (dCons (dVar 8) (dCons (dVar 6) dNil)))) (dCons (dCall f_law_ends [] (dCons (dVar 8) (dCons (dVar 6) (dCons (dOp qIx (dVar 3) (Den.ret (.int 0))) dNil)))) dNil)))) (sRet (Den.ret (.bl false))) sNext) (sFor (dSeq (dOp qIx (dVar 3) (Den.ret (.int 1)))) (gxN 10) (sIf (dNot (dCall f_law_same [] (dCons (dCall fleft_behind [] (dCons (dVar 4) (dCons (dVar 8) (dCons (dVar 6) (dCons (dVar 10) dNil))))) (dCons (dCall f_law_different [] (dCons (dCall f_law_left [] (dCons (dVar 8) (dCons (dVar 6) (dCons (dVar 10) (dCons (dOp qIx (dVar 3) (Den.ret (.int 0))) dNil))))) dNil)) dNil)))) (sRet (Den.ret (.bl false))) sNext)))) (sSeq (sParM 11 12 (dShort (dCons (dVar 8) dNil)) 0) (sSeq (sWhile (dOp qLt (dVar 12) (dLenM 11)) (sSeq (sFor (dSeq (dVar 5)) (gxN 6) (sFor (dSeq (dOp qIx (dVar 3) (Den.ret (.int 1)))) (gxN 10) (sFor (dSeq (dCall f_law_different [] (dCons (dCall f_law_left [] (dCons (dIxM 11 (dVar 12)) (dCons (dVar 6) (dCons (dVar 10) (dCons (dOp qIx (dVar 3) (Den.ret (.int 0))) dNil))))) dNil))) (gxN 15) (sIf (dInL true 11 (dVar 15)) (sDrop (dAppM 11 (dVar 15))) sNext)))) (sSet 12 (dAdd (dVar 12) (Den.ret (.int 1))))) 100000) (sSeq (sIf (dNot (dCall f_law_same [] (dCons (dCall fall_left [] (dCons (dVar 4) (dCons (dVar 8) dNil))) (dCons (dArgs qTuple (dCons (dFreeze 11) dNil)) dNil)))) (sRet (Den.ret (.bl false))) sNext) (sFor (dSeq (dLstOf (dShort (dCons (Den.ret (.non)) (dCons (dTup (dCons (Den.ret (.str "step")) (dCons (Den.ret (.str "r")) dNil))) (dCons (dTup (dCons (Den.ret (.str "loop")) dNil)) (dCons (dTup (dCons (Den.ret (.str "test")) (dCons (dTup (dCons (Den.ret (.str "is")) (dCons (Den.ret (.str "d")) dNil))) dNil))) dNil))))))) (gxN 7) (sFor (dRg (Den.ret (.int 2))) (gxN 13) (sTryIs "BadProgram" 14 (sSeq (sIf (dOp qEq (dVar 13) (Den.ret (.int 0))) (sDrop (dCall fleft_behind [] (dCons (dVar 4) (dCons (dVar 7) (dCons (Den.ret (.int 0)) (dCons (Den.ret (.str "p")) dNil)))))) (sDrop (dCall fall_left [] (dCons (dVar 4) (dCons (dVar 7) dNil))))) (sRet (Den.ret (.bl false))))))))))))))))) (sRet (Den.ret (.bl true)))))
def F_law : Fn := fnDen 16 (d_law F__law_draws F__law_scene F_Scene____init__ (F__law_program 64) (F__law_same 64) F_all_left F_then F__law_then (F_may_end 64) (F__law_ends 64) F__law_different F_left_behind (F__law_left 64))
section
variable {P : Program} {w : World} {K : PySem.W.Frag} {mg : Str → Option Value} {base : Heap} {X_BadProgram : Addr}
/-! ### _law_draws -/
theorem sc__law_draws : FnScope N__law_draws P__law_draws (defScope s__law_draws) := ⟨rfl, rfl, rfl, by decide +kernel, rfl, by decide +kernel, by decide +kernel⟩
theorem b__law_draws (T : Top K mg X_BadProgram)  {κ : Nat}  (f : Addr) (cdv : Value) (A : Around) (outer : List PySem.Env) (s : Shared) (H : Hp) (E : XK) (hr : RoomG κ (A.deeper (envOfC "_law_draws" (defScope s__law_draws) s.heap.objs.size f cdv)))
    (tk : Takes (cxOf (L2.CX P w) P w K mg base N__law_draws "_law_draws" (defScope s__law_draws) f cdv A outer s H E) (fun cls dd _ H' => E cls dd H')) : PO' (cxOf (L2.CX P w) P w K mg base N__law_draws "_law_draws" (defScope s__law_draws) f cdv A outer s H E) (fun cls dd _ H' => E cls dd H') (match defBody s__law_draws with | [.Return (some e) _] => e | _ => .Constant .none 0 ⟨0, 0, 0, 0⟩) d__law_draws :=
  have sc := sc__law_draws
  (po_lst (pax_cons (px_own (po_list rfl T.b_list (pax_cons (px_var (pv 0)) pax_nil))) (pax_cons px_int (pax_cons px_int (pax_cons px_int pax_nil)))))
/-! ### _law_draw -/
theorem sc__law_draw : FnScope N__law_draw P__law_draw (defScope s__law_draw) := ⟨rfl, rfl, rfl, by decide +kernel, rfl, by decide +kernel, by decide +kernel⟩
theorem b__law_draw (T : Top K mg X_BadProgram)  {κ : Nat}  (f : Addr) (cdv : Value) (A : Around) (outer : List PySem.Env) (s : Shared) (H : Hp) (E : XK) (hr : RoomG κ (A.deeper (envOfC "_law_draw" (defScope s__law_draw) s.heap.objs.size f cdv)))
    (tk : Takes (cxOf (L2.CX P w) P w K mg base N__law_draw "_law_draw" (defScope s__law_draw) f cdv A outer s H E) (fun cls dd _ H' => E cls dd H')) : PSsX (cxOf (L2.CX P w) P w K mg base N__law_draw "_law_draw" (defScope s__law_draw) f cdv A outer s H E) (fun cls dd _ H' => E cls dd H') (defBody s__law_draw) d__law_draw :=
  have sc := sc__law_draw
  (psx_cons (psx_if (ptx_w (pwx_and (ptx_eq hr (px_ixM (pv 0) px_int) px_int) (pwx_and1 (ptx_lt (px_ixM (pv 0) px_int) (px_len rfl T.b_len (pax_cons (px_ixM (pv 0) px_int) pax_nil)))))) (psx_cons (psx_set (i := 2) sc.nd rfl (Or.inl rfl) (px_ix (px_ixM (pv 0) px_int) (px_ixM (pv 0) px_int))) (psx_cons (psx_setIxM (pv 0) (px_add (px_ixM (pv 0) px_int) px_int) px_int) (psx_cons (psx_if (ptx_ge (px_var (pv 2)) (px_pow px_int px_int)) (psx_one (psx_setIxM (pv 0) (px_var (pv 2)) px_int)) psx_nil) (psx_one (psx_setIxM (pv 0) (px_mod (px_intOf rfl T.b_int (pax_cons (px_add (px_add (px_mul (px_ixM (pv 0) px_int) px_int) (px_var (pv 2))) px_int) pax_nil)) px_int) px_int))))) psx_nil) (psx_cons (psx_if (ptx_gt (px_ixM (pv 0) px_int) px_int) (psx_cons (psx_set (i := 3) sc.nd rfl (Or.inl rfl) (px_mod (px_intOf rfl T.b_int (pax_cons (px_ixM (pv 0) px_int) pax_nil)) (px_var (pv 1)))) (psx_cons (psx_setIxM (pv 0) (px_div (px_ixM (pv 0) px_int) (px_var (pv 1))) px_int) (psx_one (psx_ret (px_var (pv 3)))))) psx_nil) (psx_cons (psx_setIxM (pv 0) (px_mod (px_intOf rfl T.b_int (pax_cons (px_add (px_mul (px_ixM (pv 0) px_int) px_int) px_int) pax_nil)) px_int) px_int) (psx_one (psx_ret (px_mod (px_intOf rfl T.b_int (pax_cons (px_div (px_ixM (pv 0) px_int) px_int) pax_nil)) (px_var (pv 1))))))))
/-! ### _law_scene -/
theorem sc__law_scene : FnScope N__law_scene P__law_scene (defScope s__law_scene) := ⟨rfl, rfl, rfl, by decide +kernel, rfl, by decide +kernel, by decide +kernel⟩
theorem b__law_scene (T : Top K mg X_BadProgram) {f_law_draw : FnM} {κ : Nat} (D_law_draw : DefMK P w K mg base "_law_draw" P__law_draw κ f_law_draw) (f : Addr) (cdv : Value) (A : Around) (outer : List PySem.Env) (s : Shared) (H : Hp) (E : XK) (hr : RoomG κ (A.deeper (envOfC "_law_scene" (defScope s__law_scene) s.heap.objs.size f cdv)))
    (tk : Takes (cxOf (L2.CX P w) P w K mg base N__law_scene "_law_scene" (defScope s__law_scene) f cdv A outer s H E) (fun cls dd _ H' => E cls dd H')) : PSsX (cxOf (L2.CX P w) P w K mg base N__law_scene "_law_scene" (defScope s__law_scene) f cdv A outer s H E) (fun cls dd _ H' => E cls dd H') (defBody s__law_scene) (d__law_scene f_law_draw) :=
  have sc := sc__law_scene
  (psx_one (psx_ret (px_tup (pax_cons (px_slice (px_tup (pax_cons px_str (pax_cons px_str pax_nil))) pox_none (pox_some (px_callM ⟨D_law_draw⟩ tk hr rfl (pv 0) (pax_cons px_int pax_nil) (len_cons len_nil)))) (pax_cons (px_slice (px_tup (pax_cons px_str (pax_cons px_str pax_nil))) pox_none (pox_some (px_add px_int (px_callM ⟨D_law_draw⟩ tk hr rfl (pv 0) (pax_cons px_int pax_nil) (len_cons len_nil))))) pax_nil)))))
/-! ### is_name -/
theorem sc_is_name : FnScope N_is_name P_is_name (defScope s_is_name) := ⟨rfl, rfl, rfl, by decide +kernel, rfl, by decide +kernel, by decide +kernel⟩
theorem b_is_name (T : Top K mg X_BadProgram)  {κ : Nat}  (f : Addr) (cdv : Value) (A : Around) (outer : List PySem.Env) (s : Shared) (H : Hp) (E : XK) (hr : RoomG κ (A.deeper (envOfC "is_name" (defScope s_is_name) s.heap.objs.size f cdv)))
    (tk : Takes (cxOf (L2.CX P w) P w K mg base N_is_name "is_name" (defScope s_is_name) f cdv A outer s H E) (fun cls dd _ H' => E cls dd H')) : PSsX (cxOf (L2.CX P w) P w K mg base N_is_name "is_name" (defScope s_is_name) f cdv A outer s H E) (fun cls dd _ H' => E cls dd H') (defBody s_is_name) d_is_name :=
  have sc := sc_is_name
  (psx_one (psx_ret (px_and (px_isT rfl T.b_isinstance (px_var (pv 0)) (pe_bltn rfl T.b_str (by decide +kernel) rfl)) (px_and (px_chain op_lt op_le opP_B opP_B px_int (px_len rfl T.b_len (pax_cons (px_var (pv 0)) pax_nil)) px_int) (px_one (px_all rfl rfl T.b_all (pax_cons (px_own (po_lc (own := [("one", 1)]) (t := (gName 1)) (is := [1]) rfl sc.nd (pix_seq (px_var (pv 0))) (blkOk_by (by kernel_rfl)) (fun _ _ _ _ _ => (pgx_name sc.nd (i := 1) rfl (Or.inl rfl))) (by decide) (fun _ _ _ _ _ => ptsx_nil) (fun _ _ _ _ _ => (px_in hr (px_var (pv 1)) (px_glob T.c_LETTERS rfl))))) pax_nil)))))))
/-! ### is_names -/
theorem sc_is_names : FnScope N_is_names P_is_names (defScope s_is_names) := ⟨rfl, rfl, rfl, by decide +kernel, rfl, by decide +kernel, by decide +kernel⟩
theorem b_is_names (T : Top K mg X_BadProgram) {fis_name : Fn} {κ : Nat} (Dis_name : DefK P w K mg base "is_name" P_is_name [] κ fis_name) (f : Addr) (cdv : Value) (A : Around) (outer : List PySem.Env) (s : Shared) (H : Hp) (E : XK) (hr : RoomG κ (A.deeper (envOfC "is_names" (defScope s_is_names) s.heap.objs.size f cdv)))
    (tk : Takes (cxOf (L2.CX P w) P w K mg base N_is_names "is_names" (defScope s_is_names) f cdv A outer s H E) (fun cls dd _ H' => E cls dd H')) : PSsX (cxOf (L2.CX P w) P w K mg base N_is_names "is_names" (defScope s_is_names) f cdv A outer s H E) (fun cls dd _ H' => E cls dd H') (defBody s_is_names) (d_is_names fis_name) :=
  have sc := sc_is_names
  (psx_cons (psx_if (ptx_w (pwx_or (ptx_not (ptx_val (px_isT rfl T.b_isinstance (px_var (pv 0)) (pe_bltn rfl T.b_tuple (by decide +kernel) rfl)))) (pwx_or (ptx_gt (px_len rfl T.b_len (pax_cons (px_var (pv 0)) pax_nil)) (px_var (pv 1))) (pwx_or1 (ptx_not (ptx_val (px_all rfl rfl T.b_all (pax_cons (px_own (po_lc (own := [("one", 2)]) (t := (gName 2)) (is := [2]) rfl sc.nd (pix_seq (px_var (pv 0))) (blkOk_by (by kernel_rfl)) (fun _ _ _ _ _ => (pgx_name sc.nd (i := 2) rfl (Or.inl rfl))) (by decide) (fun _ _ _ _ _ => ptsx_nil) (fun _ _ _ _ _ => (px_call ⟨Dis_name⟩ takes0 hr rfl (pax_cons (px_var (pv 2)) pax_nil) (len_cons len_nil))))) pax_nil)))))))) (psx_one (psx_ret px_bl)) psx_nil) (psx_one (psx_ret (px_eq hr (px_own (po_list rfl T.b_list (pax_cons (px_var (pv 0)) pax_nil))) (px_own (po_sorted rfl rfl T.b_sorted (pax_cons (px_ownD (pd_dc (own := [("one", 2)]) (t := (gName 2)) (is := [2]) rfl sc.nd (pix_seq (px_var (pv 0))) (blkOk_by (by kernel_rfl)) (fun _ _ _ _ _ => (pgx_name sc.nd (i := 2) rfl (Or.inl rfl))) (by decide) (fun _ _ _ _ _ => ptsx_nil) (fun _ _ _ _ _ => (px_var (pv 2))) (fun _ _ _ _ _ => px_bl))) pax_nil)))))))
/-! ### Scene____init__ -/
theorem sc_Scene____init__ : FnScope N_Scene____init__ P_Scene____init__ (defScope s_Scene____init__) := ⟨rfl, rfl, rfl, by decide +kernel, rfl, by decide +kernel, by decide +kernel⟩
theorem b_Scene____init__ (T : Top K mg X_BadProgram) {fis_names : Fn} {κ : Nat} (Dis_names : DefK P w K mg base "is_names" P_is_names [] κ fis_names) (f : Addr) (cdv : Value) (A : Around) (outer : List PySem.Env) (s : Shared) (H : Hp) (E : XK) (hr : RoomG κ (A.deeper (envOfC "Scene.__init__" (defScope s_Scene____init__) s.heap.objs.size f cdv)))
    (tk : Takes (cxOf (L2.CX P w) P w K mg base N_Scene____init__ "Scene.__init__" (defScope s_Scene____init__) f cdv A outer s H E) (fun cls dd _ H' => E cls dd H')) : PSsX (cxOf (L2.CX P w) P w K mg base N_Scene____init__ "Scene.__init__" (defScope s_Scene____init__) f cdv A outer s H E) (fun cls dd _ H' => E cls dd H') (defBody s_Scene____init__) (d_Scene____init__ fis_names) :=
  have sc := sc_Scene____init__
  (psx_cons (psx_if (ptx_w (pwx_or (ptx_not (ptx_val (px_call ⟨Dis_names⟩ tk hr rfl (pax_cons (px_var (pv 1)) (pax_cons (px_glob T.c_MOST_NAMES rfl) pax_nil)) (len_cons (len_cons len_nil))))) (pwx_or1 (ptx_not (ptx_val (px_call ⟨Dis_names⟩ tk hr rfl (pax_cons (px_var (pv 2)) (pax_cons (px_glob T.c_MOST_STEPS rfl) pax_nil)) (len_cons (len_cons len_nil)))))))) (psx_one (psx_raise rfl tk (T.x_BadProgram.raises) rfl)) psx_nil) (psx_cons (psx_setFld T.cf_names (pv 0) (px_var (pv 1))) (psx_cons (psx_setFld T.cf_steps (pv 0) (px_var (pv 2))) (psx_one (psx_setFld T.cf_atoms (pv 0) (px_tupRg rfl rfl T.b_tuple rfl T.b_range (px_shl px_int (px_len rfl T.b_len (pax_cons (px_var (pv 1)) pax_nil)))))))))
/-! ### _law_test -/
theorem sc__law_test : FnScope N__law_test P__law_test (defScope s__law_test) := ⟨rfl, rfl, rfl, by decide +kernel, rfl, by decide +kernel, by decide +kernel⟩
theorem b__law_test (T : Top K mg X_BadProgram) {f_law_draw : FnM} {f_law_test : FnM} {κ : Nat} (D_law_draw : DefMK P w K mg base "_law_draw" P__law_draw κ f_law_draw) (D_law_test : DefMK P w K mg base "_law_test" P__law_test κ f_law_test) (f : Addr) (cdv : Value) (A : Around) (outer : List PySem.Env) (s : Shared) (H : Hp) (E : XK) (hr : RoomG κ (A.deeper (envOfC "_law_test" (defScope s__law_test) s.heap.objs.size f cdv)))
    (tk : Takes (cxOf (L2.CX P w) P w K mg base N__law_test "_law_test" (defScope s__law_test) f cdv A outer s H E) (fun cls dd _ H' => E cls dd H')) : PSsX (cxOf (L2.CX P w) P w K mg base N__law_test "_law_test" (defScope s__law_test) f cdv A outer s H E) (fun cls dd _ H' => E cls dd H') (defBody s__law_test) (d__law_test f_law_draw f_law_test) :=
  have sc := sc__law_test
  (psx_cons (psx_set (i := 3) sc.nd rfl (Or.inl rfl) (px_callM ⟨D_law_draw⟩ tk hr rfl (pv 0) (pax_cons px_int pax_nil) (len_cons len_nil))) (psx_cons (psx_if (ptx_w (pwx_or (ptx_eq hr (px_var (pv 2)) px_int) (pwx_or1 (ptx_lt (px_var (pv 3)) px_int)))) (psx_cons (psx_if (ptx_w (pwx_or (ptx_eq hr (px_var (pv 3)) px_int) (pwx_or1 (ptx_eq hr (px_len rfl T.b_len (pax_cons (px_var (pv 1)) pax_nil)) px_int)))) (psx_one (psx_ret (px_ix (px_own (po_lst (pax_cons (px_tup (pax_cons px_str pax_nil)) (pax_cons (px_tup (pax_cons px_str pax_nil)) pax_nil)))) (px_callM ⟨D_law_draw⟩ tk hr rfl (pv 0) (pax_cons px_int pax_nil) (len_cons len_nil))))) psx_nil) (psx_one (psx_ret (px_tup (pax_cons px_str (pax_cons (px_ix (px_var (pv 1)) (px_callM ⟨D_law_draw⟩ tk hr rfl (pv 0) (pax_cons (px_len rfl T.b_len (pax_cons (px_var (pv 1)) pax_nil)) pax_nil) (len_cons len_nil))) pax_nil)))))) psx_nil) (psx_cons (psx_if (ptx_eq hr (px_var (pv 3)) px_int) (psx_one (psx_ret (px_tup (pax_cons px_str (pax_cons (px_callM ⟨D_law_test⟩ tk hr rfl (pv 0) (pax_cons (px_var (pv 1)) (pax_cons (px_sub (px_var (pv 2)) px_int) pax_nil)) (len_cons (len_cons len_nil))) pax_nil))))) psx_nil) (psx_one (psx_ret (px_tup (pax_cons (px_ix (px_own (po_lst (pax_cons px_str (pax_cons px_str pax_nil)))) (px_mod (px_intOf rfl T.b_int (pax_cons (px_var (pv 3)) pax_nil)) px_int)) (pax_cons (px_callM ⟨D_law_test⟩ tk hr rfl (pv 0) (pax_cons (px_var (pv 1)) (pax_cons (px_sub (px_var (pv 2)) px_int) pax_nil)) (len_cons (len_cons len_nil))) (pax_cons (px_callM ⟨D_law_test⟩ tk hr rfl (pv 0) (pax_cons (px_var (pv 1)) (pax_cons (px_sub (px_var (pv 2)) px_int) pax_nil)) (len_cons (len_cons len_nil))) pax_nil)))))))))
/-! ### _law_program -/
theorem sc__law_program : FnScope N__law_program P__law_program (defScope s__law_program) := ⟨rfl, rfl, rfl, by decide +kernel, rfl, by decide +kernel, by decide +kernel⟩
theorem b__law_program (T : Top K mg X_BadProgram) {f_law_draw : FnM} {f_law_program : FnM} {f_law_test : FnM} {κ : Nat} (D_law_draw : DefMK P w K mg base "_law_draw" P__law_draw κ f_law_draw) (D_law_program : DefMK P w K mg base "_law_program" P__law_program κ f_law_program) (D_law_test : DefMK P w K mg base "_law_test" P__law_test κ f_law_test) (f : Addr) (cdv : Value) (A : Around) (outer : List PySem.Env) (s : Shared) (H : Hp) (E : XK) (hr : RoomG κ (A.deeper (envOfC "_law_program" (defScope s__law_program) s.heap.objs.size f cdv)))
    (tk : Takes (cxOf (L2.CX P w) P w K mg base N__law_program "_law_program" (defScope s__law_program) f cdv A outer s H E) (fun cls dd _ H' => E cls dd H')) : PSsX (cxOf (L2.CX P w) P w K mg base N__law_program "_law_program" (defScope s__law_program) f cdv A outer s H E) (fun cls dd _ H' => E cls dd H') (defBody s__law_program) (d__law_program f_law_draw f_law_program f_law_test) :=
  have sc := sc__law_program
  (psx_cons (psx_set (i := 3) sc.nd rfl (Or.inl rfl) (px_callM ⟨D_law_draw⟩ tk hr rfl (pv 0) (pax_cons px_int pax_nil) (len_cons len_nil))) (psx_cons (psx_if (ptx_w (pwx_or (ptx_eq hr (px_var (pv 2)) px_int) (pwx_or1 (ptx_lt (px_var (pv 3)) px_int)))) (psx_cons (psx_if (ptx_eq hr (px_var (pv 3)) px_int) (psx_one (psx_ret (px_tup (pax_cons px_str (pax_cons (px_callM ⟨D_law_test⟩ tk hr rfl (pv 0) (pax_cons (px_ix (px_var (pv 1)) px_int) (pax_cons px_int pax_nil)) (len_cons (len_cons len_nil))) pax_nil))))) psx_nil) (psx_one (psx_ret (px_tup (pax_cons px_str (pax_cons (px_ix (px_ix (px_var (pv 1)) px_int) (px_callM ⟨D_law_draw⟩ tk hr rfl (pv 0) (pax_cons (px_len rfl T.b_len (pax_cons (px_ix (px_var (pv 1)) px_int) pax_nil)) pax_nil) (len_cons len_nil))) pax_nil)))))) psx_nil) (psx_cons (psx_if (ptx_lt (px_var (pv 3)) px_int) (psx_one (psx_ret (px_tup (pax_cons px_str (pax_cons (px_callM ⟨D_law_program⟩ tk hr rfl (pv 0) (pax_cons (px_var (pv 1)) (pax_cons (px_sub (px_var (pv 2)) px_int) pax_nil)) (len_cons (len_cons len_nil))) pax_nil))))) psx_nil) (psx_one (psx_ret (px_tup (pax_cons (px_ix (px_own (po_lst (pax_cons px_str (pax_cons px_str pax_nil)))) (px_mod (px_intOf rfl T.b_int (pax_cons (px_var (pv 3)) pax_nil)) px_int)) (pax_cons (px_callM ⟨D_law_program⟩ tk hr rfl (pv 0) (pax_cons (px_var (pv 1)) (pax_cons (px_sub (px_var (pv 2)) px_int) pax_nil)) (len_cons (len_cons len_nil))) (pax_cons (px_callM ⟨D_law_program⟩ tk hr rfl (pv 0) (pax_cons (px_var (pv 1)) (pax_cons (px_sub (px_var (pv 2)) px_int) pax_nil)) (len_cons (len_cons len_nil))) pax_nil)))))))))
/-! ### _law_same -/
theorem sc__law_same : FnScope N__law_same P__law_same (defScope s__law_same) := ⟨rfl, rfl, rfl, by decide +kernel, rfl, by decide +kernel, by decide +kernel⟩
theorem b__law_same (T : Top K mg X_BadProgram) {f_law_same : Fn} {κ : Nat} (D_law_same : DefK P w K mg base "_law_same" P__law_same [] κ f_law_same) (f : Addr) (cdv : Value) (A : Around) (outer : List PySem.Env) (s : Shared) (H : Hp) (E : XK) (hr : RoomG κ (A.deeper (envOfC "_law_same" (defScope s__law_same) s.heap.objs.size f cdv)))
    (tk : Takes (cxOf (L2.CX P w) P w K mg base N__law_same "_law_same" (defScope s__law_same) f cdv A outer s H E) (fun cls dd _ H' => E cls dd H')) : PSsX (cxOf (L2.CX P w) P w K mg base N__law_same "_law_same" (defScope s__law_same) f cdv A outer s H E) (fun cls dd _ H' => E cls dd H') (defBody s__law_same) (d__law_same f_law_same) :=
  have sc := sc__law_same
  (psx_cons (psx_if (ptx_w (pwx_or (ptx_val (px_isT rfl T.b_isinstance (px_var (pv 1)) (pe_bltn rfl T.b_tuple (by decide +kernel) rfl))) (pwx_or1 (ptx_val (px_isT rfl T.b_isinstance (px_var (pv 1)) (pe_bltn rfl T.b_list (by decide +kernel) rfl)))))) (psx_cons (psx_if (ptx_w (pwx_or (ptx_ne hr (px_isT rfl T.b_isinstance (px_var (pv 1)) (pe_bltn rfl T.b_tuple (by decide +kernel) rfl)) (px_isT rfl T.b_isinstance (px_var (pv 0)) (pe_bltn rfl T.b_tuple (by decide +kernel) rfl))) (pwx_or1 (ptx_ne hr (px_isT rfl T.b_isinstance (px_var (pv 1)) (pe_bltn rfl T.b_list (by decide +kernel) rfl)) (px_isT rfl T.b_isinstance (px_var (pv 0)) (pe_bltn rfl T.b_list (by decide +kernel) rfl)))))) (psx_one (psx_ret px_bl)) psx_nil) (psx_cons (psx_if (ptx_ne hr (px_len rfl T.b_len (pax_cons (px_var (pv 0)) pax_nil)) (px_len rfl T.b_len (pax_cons (px_var (pv 1)) pax_nil))) (psx_one (psx_ret px_bl)) psx_nil) (psx_one (psx_ret (px_eq hr (px_len rfl T.b_len (pax_cons (px_own (po_lc (own := [("k", 2)]) (t := (gName 2)) (is := [2]) rfl sc.nd (pix_range rfl T.b_range (px_len rfl T.b_len (pax_cons (px_var (pv 1)) pax_nil))) (blkOk_by (by kernel_rfl)) (fun _ _ _ _ _ => (pgx_name sc.nd (i := 2) rfl (Or.inl rfl))) (by decide) (fun _ _ _ _ _ => (ptsx_one (ptx_not (ptx_val (px_call ⟨D_law_same⟩ takes0 hr rfl (pax_cons (px_ix (px_var (pv 0)) (px_var (pv 2))) (pax_cons (px_ix (px_var (pv 1)) (px_var (pv 2))) pax_nil)) (len_cons (len_cons len_nil))))))) (fun _ _ _ _ _ => (px_var (pv 2))))) pax_nil)) px_int))))) psx_nil) (psx_cons (psx_if (ptx_val (px_isT rfl T.b_isinstance (px_var (pv 1)) (pe_bltn rfl T.b_str (by decide +kernel) rfl))) (psx_one (psx_ret (px_and (px_isT rfl T.b_isinstance (px_var (pv 0)) (pe_bltn rfl T.b_str (by decide +kernel) rfl)) (px_one (px_eq hr (px_var (pv 0)) (px_var (pv 1))))))) psx_nil) (psx_cons (psx_if (ptx_is (px_var (pv 1)) px_non) (psx_one (psx_ret (px_is (px_var (pv 0)) px_non))) psx_nil) (psx_cons (psx_if (ptx_w (pwx_or (ptx_val (px_isT rfl T.b_isinstance (px_var (pv 1)) (pe_bltn rfl T.b_bool (by decide +kernel) rfl))) (pwx_or1 (ptx_val (px_isT rfl T.b_isinstance (px_var (pv 0)) (pe_bltn rfl T.b_bool (by decide +kernel) rfl)))))) (psx_one (psx_ret (px_and (px_isT rfl T.b_isinstance (px_var (pv 1)) (pe_bltn rfl T.b_bool (by decide +kernel) rfl)) (px_and (px_isT rfl T.b_isinstance (px_var (pv 0)) (pe_bltn rfl T.b_bool (by decide +kernel) rfl)) (px_one (px_eq hr (px_var (pv 0)) (px_var (pv 1)))))))) psx_nil) (psx_one (psx_ret (px_and (px_isT rfl T.b_isinstance (px_var (pv 0)) (pe_bltn rfl T.b_int (by decide +kernel) rfl)) (px_and (px_isT rfl T.b_isinstance (px_var (pv 1)) (pe_bltn rfl T.b_int (by decide +kernel) rfl)) (px_one (px_eq hr (px_var (pv 0)) (px_var (pv 1))))))))))))
/-! ### is_test -/
theorem sc_is_test : FnScope N_is_test P_is_test (defScope s_is_test) := ⟨rfl, rfl, rfl, by decide +kernel, rfl, by decide +kernel, by decide +kernel⟩
theorem b_is_test (T : Top K mg X_BadProgram) {fis_name : Fn} {fis_test : Fn} {κ : Nat} (Dis_name : DefK P w K mg base "is_name" P_is_name [] κ fis_name) (Dis_test : DefK P w K mg base "is_test" P_is_test [] κ fis_test) (f : Addr) (cdv : Value) (A : Around) (outer : List PySem.Env) (s : Shared) (H : Hp) (E : XK) (hr : RoomG κ (A.deeper (envOfC "is_test" (defScope s_is_test) s.heap.objs.size f cdv)))
    (tk : Takes (cxOf (L2.CX P w) P w K mg base N_is_test "is_test" (defScope s_is_test) f cdv A outer s H E) (fun cls dd _ H' => E cls dd H')) : PSsX (cxOf (L2.CX P w) P w K mg base N_is_test "is_test" (defScope s_is_test) f cdv A outer s H E) (fun cls dd _ H' => E cls dd H') (defBody s_is_test) (d_is_test fis_name fis_test) :=
  have sc := sc_is_test
  (psx_cons (psx_if (ptx_w (pwx_or (ptx_eq hr (px_var (pv 1)) px_int) (pwx_or (ptx_not (ptx_val (px_isT rfl T.b_isinstance (px_var (pv 0)) (pe_bltn rfl T.b_tuple (by decide +kernel) rfl)))) (pwx_or1 (ptx_eq hr (px_len rfl T.b_len (pax_cons (px_var (pv 0)) pax_nil)) px_int))))) (psx_one (psx_ret px_bl)) psx_nil) (psx_cons (psx_set (i := 2) sc.nd rfl (Or.inl rfl) (px_ix (px_var (pv 0)) px_int)) (psx_cons (psx_if (ptx_in hr (px_var (pv 2)) (px_tup (pax_cons px_str (pax_cons px_str pax_nil)))) (psx_one (psx_ret (px_eq hr (px_len rfl T.b_len (pax_cons (px_var (pv 0)) pax_nil)) px_int))) psx_nil) (psx_cons (psx_if (ptx_eq hr (px_var (pv 2)) px_str) (psx_one (psx_ret (px_and (px_eq hr (px_len rfl T.b_len (pax_cons (px_var (pv 0)) pax_nil)) px_int) (px_one (px_call ⟨Dis_name⟩ tk hr rfl (pax_cons (px_ix (px_var (pv 0)) px_int) pax_nil) (len_cons len_nil)))))) psx_nil) (psx_cons (psx_if (ptx_eq hr (px_var (pv 2)) px_str) (psx_one (psx_ret (px_and (px_eq hr (px_len rfl T.b_len (pax_cons (px_var (pv 0)) pax_nil)) px_int) (px_one (px_call ⟨Dis_test⟩ tk hr rfl (pax_cons (px_ix (px_var (pv 0)) px_int) (pax_cons (px_sub (px_var (pv 1)) px_int) pax_nil)) (len_cons (len_cons len_nil))))))) psx_nil) (psx_one (psx_ret (px_and (px_in hr (px_var (pv 2)) (px_tup (pax_cons px_str (pax_cons px_str pax_nil)))) (px_and (px_eq hr (px_len rfl T.b_len (pax_cons (px_var (pv 0)) pax_nil)) px_int) (px_one (px_all rfl rfl T.b_all (pax_cons (px_own (po_lc (own := [("part", 3)]) (t := (gName 3)) (is := [3]) rfl sc.nd (pix_seq (px_slice (px_var (pv 0)) (pox_some px_int) pox_none)) (blkOk_by (by kernel_rfl)) (fun _ _ _ _ _ => (pgx_name sc.nd (i := 3) rfl (Or.inl rfl))) (by decide) (fun _ _ _ _ _ => ptsx_nil) (fun _ _ _ _ _ => (px_call ⟨Dis_test⟩ takes0 hr rfl (pax_cons (px_var (pv 3)) (pax_cons (px_sub (px_var (pv 1)) px_int) pax_nil)) (len_cons (len_cons len_nil)))))) pax_nil))))))))))))
/-! ### is_program -/
theorem sc_is_program : FnScope N_is_program P_is_program (defScope s_is_program) := ⟨rfl, rfl, rfl, by decide +kernel, rfl, by decide +kernel, by decide +kernel⟩
theorem b_is_program (T : Top K mg X_BadProgram) {fis_name : Fn} {fis_test : Fn} {fis_program : Fn} {κ : Nat} (Dis_name : DefK P w K mg base "is_name" P_is_name [] κ fis_name) (Dis_test_1 : DefK P w K mg base "is_test" P_is_test [.int 40] κ fis_test) (Dis_program : DefK P w K mg base "is_program" P_is_program [] κ fis_program) (f : Addr) (cdv : Value) (A : Around) (outer : List PySem.Env) (s : Shared) (H : Hp) (E : XK) (hr : RoomG κ (A.deeper (envOfC "is_program" (defScope s_is_program) s.heap.objs.size f cdv)))
    (tk : Takes (cxOf (L2.CX P w) P w K mg base N_is_program "is_program" (defScope s_is_program) f cdv A outer s H E) (fun cls dd _ H' => E cls dd H')) : PSsX (cxOf (L2.CX P w) P w K mg base N_is_program "is_program" (defScope s_is_program) f cdv A outer s H E) (fun cls dd _ H' => E cls dd H') (defBody s_is_program) (d_is_program fis_name fis_test fis_program) :=
  have sc := sc_is_program
  (psx_cons (psx_if (ptx_w (pwx_or (ptx_eq hr (px_var (pv 1)) px_int) (pwx_or (ptx_not (ptx_val (px_isT rfl T.b_isinstance (px_var (pv 0)) (pe_bltn rfl T.b_tuple (by decide +kernel) rfl)))) (pwx_or1 (ptx_lt (px_len rfl T.b_len (pax_cons (px_var (pv 0)) pax_nil)) px_int))))) (psx_one (psx_ret px_bl)) psx_nil) (psx_cons (psx_set (i := 2) sc.nd rfl (Or.inl rfl) (px_ix (px_var (pv 0)) px_int)) (psx_cons (psx_if (ptx_eq hr (px_var (pv 2)) px_str) (psx_one (psx_ret (px_and (px_eq hr (px_len rfl T.b_len (pax_cons (px_var (pv 0)) pax_nil)) px_int) (px_one (px_call ⟨Dis_name⟩ tk hr rfl (pax_cons (px_ix (px_var (pv 0)) px_int) pax_nil) (len_cons len_nil)))))) psx_nil) (psx_cons (psx_if (ptx_eq hr (px_var (pv 2)) px_str) (psx_one (psx_ret (px_and (px_eq hr (px_len rfl T.b_len (pax_cons (px_var (pv 0)) pax_nil)) px_int) (px_one (px_call ⟨Dis_test_1⟩ tk hr rfl (pax_cons (px_ix (px_var (pv 0)) px_int) pax_nil) (len_cons len_nil)))))) psx_nil) (psx_cons (psx_if (ptx_eq hr (px_var (pv 2)) px_str) (psx_one (psx_ret (px_and (px_eq hr (px_len rfl T.b_len (pax_cons (px_var (pv 0)) pax_nil)) px_int) (px_one (px_call ⟨Dis_program⟩ tk hr rfl (pax_cons (px_ix (px_var (pv 0)) px_int) (pax_cons (px_sub (px_var (pv 1)) px_int) pax_nil)) (len_cons (len_cons len_nil))))))) psx_nil) (psx_one (psx_ret (px_and (px_in hr (px_var (pv 2)) (px_tup (pax_cons px_str (pax_cons px_str pax_nil)))) (px_and (px_eq hr (px_len rfl T.b_len (pax_cons (px_var (pv 0)) pax_nil)) px_int) (px_one (px_all rfl rfl T.b_all (pax_cons (px_own (po_lc (own := [("part", 3)]) (t := (gName 3)) (is := [3]) rfl sc.nd (pix_seq (px_slice (px_var (pv 0)) (pox_some px_int) pox_none)) (blkOk_by (by kernel_rfl)) (fun _ _ _ _ _ => (pgx_name sc.nd (i := 3) rfl (Or.inl rfl))) (by decide) (fun _ _ _ _ _ => ptsx_nil) (fun _ _ _ _ _ => (px_call ⟨Dis_program⟩ takes0 hr rfl (pax_cons (px_var (pv 3)) (pax_cons (px_sub (px_var (pv 1)) px_int) pax_nil)) (len_cons (len_cons len_nil)))))) pax_nil))))))))))))
/-! ### key_of -/
theorem sc_key_of : FnScope N_key_of P_key_of (defScope s_key_of) := ⟨rfl, rfl, rfl, by decide +kernel, rfl, by decide +kernel, by decide +kernel⟩
theorem b_key_of (T : Top K mg X_BadProgram)  {κ : Nat}  (f : Addr) (cdv : Value) (A : Around) (outer : List PySem.Env) (s : Shared) (H : Hp) (E : XK) (hr : RoomG κ (A.deeper (envOfC "key_of" (defScope s_key_of) s.heap.objs.size f cdv)))
    (tk : Takes (cxOf (L2.CX P w) P w K mg base N_key_of "key_of" (defScope s_key_of) f cdv A outer s H E) (fun cls dd _ H' => E cls dd H')) : PSsX (cxOf (L2.CX P w) P w K mg base N_key_of "key_of" (defScope s_key_of) f cdv A outer s H E) (fun cls dd _ H' => E cls dd H') (defBody s_key_of) d_key_of :=
  have sc := sc_key_of
  (psx_one (psx_ret (px_repr hr rfl T.b_repr (pax_cons (px_var (pv 0)) pax_nil))))
/-! ### parts_of -/
theorem sc_parts_of : FnScope N_parts_of P_parts_of (defScope s_parts_of) := ⟨rfl, rfl, rfl, by decide +kernel, rfl, by decide +kernel, by decide +kernel⟩
theorem b_parts_of (T : Top K mg X_BadProgram)  {κ : Nat}  (f : Addr) (cdv : Value) (A : Around) (outer : List PySem.Env) (s : Shared) (H : Hp) (E : XK) (hr : RoomG κ (A.deeper (envOfC "parts_of" (defScope s_parts_of) s.heap.objs.size f cdv)))
    (tk : Takes (cxOf (L2.CX P w) P w K mg base N_parts_of "parts_of" (defScope s_parts_of) f cdv A outer s H E) (fun cls dd _ H' => E cls dd H')) : PSsX (cxOf (L2.CX P w) P w K mg base N_parts_of "parts_of" (defScope s_parts_of) f cdv A outer s H E) (fun cls dd _ H' => E cls dd H') (defBody s_parts_of) d_parts_of :=
  have sc := sc_parts_of
  (psx_one (psx_ret (px_if (ptx_in hr (px_ix (px_var (pv 0)) px_int) (px_tup (pax_cons px_str (pax_cons px_str pax_nil)))) (px_tup pax_nil) (px_slice (px_var (pv 0)) (pox_some px_int) pox_none))))
/-! ### within -/
theorem sc_within : FnScope N_within P_within (defScope s_within) := ⟨rfl, rfl, rfl, by decide +kernel, rfl, by decide +kernel, by decide +kernel⟩
theorem b_within (T : Top K mg X_BadProgram) {fkey_of : Fn} {fparts_of : Fn} {κ : Nat} (Dkey_of : DefK P w K mg base "key_of" P_key_of [] κ fkey_of) (Dparts_of : DefK P w K mg base "parts_of" P_parts_of [] κ fparts_of) (f : Addr) (cdv : Value) (A : Around) (outer : List PySem.Env) (s : Shared) (H : Hp) (E : XK) (hr : RoomG κ (A.deeper (envOfC "within" (defScope s_within) s.heap.objs.size f cdv)))
    (tk : Takes (cxOf (L2.CX P w) P w K mg base N_within "within" (defScope s_within) f cdv A outer s H E) (fun cls dd _ H' => E cls dd H')) : PSsX (cxOf (L2.CX P w) P w K mg base N_within "within" (defScope s_within) f cdv A outer s H E) (fun cls dd _ H' => E cls dd H') (defBody s_within) (d_within fkey_of fparts_of) :=
  have sc := sc_within
  (psx_cons (psx_setD (i := 1) sc.nd rfl (Or.inl rfl) pd_new) (psx_cons (psx_setM (i := 2) sc.nd rfl (Or.inl rfl) (po_lst (pax_cons (px_var (pv 0)) pax_nil))) (psx_cons (psx_while 100000 (passes_of rfl) (ptx_gt (px_lenM rfl T.b_len (pv 2)) px_int) (psx_cons (psx_set (i := 3) sc.nd rfl (Or.inl rfl) (px_popM (pv 2))) (psx_one (psx_if (ptx_notInM hr (px_call ⟨Dkey_of⟩ tk hr rfl (pax_cons (px_var (pv 3)) pax_nil) (len_cons len_nil)) (pv 1)) (psx_cons (psx_setKM hr (pv 1) (px_var (pv 3)) (px_call ⟨Dkey_of⟩ tk hr rfl (pax_cons (px_var (pv 3)) pax_nil) (len_cons len_nil))) (psx_one (psx_expr (px_extM (pv 2) (po_revL (px_own (po_list rfl T.b_list (pax_cons (px_call ⟨Dparts_of⟩ tk hr rfl (pax_cons (px_var (pv 3)) pax_nil) (len_cons len_nil)) pax_nil)))))))) psx_nil)))) (psx_one (psx_ret (px_tupV rfl rfl T.b_tuple (px_freezeD (pv 1))))))))
/-! ### steps_in -/
theorem sc_steps_in : FnScope N_steps_in P_steps_in (defScope s_steps_in) := ⟨rfl, rfl, rfl, by decide +kernel, rfl, by decide +kernel, by decide +kernel⟩
theorem b_steps_in (T : Top K mg X_BadProgram) {fwithin : Fn} {κ : Nat} (Dwithin : DefK P w K mg base "within" P_within [] κ fwithin) (f : Addr) (cdv : Value) (A : Around) (outer : List PySem.Env) (s : Shared) (H : Hp) (E : XK) (hr : RoomG κ (A.deeper (envOfC "steps_in" (defScope s_steps_in) s.heap.objs.size f cdv)))
    (tk : Takes (cxOf (L2.CX P w) P w K mg base N_steps_in "steps_in" (defScope s_steps_in) f cdv A outer s H E) (fun cls dd _ H' => E cls dd H')) : PSsX (cxOf (L2.CX P w) P w K mg base N_steps_in "steps_in" (defScope s_steps_in) f cdv A outer s H E) (fun cls dd _ H' => E cls dd H') (defBody s_steps_in) (d_steps_in fwithin) :=
  have sc := sc_steps_in
  (psx_one (psx_ret (px_tuple rfl T.b_tuple (pax_cons (px_own (po_sorted rfl rfl T.b_sorted (pax_cons (px_ownD (pd_dc (own := [("one", 1)]) (t := (gName 1)) (is := [1]) rfl sc.nd (pix_seq (px_call ⟨Dwithin⟩ tk hr rfl (pax_cons (px_var (pv 0)) pax_nil) (len_cons len_nil))) (blkOk_by (by kernel_rfl)) (fun _ _ _ _ _ => (pgx_name sc.nd (i := 1) rfl (Or.inl rfl))) (by decide) (fun _ _ _ _ _ => (ptsx_one (ptx_eq hr (px_ix (px_var (pv 1)) px_int) px_str))) (fun _ _ _ _ _ => (px_ix (px_var (pv 1)) px_int)) (fun _ _ _ _ _ => px_bl))) pax_nil))) pax_nil))))
/-! ### names_in -/
theorem sc_names_in : FnScope N_names_in P_names_in (defScope s_names_in) := ⟨rfl, rfl, rfl, by decide +kernel, rfl, by decide +kernel, by decide +kernel⟩
theorem b_names_in (T : Top K mg X_BadProgram) {fnames_in : Fn} {κ : Nat} (Dnames_in : DefK P w K mg base "names_in" P_names_in [] κ fnames_in) (f : Addr) (cdv : Value) (A : Around) (outer : List PySem.Env) (s : Shared) (H : Hp) (E : XK) (hr : RoomG κ (A.deeper (envOfC "names_in" (defScope s_names_in) s.heap.objs.size f cdv)))
    (tk : Takes (cxOf (L2.CX P w) P w K mg base N_names_in "names_in" (defScope s_names_in) f cdv A outer s H E) (fun cls dd _ H' => E cls dd H')) : PSsX (cxOf (L2.CX P w) P w K mg base N_names_in "names_in" (defScope s_names_in) f cdv A outer s H E) (fun cls dd _ H' => E cls dd H') (defBody s_names_in) (d_names_in fnames_in) :=
  have sc := sc_names_in
  (psx_cons (psx_if (ptx_eq hr (px_ix (px_var (pv 0)) px_int) px_str) (psx_one (psx_ret (px_tup (pax_cons (px_ix (px_var (pv 0)) px_int) pax_nil)))) psx_nil) (psx_cons (psx_setD (i := 1) sc.nd rfl (Or.inl rfl) pd_new) (psx_cons (psx_for (passes_of rfl) rfl (pix_seq (px_slice (px_var (pv 0)) (pox_some px_int) pox_none)) (pgx_name sc.nd (i := 2) rfl (Or.inl rfl)) (psx_one (psx_expr (px_updM (pv 1) (px_ownD (pd_dc (own := [("name", 3)]) (t := (gName 3)) (is := [3]) rfl sc.nd (pix_seq (px_call ⟨Dnames_in⟩ tk hr rfl (pax_cons (px_var (pv 2)) pax_nil) (len_cons len_nil))) (blkOk_by (by kernel_rfl)) (fun _ _ _ _ _ => (pgx_name sc.nd (i := 3) rfl (Or.inl rfl))) (by decide) (fun _ _ _ _ _ => ptsx_nil) (fun _ _ _ _ _ => (px_var (pv 3))) (fun _ _ _ _ _ => px_bl))))))) (psx_one (psx_ret (px_tuple rfl T.b_tuple (pax_cons (px_own (po_sorted rfl rfl T.b_sorted (pax_cons (px_freezeD (pv 1)) pax_nil))) pax_nil)))))))
/-! ### tests_in -/
theorem sc_tests_in : FnScope N_tests_in P_tests_in (defScope s_tests_in) := ⟨rfl, rfl, rfl, by decide +kernel, rfl, by decide +kernel, by decide +kernel⟩
theorem b_tests_in (T : Top K mg X_BadProgram) {fwithin : Fn} {fnames_in : Fn} {κ : Nat} (Dwithin : DefK P w K mg base "within" P_within [] κ fwithin) (Dnames_in : DefK P w K mg base "names_in" P_names_in [] κ fnames_in) (f : Addr) (cdv : Value) (A : Around) (outer : List PySem.Env) (s : Shared) (H : Hp) (E : XK) (hr : RoomG κ (A.deeper (envOfC "tests_in" (defScope s_tests_in) s.heap.objs.size f cdv)))
    (tk : Takes (cxOf (L2.CX P w) P w K mg base N_tests_in "tests_in" (defScope s_tests_in) f cdv A outer s H E) (fun cls dd _ H' => E cls dd H')) : PSsX (cxOf (L2.CX P w) P w K mg base N_tests_in "tests_in" (defScope s_tests_in) f cdv A outer s H E) (fun cls dd _ H' => E cls dd H') (defBody s_tests_in) (d_tests_in fwithin fnames_in) :=
  have sc := sc_tests_in
  (psx_cons (psx_setD (i := 1) sc.nd rfl (Or.inl rfl) pd_new) (psx_cons (psx_for (passes_of rfl) rfl (pix_seq (px_call ⟨Dwithin⟩ tk hr rfl (pax_cons (px_var (pv 0)) pax_nil) (len_cons len_nil))) (pgx_name sc.nd (i := 2) rfl (Or.inl rfl)) (psx_one (psx_if (ptx_eq hr (px_ix (px_var (pv 2)) px_int) px_str) (psx_one (psx_expr (px_updM (pv 1) (px_ownD (pd_dc (own := [("name", 3)]) (t := (gName 3)) (is := [3]) rfl sc.nd (pix_seq (px_call ⟨Dnames_in⟩ tk hr rfl (pax_cons (px_ix (px_var (pv 2)) px_int) pax_nil) (len_cons len_nil))) (blkOk_by (by kernel_rfl)) (fun _ _ _ _ _ => (pgx_name sc.nd (i := 3) rfl (Or.inl rfl))) (by decide) (fun _ _ _ _ _ => ptsx_nil) (fun _ _ _ _ _ => (px_var (pv 3))) (fun _ _ _ _ _ => px_bl)))))) psx_nil))) (psx_one (psx_ret (px_tuple rfl T.b_tuple (pax_cons (px_own (po_sorted rfl rfl T.b_sorted (pax_cons (px_freezeD (pv 1)) pax_nil))) pax_nil))))))
/-! ### fits -/
theorem sc_fits : FnScope N_fits P_fits (defScope s_fits) := ⟨rfl, rfl, rfl, by decide +kernel, rfl, by decide +kernel, by decide +kernel⟩
theorem b_fits (T : Top K mg X_BadProgram) {fis_program : Fn} {fsteps_in : Fn} {ftests_in : Fn} {κ : Nat} (Dis_program_1 : DefK P w K mg base "is_program" P_is_program [.int 60] κ fis_program) (Dsteps_in : DefK P w K mg base "steps_in" P_steps_in [] κ fsteps_in) (Dtests_in : DefK P w K mg base "tests_in" P_tests_in [] κ ftests_in) (f : Addr) (cdv : Value) (A : Around) (outer : List PySem.Env) (s : Shared) (H : Hp) (E : XK) (hr : RoomG κ (A.deeper (envOfC "fits" (defScope s_fits) s.heap.objs.size f cdv)))
    (tk : Takes (cxOf (L2.CX P w) P w K mg base N_fits "fits" (defScope s_fits) f cdv A outer s H E) (fun cls dd _ H' => E cls dd H')) : PSsX (cxOf (L2.CX P w) P w K mg base N_fits "fits" (defScope s_fits) f cdv A outer s H E) (fun cls dd _ H' => E cls dd H') (defBody s_fits) (d_fits fis_program fsteps_in ftests_in) :=
  have sc := sc_fits
  (psx_cons (psx_if (ptx_not (ptx_val (px_call ⟨Dis_program_1⟩ tk hr rfl (pax_cons (px_var (pv 1)) pax_nil) (len_cons len_nil)))) (psx_one (psx_ret px_bl)) psx_nil) (psx_cons (psx_if (ptx_not (ptx_val (px_all rfl rfl T.b_all (pax_cons (px_own (po_lc (own := [("name", 2)]) (t := (gName 2)) (is := [2]) rfl sc.nd (pix_seq (px_call ⟨Dtests_in⟩ tk hr rfl (pax_cons (px_var (pv 1)) pax_nil) (len_cons len_nil))) (blkOk_by (by kernel_rfl)) (fun _ _ _ _ _ => (pgx_name sc.nd (i := 2) rfl (Or.inl rfl))) (by decide) (fun _ _ _ _ _ => ptsx_nil) (fun _ _ _ _ _ => (px_in hr (px_var (pv 2)) (px_fld T.cf_names (px_var (pv 0))))))) pax_nil)))) (psx_one (psx_ret px_bl)) psx_nil) (psx_one (psx_ret (px_all rfl rfl T.b_all (pax_cons (px_own (po_lc (own := [("step", 3)]) (t := (gName 3)) (is := [3]) rfl sc.nd (pix_seq (px_call ⟨Dsteps_in⟩ tk hr rfl (pax_cons (px_var (pv 1)) pax_nil) (len_cons len_nil))) (blkOk_by (by kernel_rfl)) (fun _ _ _ _ _ => (pgx_name sc.nd (i := 3) rfl (Or.inl rfl))) (by decide) (fun _ _ _ _ _ => ptsx_nil) (fun _ _ _ _ _ => (px_in hr (px_var (pv 3)) (px_fld T.cf_steps (px_var (pv 0))))))) pax_nil))))))
/-! ### look_at -/
theorem sc_look_at : FnScope N_look_at P_look_at (defScope s_look_at) := ⟨rfl, rfl, rfl, by decide +kernel, rfl, by decide +kernel, by decide +kernel⟩
theorem b_look_at (T : Top K mg X_BadProgram) {ffits : Fn} {κ : Nat} (Dfits : DefK P w K mg base "fits" P_fits [] κ ffits) (f : Addr) (cdv : Value) (A : Around) (outer : List PySem.Env) (s : Shared) (H : Hp) (E : XK) (hr : RoomG κ (A.deeper (envOfC "look_at" (defScope s_look_at) s.heap.objs.size f cdv)))
    (tk : Takes (cxOf (L2.CX P w) P w K mg base N_look_at "look_at" (defScope s_look_at) f cdv A outer s H E) (fun cls dd _ H' => E cls dd H')) : PSsX (cxOf (L2.CX P w) P w K mg base N_look_at "look_at" (defScope s_look_at) f cdv A outer s H E) (fun cls dd _ H' => E cls dd H') (defBody s_look_at) (d_look_at ffits) :=
  have sc := sc_look_at
  (psx_one (psx_for (passes_of rfl) rfl (pix_seq (px_var (pv 1))) (pgx_name sc.nd (i := 2) rfl (Or.inl rfl)) (psx_one (psx_if (ptx_not (ptx_val (px_call ⟨Dfits⟩ tk hr rfl (pax_cons (px_var (pv 0)) (pax_cons (px_var (pv 2)) pax_nil)) (len_cons (len_cons len_nil))))) (psx_one (psx_raise rfl tk (T.x_BadProgram.raises) rfl)) psx_nil))))
/-! ### distinct -/
theorem sc_distinct : FnScope N_distinct P_distinct (defScope s_distinct) := ⟨rfl, rfl, rfl, by decide +kernel, rfl, by decide +kernel, by decide +kernel⟩
theorem b_distinct (T : Top K mg X_BadProgram) {fkey_of : Fn} {κ : Nat} (Dkey_of : DefK P w K mg base "key_of" P_key_of [] κ fkey_of) (f : Addr) (cdv : Value) (A : Around) (outer : List PySem.Env) (s : Shared) (H : Hp) (E : XK) (hr : RoomG κ (A.deeper (envOfC "distinct" (defScope s_distinct) s.heap.objs.size f cdv)))
    (tk : Takes (cxOf (L2.CX P w) P w K mg base N_distinct "distinct" (defScope s_distinct) f cdv A outer s H E) (fun cls dd _ H' => E cls dd H')) : PSsX (cxOf (L2.CX P w) P w K mg base N_distinct "distinct" (defScope s_distinct) f cdv A outer s H E) (fun cls dd _ H' => E cls dd H') (defBody s_distinct) (d_distinct fkey_of) :=
  have sc := sc_distinct
  (psx_one (psx_ret (px_tuple rfl T.b_tuple (pax_cons (px_own (po_sortV hr rfl rfl T.b_sorted (px_ownD (pd_dc (own := [("program", 1)]) (t := (gName 1)) (is := [1]) rfl sc.nd (pix_seq (px_var (pv 0))) (blkOk_by (by kernel_rfl)) (fun _ _ _ _ _ => (pgx_name sc.nd (i := 1) rfl (Or.inl rfl))) (by decide) (fun _ _ _ _ _ => ptsx_nil) (fun _ _ _ _ _ => (px_call ⟨Dkey_of⟩ takes0 hr rfl (pax_cons (px_var (pv 1)) pax_nil) (len_cons len_nil))) (fun _ _ _ _ _ => (px_var (pv 1))))))) pax_nil))))
/-! ### then -/
theorem sc_then : FnScope N_then P_then (defScope s_then) := ⟨rfl, rfl, rfl, by decide +kernel, rfl, by decide +kernel, by decide +kernel⟩
theorem b_then (T : Top K mg X_BadProgram)  {κ : Nat}  (f : Addr) (cdv : Value) (A : Around) (outer : List PySem.Env) (s : Shared) (H : Hp) (E : XK) (hr : RoomG κ (A.deeper (envOfC "then" (defScope s_then) s.heap.objs.size f cdv)))
    (tk : Takes (cxOf (L2.CX P w) P w K mg base N_then "then" (defScope s_then) f cdv A outer s H E) (fun cls dd _ H' => E cls dd H')) : PSsX (cxOf (L2.CX P w) P w K mg base N_then "then" (defScope s_then) f cdv A outer s H E) (fun cls dd _ H' => E cls dd H') (defBody s_then) d_then :=
  have sc := sc_then
  (psx_cons (psx_if (ptx_w (pwx_or (ptx_eq hr (px_var (pv 0)) (px_glob T.c_FAIL rfl)) (pwx_or1 (ptx_eq hr (px_var (pv 1)) (px_glob T.c_FAIL rfl))))) (psx_one (psx_ret (px_glob T.c_FAIL rfl))) psx_nil) (psx_cons (psx_if (ptx_eq hr (px_var (pv 0)) (px_glob T.c_SKIP rfl)) (psx_one (psx_ret (px_var (pv 1)))) psx_nil) (psx_one (psx_ret (px_if (ptx_eq hr (px_var (pv 1)) (px_glob T.c_SKIP rfl)) (px_var (pv 0)) (px_tup (pax_cons px_str (pax_cons (px_var (pv 0)) (pax_cons (px_var (pv 1)) pax_nil)))))))))
/-! ### behind -/
theorem sc_behind : FnScope N_behind P_behind (defScope s_behind) := ⟨rfl, rfl, rfl, by decide +kernel, rfl, by decide +kernel, by decide +kernel⟩
theorem b_behind (T : Top K mg X_BadProgram) {fthen : Fn} {κ : Nat} (Dthen : DefK P w K mg base "then" P_then [] κ fthen) (f : Addr) (cdv : Value) (A : Around) (outer : List PySem.Env) (s : Shared) (H : Hp) (E : XK) (hr : RoomG κ (A.deeper (envOfC "behind" (defScope s_behind) s.heap.objs.size f cdv)))
    (tk : Takes (cxOf (L2.CX P w) P w K mg base N_behind "behind" (defScope s_behind) f cdv A outer s H E) (fun cls dd _ H' => E cls dd H')) : PSsX (cxOf (L2.CX P w) P w K mg base N_behind "behind" (defScope s_behind) f cdv A outer s H E) (fun cls dd _ H' => E cls dd H') (defBody s_behind) (d_behind fthen) :=
  have sc := sc_behind
  (psx_one (psx_ret (px_own (po_lc (own := [("more", 2)]) (t := (gName 2)) (is := [2]) rfl sc.nd (pix_seq (px_own (po_lc (own := [("program", 3)]) (t := (gName 3)) (is := [3]) rfl sc.nd (pix_seq (px_var (pv 0))) (blkOk_by (by kernel_rfl)) (fun _ _ _ _ _ => (pgx_name sc.nd (i := 3) rfl (Or.inl rfl))) (by decide) (fun _ _ _ _ _ => ptsx_nil) (fun _ _ _ _ _ => (px_call ⟨Dthen⟩ takes0 hr rfl (pax_cons (px_var (pv 3)) (pax_cons (px_var (pv 1)) pax_nil)) (len_cons (len_cons len_nil))))))) (blkOk_by (by kernel_rfl)) (fun _ _ _ _ _ => (pgx_name sc.nd (i := 2) rfl (Or.inl rfl))) (by decide) (fun _ _ _ _ _ => (ptsx_one (ptx_ne hr (px_var (pv 2)) (px_glob T.c_FAIL rfl)))) (fun _ _ _ _ _ => (px_var (pv 2)))))))
/-! ### has -/
theorem sc_has : FnScope N_has P_has (defScope s_has) := ⟨rfl, rfl, rfl, by decide +kernel, rfl, by decide +kernel, by decide +kernel⟩
theorem b_has (T : Top K mg X_BadProgram)  {κ : Nat}  (f : Addr) (cdv : Value) (A : Around) (outer : List PySem.Env) (s : Shared) (H : Hp) (E : XK) (hr : RoomG κ (A.deeper (envOfC "has" (defScope s_has) s.heap.objs.size f cdv)))
    (tk : Takes (cxOf (L2.CX P w) P w K mg base N_has "has" (defScope s_has) f cdv A outer s H E) (fun cls dd _ H' => E cls dd H')) : PSsX (cxOf (L2.CX P w) P w K mg base N_has "has" (defScope s_has) f cdv A outer s H E) (fun cls dd _ H' => E cls dd H') (defBody s_has) d_has :=
  have sc := sc_has
  (psx_one (psx_ret (px_eq hr (px_band (px_shr (px_var (pv 0)) (px_var (pv 1))) px_int) px_int)))
/-! ### holds -/
theorem sc_holds : FnScope N_holds P_holds (defScope s_holds) := ⟨rfl, rfl, rfl, by decide +kernel, rfl, by decide +kernel, by decide +kernel⟩
theorem b_holds (T : Top K mg X_BadProgram) {fhas : Fn} {fholds : Fn} {κ : Nat} (Dhas : DefK P w K mg base "has" P_has [] κ fhas) (Dholds : DefK P w K mg base "holds" P_holds [] κ fholds) (f : Addr) (cdv : Value) (A : Around) (outer : List PySem.Env) (s : Shared) (H : Hp) (E : XK) (hr : RoomG κ (A.deeper (envOfC "holds" (defScope s_holds) s.heap.objs.size f cdv)))
    (tk : Takes (cxOf (L2.CX P w) P w K mg base N_holds "holds" (defScope s_holds) f cdv A outer s H E) (fun cls dd _ H' => E cls dd H')) : PSsX (cxOf (L2.CX P w) P w K mg base N_holds "holds" (defScope s_holds) f cdv A outer s H E) (fun cls dd _ H' => E cls dd H') (defBody s_holds) (d_holds fhas fholds) :=
  have sc := sc_holds
  (psx_cons (psx_set (i := 3) sc.nd rfl (Or.inl rfl) (px_ix (px_var (pv 0)) px_int)) (psx_cons (psx_if (ptx_eq hr (px_var (pv 3)) px_str) (psx_one (psx_ret (px_call ⟨Dhas⟩ tk hr rfl (pax_cons (px_var (pv 1)) (pax_cons (px_indexT hr (px_var (pv 2)) (px_ix (px_var (pv 0)) px_int)) pax_nil)) (len_cons (len_cons len_nil))))) psx_nil) (psx_cons (psx_if (ptx_eq hr (px_var (pv 3)) px_str) (psx_one (psx_ret (px_not (px_call ⟨Dholds⟩ tk hr rfl (pax_cons (px_ix (px_var (pv 0)) px_int) (pax_cons (px_var (pv 1)) (pax_cons (px_var (pv 2)) pax_nil))) (len_cons (len_cons (len_cons len_nil))))))) psx_nil) (psx_cons (psx_if (ptx_eq hr (px_var (pv 3)) px_str) (psx_one (psx_ret (px_and (px_call ⟨Dholds⟩ tk hr rfl (pax_cons (px_ix (px_var (pv 0)) px_int) (pax_cons (px_var (pv 1)) (pax_cons (px_var (pv 2)) pax_nil))) (len_cons (len_cons (len_cons len_nil)))) (px_one (px_call ⟨Dholds⟩ tk hr rfl (pax_cons (px_ix (px_var (pv 0)) px_int) (pax_cons (px_var (pv 1)) (pax_cons (px_var (pv 2)) pax_nil))) (len_cons (len_cons (len_cons len_nil)))))))) psx_nil) (psx_cons (psx_if (ptx_eq hr (px_var (pv 3)) px_str) (psx_one (psx_ret (px_or (px_call ⟨Dholds⟩ tk hr rfl (pax_cons (px_ix (px_var (pv 0)) px_int) (pax_cons (px_var (pv 1)) (pax_cons (px_var (pv 2)) pax_nil))) (len_cons (len_cons (len_cons len_nil)))) (px_one (px_call ⟨Dholds⟩ tk hr rfl (pax_cons (px_ix (px_var (pv 0)) px_int) (pax_cons (px_var (pv 1)) (pax_cons (px_var (pv 2)) pax_nil))) (len_cons (len_cons (len_cons len_nil)))))))) psx_nil) (psx_one (psx_ret (px_eq hr (px_var (pv 3)) px_str))))))))
/-! ### may_end -/
theorem sc_may_end : FnScope N_may_end P_may_end (defScope s_may_end) := ⟨rfl, rfl, rfl, by decide +kernel, rfl, by decide +kernel, by decide +kernel⟩
theorem b_may_end (T : Top K mg X_BadProgram) {fholds : Fn} {fmay_end : Fn} {κ : Nat} (Dholds : DefK P w K mg base "holds" P_holds [] κ fholds) (Dmay_end : DefK P w K mg base "may_end" P_may_end [] κ fmay_end) (f : Addr) (cdv : Value) (A : Around) (outer : List PySem.Env) (s : Shared) (H : Hp) (E : XK) (hr : RoomG κ (A.deeper (envOfC "may_end" (defScope s_may_end) s.heap.objs.size f cdv)))
    (tk : Takes (cxOf (L2.CX P w) P w K mg base N_may_end "may_end" (defScope s_may_end) f cdv A outer s H E) (fun cls dd _ H' => E cls dd H')) : PSsX (cxOf (L2.CX P w) P w K mg base N_may_end "may_end" (defScope s_may_end) f cdv A outer s H E) (fun cls dd _ H' => E cls dd H') (defBody s_may_end) (d_may_end fholds fmay_end) :=
  have sc := sc_may_end
  (psx_cons (psx_set (i := 3) sc.nd rfl (Or.inl rfl) (px_ix (px_var (pv 1)) px_int)) (psx_cons (psx_if (ptx_eq hr (px_var (pv 3)) px_str) (psx_one (psx_ret (px_call ⟨Dholds⟩ tk hr rfl (pax_cons (px_ix (px_var (pv 1)) px_int) (pax_cons (px_var (pv 2)) (pax_cons (px_fld T.cf_names (px_var (pv 0))) pax_nil))) (len_cons (len_cons (len_cons len_nil)))))) psx_nil) (psx_cons (psx_if (ptx_eq hr (px_var (pv 3)) px_str) (psx_one (psx_ret px_bl)) psx_nil) (psx_cons (psx_if (ptx_eq hr (px_var (pv 3)) px_str) (psx_one (psx_ret (px_or (px_call ⟨Dmay_end⟩ tk hr rfl (pax_cons (px_var (pv 0)) (pax_cons (px_ix (px_var (pv 1)) px_int) (pax_cons (px_var (pv 2)) pax_nil))) (len_cons (len_cons (len_cons len_nil)))) (px_one (px_call ⟨Dmay_end⟩ tk hr rfl (pax_cons (px_var (pv 0)) (pax_cons (px_ix (px_var (pv 1)) px_int) (pax_cons (px_var (pv 2)) pax_nil))) (len_cons (len_cons (len_cons len_nil)))))))) psx_nil) (psx_cons (psx_if (ptx_eq hr (px_var (pv 3)) px_str) (psx_one (psx_ret (px_and (px_call ⟨Dmay_end⟩ tk hr rfl (pax_cons (px_var (pv 0)) (pax_cons (px_ix (px_var (pv 1)) px_int) (pax_cons (px_var (pv 2)) pax_nil))) (len_cons (len_cons (len_cons len_nil)))) (px_one (px_call ⟨Dmay_end⟩ tk hr rfl (pax_cons (px_var (pv 0)) (pax_cons (px_ix (px_var (pv 1)) px_int) (pax_cons (px_var (pv 2)) pax_nil))) (len_cons (len_cons (len_cons len_nil)))))))) psx_nil) (psx_one (psx_ret px_bl)))))))
/-! ### rests -/
theorem sc_rests : FnScope N_rests P_rests (defScope s_rests) := ⟨rfl, rfl, rfl, by decide +kernel, rfl, by decide +kernel, by decide +kernel⟩
theorem b_rests (T : Top K mg X_BadProgram) {fbehind : Fn} {fmay_end : Fn} {frests : Fn} {κ : Nat} (Dbehind : DefK P w K mg base "behind" P_behind [] κ fbehind) (Dmay_end : DefK P w K mg base "may_end" P_may_end [] κ fmay_end) (Drests : DefK P w K mg base "rests" P_rests [] κ frests) (f : Addr) (cdv : Value) (A : Around) (outer : List PySem.Env) (s : Shared) (H : Hp) (E : XK) (hr : RoomG κ (A.deeper (envOfC "rests" (defScope s_rests) s.heap.objs.size f cdv)))
    (tk : Takes (cxOf (L2.CX P w) P w K mg base N_rests "rests" (defScope s_rests) f cdv A outer s H E) (fun cls dd _ H' => E cls dd H')) : PSsX (cxOf (L2.CX P w) P w K mg base N_rests "rests" (defScope s_rests) f cdv A outer s H E) (fun cls dd _ H' => E cls dd H') (defBody s_rests) (d_rests fbehind fmay_end frests) :=
  have sc := sc_rests
  (psx_cons (psx_set (i := 4) sc.nd rfl (Or.inl rfl) (px_ix (px_var (pv 1)) px_int)) (psx_cons (psx_if (ptx_eq hr (px_var (pv 4)) px_str) (psx_one (psx_ret (px_if (ptx_eq hr (px_ix (px_var (pv 1)) px_int) (px_var (pv 3))) (px_own (po_lst (pax_cons (px_glob T.c_SKIP rfl) pax_nil))) (px_own (po_lst pax_nil))))) psx_nil) (psx_cons (psx_if (ptx_eq hr (px_var (pv 4)) px_str) (psx_one (psx_ret (px_own (po_lst pax_nil)))) psx_nil) (psx_cons (psx_if (ptx_eq hr (px_var (pv 4)) px_str) (psx_one (psx_ret (px_own (po_catL (px_call ⟨Drests⟩ tk hr rfl (pax_cons (px_var (pv 0)) (pax_cons (px_ix (px_var (pv 1)) px_int) (pax_cons (px_var (pv 2)) (pax_cons (px_var (pv 3)) pax_nil)))) (len_cons (len_cons (len_cons (len_cons len_nil))))) (px_call ⟨Drests⟩ tk hr rfl (pax_cons (px_var (pv 0)) (pax_cons (px_ix (px_var (pv 1)) px_int) (pax_cons (px_var (pv 2)) (pax_cons (px_var (pv 3)) pax_nil)))) (len_cons (len_cons (len_cons (len_cons len_nil))))))))) psx_nil) (psx_cons (psx_if (ptx_eq hr (px_var (pv 4)) px_str) (psx_one (psx_ret (px_call ⟨Dbehind⟩ tk hr rfl (pax_cons (px_call ⟨Drests⟩ tk hr rfl (pax_cons (px_var (pv 0)) (pax_cons (px_ix (px_var (pv 1)) px_int) (pax_cons (px_var (pv 2)) (pax_cons (px_var (pv 3)) pax_nil)))) (len_cons (len_cons (len_cons (len_cons len_nil))))) (pax_cons (px_var (pv 1)) pax_nil)) (len_cons (len_cons len_nil))))) psx_nil) (psx_cons (psx_set (i := 5) sc.nd rfl (Or.inl rfl) (px_call ⟨Dbehind⟩ tk hr rfl (pax_cons (px_call ⟨Drests⟩ tk hr rfl (pax_cons (px_var (pv 0)) (pax_cons (px_ix (px_var (pv 1)) px_int) (pax_cons (px_var (pv 2)) (pax_cons (px_var (pv 3)) pax_nil)))) (len_cons (len_cons (len_cons (len_cons len_nil))))) (pax_cons (px_ix (px_var (pv 1)) px_int) pax_nil)) (len_cons (len_cons len_nil)))) (psx_cons (psx_if (ptx_val (px_call ⟨Dmay_end⟩ tk hr rfl (pax_cons (px_var (pv 0)) (pax_cons (px_ix (px_var (pv 1)) px_int) (pax_cons (px_var (pv 2)) pax_nil))) (len_cons (len_cons (len_cons len_nil))))) (psx_one (psx_set (i := 5) sc.nd rfl (Or.inl rfl) (px_own (po_catL (px_var (pv 5)) (px_call ⟨Drests⟩ tk hr rfl (pax_cons (px_var (pv 0)) (pax_cons (px_ix (px_var (pv 1)) px_int) (pax_cons (px_var (pv 2)) (pax_cons (px_var (pv 3)) pax_nil)))) (len_cons (len_cons (len_cons (len_cons len_nil))))))))) psx_nil) (psx_one (psx_ret (px_var (pv 5)))))))))))
/-! ### all_left -/
theorem sc_all_left : FnScope N_all_left P_all_left (defScope s_all_left) := ⟨rfl, rfl, rfl, by decide +kernel, rfl, by decide +kernel, by decide +kernel⟩
theorem b_all_left (T : Top K mg X_BadProgram) {flook_at : Fn} {fkey_of : Fn} {fdistinct : Fn} {frests : Fn} {κ : Nat} (Dlook_at : DefVK P w K mg base "look_at" 1 4 κ flook_at) (Dkey_of : DefK P w K mg base "key_of" P_key_of [] κ fkey_of) (Ddistinct : DefK P w K mg base "distinct" P_distinct [] κ fdistinct) (Drests : DefK P w K mg base "rests" P_rests [] κ frests) (f : Addr) (cdv : Value) (A : Around) (outer : List PySem.Env) (s : Shared) (H : Hp) (E : XK) (hr : RoomG κ (A.deeper (envOfC "all_left" (defScope s_all_left) s.heap.objs.size f cdv)))
    (tk : Takes (cxOf (L2.CX P w) P w K mg base N_all_left "all_left" (defScope s_all_left) f cdv A outer s H E) (fun cls dd _ H' => E cls dd H')) : PSsX (cxOf (L2.CX P w) P w K mg base N_all_left "all_left" (defScope s_all_left) f cdv A outer s H E) (fun cls dd _ H' => E cls dd H') (defBody s_all_left) (d_all_left flook_at fkey_of fdistinct frests) :=
  have sc := sc_all_left
  (psx_cons (psx_expr (px_callV Dlook_at tk hr rfl (pax_cons (px_var (pv 0)) (pax_cons (px_var (pv 1)) pax_nil)) (len_cons (len_cons len_nil)))) (psx_cons (psx_setD (i := 2) sc.nd rfl (Or.inl rfl) (pd_disp1 (px_call ⟨Dkey_of⟩ tk hr rfl (pax_cons (px_var (pv 1)) pax_nil) (len_cons len_nil)) (px_var (pv 1)))) (psx_cons (psx_setM (i := 3) sc.nd rfl (Or.inl rfl) (po_lst (pax_cons (px_var (pv 1)) pax_nil))) (psx_cons (psx_while 100000 (passes_of rfl) (ptx_gt (px_lenM rfl T.b_len (pv 3)) px_int) (psx_cons (psx_set (i := 4) sc.nd rfl (Or.inl rfl) (px_pop0M (pv 3))) (psx_one (psx_for (passes_of rfl) rfl (pix_seq (px_fld T.cf_atoms (px_var (pv 0)))) (pgx_name sc.nd (i := 5) rfl (Or.inl rfl)) (psx_one (psx_for (passes_of rfl) rfl (pix_seq (px_fld T.cf_steps (px_var (pv 0)))) (pgx_name sc.nd (i := 6) rfl (Or.inl rfl)) (psx_one (psx_for (passes_of rfl) rfl (pix_seq (px_call ⟨Ddistinct⟩ tk hr rfl (pax_cons (px_call ⟨Drests⟩ tk hr rfl (pax_cons (px_var (pv 0)) (pax_cons (px_var (pv 4)) (pax_cons (px_var (pv 5)) (pax_cons (px_var (pv 6)) pax_nil)))) (len_cons (len_cons (len_cons (len_cons len_nil))))) pax_nil) (len_cons len_nil))) (pgx_name sc.nd (i := 7) rfl (Or.inl rfl)) (psx_one (psx_if (ptx_notInM hr (px_call ⟨Dkey_of⟩ tk hr rfl (pax_cons (px_var (pv 7)) pax_nil) (len_cons len_nil)) (pv 2)) (psx_cons (psx_setKM hr (pv 2) (px_var (pv 7)) (px_call ⟨Dkey_of⟩ tk hr rfl (pax_cons (px_var (pv 7)) pax_nil) (len_cons len_nil))) (psx_one (psx_expr (px_appM (pv 3) (px_var (pv 7)))))) psx_nil)))))))))) (psx_one (psx_ret (px_tupV rfl rfl T.b_tuple (px_freezeD (pv 2)))))))))
/-! ### _law_then -/
theorem sc__law_then : FnScope N__law_then P__law_then (defScope s__law_then) := ⟨rfl, rfl, rfl, by decide +kernel, rfl, by decide +kernel, by decide +kernel⟩
theorem b__law_then (T : Top K mg X_BadProgram)  {κ : Nat}  (f : Addr) (cdv : Value) (A : Around) (outer : List PySem.Env) (s : Shared) (H : Hp) (E : XK) (hr : RoomG κ (A.deeper (envOfC "_law_then" (defScope s__law_then) s.heap.objs.size f cdv)))
    (tk : Takes (cxOf (L2.CX P w) P w K mg base N__law_then "_law_then" (defScope s__law_then) f cdv A outer s H E) (fun cls dd _ H' => E cls dd H')) : PSsX (cxOf (L2.CX P w) P w K mg base N__law_then "_law_then" (defScope s__law_then) f cdv A outer s H E) (fun cls dd _ H' => E cls dd H') (defBody s__law_then) d__law_then :=
  have sc := sc__law_then
  (psx_cons (psx_parC (i := 2) (j := 3) rfl sc.nd rfl rfl (Or.inl rfl) (Or.inl rfl) (px_tup (pax_cons px_str (pax_cons (px_tup (pax_cons px_str pax_nil)) pax_nil))) (px_tup (pax_cons px_str (pax_cons (px_tup (pax_cons px_str pax_nil)) pax_nil)))) (psx_cons (psx_if (ptx_w (pwx_or (ptx_eq hr (px_var (pv 0)) (px_var (pv 3))) (pwx_or1 (ptx_eq hr (px_var (pv 1)) (px_var (pv 3)))))) (psx_one (psx_ret (px_var (pv 3)))) psx_nil) (psx_one (psx_ret (px_if (ptx_eq hr (px_var (pv 0)) (px_var (pv 2))) (px_var (pv 1)) (px_if (ptx_eq hr (px_var (pv 1)) (px_var (pv 2))) (px_var (pv 0)) (px_tup (pax_cons px_str (pax_cons (px_var (pv 0)) (pax_cons (px_var (pv 1)) pax_nil))))))))))
/-! ### _law_holds -/
theorem sc__law_holds : FnScope N__law_holds P__law_holds (defScope s__law_holds) := ⟨rfl, rfl, rfl, by decide +kernel, rfl, by decide +kernel, by decide +kernel⟩
theorem b__law_holds (T : Top K mg X_BadProgram) {f_law_holds : Fn} {κ : Nat} (D_law_holds : DefK P w K mg base "_law_holds" P__law_holds [] κ f_law_holds) (f : Addr) (cdv : Value) (A : Around) (outer : List PySem.Env) (s : Shared) (H : Hp) (E : XK) (hr : RoomG κ (A.deeper (envOfC "_law_holds" (defScope s__law_holds) s.heap.objs.size f cdv)))
    (tk : Takes (cxOf (L2.CX P w) P w K mg base N__law_holds "_law_holds" (defScope s__law_holds) f cdv A outer s H E) (fun cls dd _ H' => E cls dd H')) : PSsX (cxOf (L2.CX P w) P w K mg base N__law_holds "_law_holds" (defScope s__law_holds) f cdv A outer s H E) (fun cls dd _ H' => E cls dd H') (defBody s__law_holds) (d__law_holds f_law_holds) :=
  have sc := sc__law_holds
  (psx_cons (psx_set (i := 3) sc.nd rfl (Or.inl rfl) (px_ix (px_var (pv 0)) px_int)) (psx_cons (psx_if (ptx_in hr (px_var (pv 3)) (px_tup (pax_cons px_str (pax_cons px_str pax_nil)))) (psx_one (psx_ret (px_eq hr (px_var (pv 3)) px_str))) psx_nil) (psx_cons (psx_if (ptx_eq hr (px_var (pv 3)) px_str) (psx_one (psx_ret (px_eq hr (px_band (px_shr (px_var (pv 1)) (px_indexT hr (px_var (pv 2)) (px_ix (px_var (pv 0)) px_int))) px_int) px_int))) psx_nil) (psx_cons (psx_if (ptx_eq hr (px_var (pv 3)) px_str) (psx_one (psx_ret (px_not (px_call ⟨D_law_holds⟩ tk hr rfl (pax_cons (px_ix (px_var (pv 0)) px_int) (pax_cons (px_var (pv 1)) (pax_cons (px_var (pv 2)) pax_nil))) (len_cons (len_cons (len_cons len_nil))))))) psx_nil) (psx_cons (psx_par (i := 4) (j := 5) rfl sc.nd rfl rfl (by decide) rfl rfl (px_call ⟨D_law_holds⟩ tk hr rfl (pax_cons (px_ix (px_var (pv 0)) px_int) (pax_cons (px_var (pv 1)) (pax_cons (px_var (pv 2)) pax_nil))) (len_cons (len_cons (len_cons len_nil)))) (px_call ⟨D_law_holds⟩ tk hr rfl (pax_cons (px_ix (px_var (pv 0)) px_int) (pax_cons (px_var (pv 1)) (pax_cons (px_var (pv 2)) pax_nil))) (len_cons (len_cons (len_cons len_nil))))) (psx_one (psx_ret (px_if (ptx_eq hr (px_var (pv 3)) px_str) (px_and (px_var (pv 4)) (px_one (px_var (pv 5)))) (px_or (px_var (pv 4)) (px_one (px_var (pv 5))))))))))))
/-! ### _law_ends -/
theorem sc__law_ends : FnScope N__law_ends P__law_ends (defScope s__law_ends) := ⟨rfl, rfl, rfl, by decide +kernel, rfl, by decide +kernel, by decide +kernel⟩
theorem b__law_ends (T : Top K mg X_BadProgram) {f_law_ends : Fn} {f_law_holds : Fn} {κ : Nat} (D_law_ends : DefK P w K mg base "_law_ends" P__law_ends [] κ f_law_ends) (D_law_holds : DefK P w K mg base "_law_holds" P__law_holds [] κ f_law_holds) (f : Addr) (cdv : Value) (A : Around) (outer : List PySem.Env) (s : Shared) (H : Hp) (E : XK) (hr : RoomG κ (A.deeper (envOfC "_law_ends" (defScope s__law_ends) s.heap.objs.size f cdv)))
    (tk : Takes (cxOf (L2.CX P w) P w K mg base N__law_ends "_law_ends" (defScope s__law_ends) f cdv A outer s H E) (fun cls dd _ H' => E cls dd H')) : PSsX (cxOf (L2.CX P w) P w K mg base N__law_ends "_law_ends" (defScope s__law_ends) f cdv A outer s H E) (fun cls dd _ H' => E cls dd H') (defBody s__law_ends) (d__law_ends f_law_ends f_law_holds) :=
  have sc := sc__law_ends
  (psx_cons (psx_set (i := 3) sc.nd rfl (Or.inl rfl) (px_ix (px_var (pv 0)) px_int)) (psx_cons (psx_if (ptx_in hr (px_var (pv 3)) (px_tup (pax_cons px_str (pax_cons px_str (pax_cons px_str pax_nil))))) (psx_one (psx_ret (px_or (px_eq hr (px_var (pv 3)) px_str) (px_one (px_and (px_eq hr (px_var (pv 3)) px_str) (px_one (px_call ⟨D_law_holds⟩ tk hr rfl (pax_cons (px_ix (px_var (pv 0)) px_int) (pax_cons (px_var (pv 1)) (pax_cons (px_var (pv 2)) pax_nil))) (len_cons (len_cons (len_cons len_nil)))))))))) psx_nil) (psx_cons (psx_par (i := 4) (j := 5) rfl sc.nd rfl rfl (by decide) rfl rfl (px_call ⟨D_law_ends⟩ tk hr rfl (pax_cons (px_ix (px_var (pv 0)) px_int) (pax_cons (px_var (pv 1)) (pax_cons (px_var (pv 2)) pax_nil))) (len_cons (len_cons (len_cons len_nil)))) (px_call ⟨D_law_ends⟩ tk hr rfl (pax_cons (px_ix (px_var (pv 0)) px_int) (pax_cons (px_var (pv 1)) (pax_cons (px_var (pv 2)) pax_nil))) (len_cons (len_cons (len_cons len_nil))))) (psx_one (psx_ret (px_if (ptx_eq hr (px_var (pv 3)) px_str) (px_or (px_var (pv 4)) (px_one (px_var (pv 5)))) (px_and (px_var (pv 4)) (px_one (px_var (pv 5))))))))))
/-! ### _law_different -/
theorem sc__law_different : FnScope N__law_different P__law_different (defScope s__law_different) := ⟨rfl, rfl, rfl, by decide +kernel, rfl, by decide +kernel, by decide +kernel⟩
theorem b__law_different (T : Top K mg X_BadProgram)  {κ : Nat}  (f : Addr) (cdv : Value) (A : Around) (outer : List PySem.Env) (s : Shared) (H : Hp) (E : XK) (hr : RoomG κ (A.deeper (envOfC "_law_different" (defScope s__law_different) s.heap.objs.size f cdv)))
    (tk : Takes (cxOf (L2.CX P w) P w K mg base N__law_different "_law_different" (defScope s__law_different) f cdv A outer s H E) (fun cls dd _ H' => E cls dd H')) : PSsX (cxOf (L2.CX P w) P w K mg base N__law_different "_law_different" (defScope s__law_different) f cdv A outer s H E) (fun cls dd _ H' => E cls dd H') (defBody s__law_different) d__law_different :=
  have sc := sc__law_different
  (psx_cons (psx_setM (i := 1) sc.nd rfl (Or.inl rfl) (po_lst pax_nil)) (psx_cons (psx_for (passes_of rfl) rfl (pix_seq (px_var (pv 0))) (pgx_name sc.nd (i := 2) rfl (Or.inl rfl)) (psx_one (psx_if (ptx_notInL hr (px_var (pv 2)) (pv 1)) (psx_one (psx_expr (px_appM (pv 1) (px_var (pv 2))))) psx_nil))) (psx_one (psx_ret (px_tuple rfl T.b_tuple (pax_cons (px_own (po_sortT hr rfl rfl T.b_sorted (pax_cons (px_freeze (pv 1)) pax_nil))) pax_nil))))))
/-! ### left_behind -/
theorem sc_left_behind : FnScope N_left_behind P_left_behind (defScope s_left_behind) := ⟨rfl, rfl, rfl, by decide +kernel, rfl, by decide +kernel, by decide +kernel⟩
theorem b_left_behind (T : Top K mg X_BadProgram) {flook_at : Fn} {fdistinct : Fn} {frests : Fn} {κ : Nat} (Dlook_at : DefVK P w K mg base "look_at" 1 4 κ flook_at) (Ddistinct : DefK P w K mg base "distinct" P_distinct [] κ fdistinct) (Drests : DefK P w K mg base "rests" P_rests [] κ frests) (f : Addr) (cdv : Value) (A : Around) (outer : List PySem.Env) (s : Shared) (H : Hp) (E : XK) (hr : RoomG κ (A.deeper (envOfC "left_behind" (defScope s_left_behind) s.heap.objs.size f cdv)))
    (tk : Takes (cxOf (L2.CX P w) P w K mg base N_left_behind "left_behind" (defScope s_left_behind) f cdv A outer s H E) (fun cls dd _ H' => E cls dd H')) : PSsX (cxOf (L2.CX P w) P w K mg base N_left_behind "left_behind" (defScope s_left_behind) f cdv A outer s H E) (fun cls dd _ H' => E cls dd H') (defBody s_left_behind) (d_left_behind flook_at fdistinct frests) :=
  have sc := sc_left_behind
  (psx_cons (psx_expr (px_callV Dlook_at tk hr rfl (pax_cons (px_var (pv 0)) (pax_cons (px_var (pv 1)) pax_nil)) (len_cons (len_cons len_nil)))) (psx_one (psx_ret (px_call ⟨Ddistinct⟩ tk hr rfl (pax_cons (px_call ⟨Drests⟩ tk hr rfl (pax_cons (px_var (pv 0)) (pax_cons (px_var (pv 1)) (pax_cons (px_var (pv 2)) (pax_cons (px_var (pv 3)) pax_nil)))) (len_cons (len_cons (len_cons (len_cons len_nil))))) pax_nil) (len_cons len_nil)))))
/-! ### _law_left -/
theorem sc__law_left : FnScope N__law_left P__law_left (defScope s__law_left) := ⟨rfl, rfl, rfl, by decide +kernel, rfl, by decide +kernel, by decide +kernel⟩
theorem b__law_left (T : Top K mg X_BadProgram) {f_law_then : Fn} {f_law_ends : Fn} {f_law_left : Fn} {κ : Nat} (D_law_then : DefK P w K mg base "_law_then" P__law_then [] κ f_law_then) (D_law_ends : DefK P w K mg base "_law_ends" P__law_ends [] κ f_law_ends) (D_law_left : DefK P w K mg base "_law_left" P__law_left [] κ f_law_left) (f : Addr) (cdv : Value) (A : Around) (outer : List PySem.Env) (s : Shared) (H : Hp) (E : XK) (hr : RoomG κ (A.deeper (envOfC "_law_left" (defScope s__law_left) s.heap.objs.size f cdv)))
    (tk : Takes (cxOf (L2.CX P w) P w K mg base N__law_left "_law_left" (defScope s__law_left) f cdv A outer s H E) (fun cls dd _ H' => E cls dd H')) : PSsX (cxOf (L2.CX P w) P w K mg base N__law_left "_law_left" (defScope s__law_left) f cdv A outer s H E) (fun cls dd _ H' => E cls dd H') (defBody s__law_left) (d__law_left f_law_then f_law_ends f_law_left) :=
  have sc := sc__law_left
  (psx_cons (psx_set (i := 4) sc.nd rfl (Or.inl rfl) (px_ix (px_var (pv 0)) px_int)) (psx_cons (psx_if (ptx_in hr (px_var (pv 4)) (px_tup (pax_cons px_str (pax_cons px_str pax_nil)))) (psx_one (psx_ret (px_if (ptx_w (pwx_and (ptx_eq hr (px_var (pv 4)) px_str) (pwx_and1 (ptx_eq hr (px_ix (px_var (pv 0)) px_int) (px_var (pv 2)))))) (px_own (po_lst (pax_cons (px_tup (pax_cons px_str (pax_cons (px_tup (pax_cons px_str pax_nil)) pax_nil))) pax_nil))) (px_own (po_lst pax_nil))))) psx_nil) (psx_cons (psx_if (ptx_eq hr (px_var (pv 4)) px_str) (psx_one (psx_ret (px_own (po_catL (px_call ⟨D_law_left⟩ tk hr rfl (pax_cons (px_ix (px_var (pv 0)) px_int) (pax_cons (px_var (pv 1)) (pax_cons (px_var (pv 2)) (pax_cons (px_var (pv 3)) pax_nil)))) (len_cons (len_cons (len_cons (len_cons len_nil))))) (px_call ⟨D_law_left⟩ tk hr rfl (pax_cons (px_ix (px_var (pv 0)) px_int) (pax_cons (px_var (pv 1)) (pax_cons (px_var (pv 2)) (pax_cons (px_var (pv 3)) pax_nil)))) (len_cons (len_cons (len_cons (len_cons len_nil))))))))) psx_nil) (psx_cons (psx_set (i := 5) sc.nd rfl (Or.inr rfl) (px_if (ptx_eq hr (px_var (pv 4)) px_str) (px_var (pv 0)) (px_ix (px_var (pv 0)) px_int))) (psx_cons (psx_setLc (i := 6) (own := [("one", 7)]) (t := (gName 7)) (is := [7]) rfl sc.nd rfl rfl (sw_true rfl rfl rfl (by kernel_rfl)) (pix_seq (px_call ⟨D_law_left⟩ tk hr rfl (pax_cons (px_ix (px_var (pv 0)) px_int) (pax_cons (px_var (pv 1)) (pax_cons (px_var (pv 2)) (pax_cons (px_var (pv 3)) pax_nil)))) (len_cons (len_cons (len_cons (len_cons len_nil)))))) (blkOk_by (by kernel_rfl)) (fun _ _ _ _ _ => (pgx_name sc.nd (i := 7) rfl (Or.inl rfl))) (by decide) (fun _ _ _ _ _ => ptsx_nil) (fun _ _ _ _ _ => (px_call ⟨D_law_then⟩ takes0 hr rfl (pax_cons (px_var (pv 7)) (pax_cons (px_var (pv 5)) pax_nil)) (len_cons (len_cons len_nil))))) (psx_cons (psx_setLc (i := 6) (own := [("one", 7)]) (t := (gName 7)) (is := [7]) rfl sc.nd rfl rfl (sw_true rfl rfl rfl (by kernel_rfl)) (pix_seq (px_var (pv 6))) (blkOk_by (by kernel_rfl)) (fun _ _ _ _ _ => (pgx_name sc.nd (i := 7) rfl (Or.inl rfl))) (by decide) (fun _ _ _ _ _ => (ptsx_one (ptx_ne hr (px_var (pv 7)) (px_tup (pax_cons px_str (pax_cons (px_tup (pax_cons px_str pax_nil)) pax_nil)))))) (fun _ _ _ _ _ => (px_var (pv 7)))) (psx_cons (psx_if (ptx_w (pwx_and (ptx_eq hr (px_var (pv 4)) px_str) (pwx_and1 (ptx_val (px_call ⟨D_law_ends⟩ tk hr rfl (pax_cons (px_ix (px_var (pv 0)) px_int) (pax_cons (px_var (pv 1)) (pax_cons (px_var (pv 3)) pax_nil))) (len_cons (len_cons (len_cons len_nil)))))))) (psx_one (psx_set (i := 6) sc.nd rfl (Or.inl rfl) (px_own (po_catL (px_var (pv 6)) (px_call ⟨D_law_left⟩ tk hr rfl (pax_cons (px_ix (px_var (pv 0)) px_int) (pax_cons (px_var (pv 1)) (pax_cons (px_var (pv 2)) (pax_cons (px_var (pv 3)) pax_nil)))) (len_cons (len_cons (len_cons (len_cons len_nil))))))))) psx_nil) (psx_one (psx_ret (px_var (pv 6)))))))))))
/-! ### law -/
theorem sc_law : FnScope N_law P_law (defScope s_law) := ⟨rfl, rfl, rfl, by decide +kernel, rfl, by decide +kernel, by decide +kernel⟩
theorem b_law (T : Top K mg X_BadProgram) {f_law_draws : FnO} {f_law_scene : FnM} {fScene____init__ : FnI} {f_law_program : FnM} {f_law_same : Fn} {fall_left : Fn} {fthen : Fn} {f_law_then : Fn} {fmay_end : Fn} {f_law_ends : Fn} {f_law_different : Fn} {fleft_behind : Fn} {f_law_left : Fn} {κ : Nat} (D_law_draws : DefOK P w K mg base "_law_draws" P__law_draws κ f_law_draws) (D_law_scene : DefMK P w K mg base "_law_scene" P__law_scene κ f_law_scene) (DScene____init__ : DefIK P w K mg base "Scene" P_Scene____init__ κ fScene____init__) (D_law_program : DefMK P w K mg base "_law_program" P__law_program κ f_law_program) (D_law_same : DefK P w K mg base "_law_same" P__law_same [] κ f_law_same) (Dall_left : DefK P w K mg base "all_left" P_all_left [] κ fall_left) (Dthen : DefK P w K mg base "then" P_then [] κ fthen) (D_law_then : DefK P w K mg base "_law_then" P__law_then [] κ f_law_then) (Dmay_end : DefK P w K mg base "may_end" P_may_end [] κ fmay_end) (D_law_ends : DefK P w K mg base "_law_ends" P__law_ends [] κ f_law_ends) (D_law_different : DefK P w K mg base "_law_different" P__law_different [] κ f_law_different) (Dleft_behind : DefK P w K mg base "left_behind" P_left_behind [] κ fleft_behind) (D_law_left : DefK P w K mg base "_law_left" P__law_left [] κ f_law_left) (f : Addr) (cdv : Value) (A : Around) (outer : List PySem.Env) (s : Shared) (H : Hp) (E : XK) (hr : RoomG κ (A.deeper (envOfC "law" (defScope s_law) s.heap.objs.size f cdv)))
    (tk : Takes (cxOf (L2.CX P w) P w K mg base N_law "law" (defScope s_law) f cdv A outer s H E) (fun cls dd _ H' => E cls dd H')) : PSsX (cxOf (L2.CX P w) P w K mg base N_law "law" (defScope s_law) f cdv A outer s H E) (fun cls dd _ H' => E cls dd H') (defBody s_law) (d_law f_law_draws f_law_scene fScene____init__ f_law_program f_law_same fall_left fthen f_law_then fmay_end f_law_ends f_law_different fleft_behind f_law_left) :=
  have sc := sc_law
  (psx_cons (psx_setM (i := 1) sc.nd rfl (Or.inl rfl) (po_callO ⟨D_law_draws⟩ tk hr rfl (pax_cons (px_var (pv 0)) pax_nil) (len_cons len_nil))) (psx_cons (psx_for (passes_of rfl) rfl (pix_range rfl T.b_range px_int) (pgx_name sc.nd (i := 2) rfl (Or.inl rfl)) (psx_cons (psx_set (i := 3) sc.nd rfl (Or.inl rfl) (px_callM ⟨D_law_scene⟩ tk hr rfl (pv 1) pax_nil len_nil)) (psx_cons (psx_set (i := 4) sc.nd rfl (Or.inl rfl) (px_makeK DScene____init__ tk hr rfl (pax_cons (px_ix (px_var (pv 3)) px_int) (pax_cons (px_ix (px_var (pv 3)) px_int) pax_nil)) (len_cons (len_cons len_nil)))) (psx_cons (psx_par (i := 8) (j := 9) rfl sc.nd rfl rfl (by decide) rfl rfl (px_callM ⟨D_law_program⟩ tk hr rfl (pv 1) (pax_cons (px_var (pv 3)) (pax_cons px_int pax_nil)) (len_cons (len_cons len_nil))) (px_callM ⟨D_law_program⟩ tk hr rfl (pv 1) (pax_cons (px_var (pv 3)) (pax_cons px_int pax_nil)) (len_cons (len_cons len_nil)))) (psx_cons (psx_if (ptx_not (ptx_val (px_call ⟨D_law_same⟩ tk hr rfl (pax_cons (px_own (po_lst (pax_cons (px_call ⟨Dthen⟩ tk hr rfl (pax_cons (px_var (pv 8)) (pax_cons (px_var (pv 9)) pax_nil)) (len_cons (len_cons len_nil))) (pax_cons (px_call ⟨Dthen⟩ tk hr rfl (pax_cons (px_tup (pax_cons px_str (pax_cons (px_tup (pax_cons px_str pax_nil)) pax_nil))) (pax_cons (px_var (pv 9)) pax_nil)) (len_cons (len_cons len_nil))) (pax_cons (px_call ⟨Dthen⟩ tk hr rfl (pax_cons (px_var (pv 8)) (pax_cons (px_tup (pax_cons px_str (pax_cons (px_tup (pax_cons px_str pax_nil)) pax_nil))) pax_nil)) (len_cons (len_cons len_nil))) pax_nil))))) (pax_cons (px_own (po_lst (pax_cons (px_call ⟨D_law_then⟩ tk hr rfl (pax_cons (px_var (pv 8)) (pax_cons (px_var (pv 9)) pax_nil)) (len_cons (len_cons len_nil))) (pax_cons (px_var (pv 9)) (pax_cons (px_tup (pax_cons px_str (pax_cons (px_tup (pax_cons px_str pax_nil)) pax_nil))) pax_nil))))) pax_nil)) (len_cons (len_cons len_nil))))) (psx_one (psx_ret px_bl)) psx_nil) (psx_cons (psx_set (i := 5) sc.nd rfl (Or.inl rfl) (px_own (po_listRg rfl rfl T.b_list rfl T.b_range (px_shl px_int (px_len rfl T.b_len (pax_cons (px_ix (px_var (pv 3)) px_int) pax_nil)))))) (psx_cons (psx_for (passes_of rfl) rfl (pix_seq (px_var (pv 5))) (pgx_name sc.nd (i := 6) rfl (Or.inl rfl)) (psx_cons (psx_if (ptx_not (ptx_val (px_call ⟨D_law_same⟩ tk hr rfl (pax_cons (px_call ⟨Dmay_end⟩ tk hr rfl (pax_cons (px_var (pv 4)) (pax_cons (px_var (pv 8)) (pax_cons (px_var (pv 6)) pax_nil))) (len_cons (len_cons (len_cons len_nil)))) (pax_cons (px_call ⟨D_law_ends⟩ tk hr rfl (pax_cons (px_var (pv 8)) (pax_cons (px_var (pv 6)) (pax_cons (px_ix (px_var (pv 3)) px_int) pax_nil))) (len_cons (len_cons (len_cons len_nil)))) pax_nil)) (len_cons (len_cons len_nil))))) (psx_one (psx_ret px_bl)) psx_nil) (psx_one (psx_for (passes_of rfl) rfl (pix_seq (px_ix (px_var (pv 3)) px_int)) (pgx_name sc.nd (i := 10) rfl (Or.inl rfl)) (psx_one (psx_if (ptx_not (ptx_val (px_call ⟨D_law_same⟩ tk hr rfl (pax_cons (px_call ⟨Dleft_behind⟩ tk hr rfl (pax_cons (px_var (pv 4)) (pax_cons (px_var (pv 8)) (pax_cons (px_var (pv 6)) (pax_cons (px_var (pv 10)) pax_nil)))) (len_cons (len_cons (len_cons (len_cons len_nil))))) (pax_cons (px_call ⟨D_law_different⟩ tk hr rfl (pax_cons (px_call ⟨D_law_left⟩ tk hr rfl (pax_cons (px_var (pv 8)) (pax_cons (px_var (pv 6)) (pax_cons (px_var (pv 10)) (pax_cons (px_ix (px_var (pv 3)) px_int) pax_nil)))) (len_cons (len_cons (len_cons (len_cons len_nil))))) pax_nil) (len_cons len_nil)) pax_nil)) (len_cons (len_cons len_nil))))) (psx_one (psx_ret px_bl)) psx_nil)))))) (psx_cons (psx_parM (i := 11) (j := 12) rfl sc.nd rfl rfl (by decide) rfl rfl (po_lst (pax_cons (px_var (pv 8)) pax_nil))) (psx_cons (psx_while 100000 (passes_of rfl) (ptx_lt (px_var (pv 12)) (px_lenM rfl T.b_len (pv 11))) (psx_cons (psx_for (passes_of rfl) rfl (pix_seq (px_var (pv 5))) (pgx_name sc.nd (i := 6) rfl (Or.inl rfl)) (psx_one (psx_for (passes_of rfl) rfl (pix_seq (px_ix (px_var (pv 3)) px_int)) (pgx_name sc.nd (i := 10) rfl (Or.inl rfl)) (psx_one (psx_for (passes_of rfl) rfl (pix_seq (px_call ⟨D_law_different⟩ tk hr rfl (pax_cons (px_call ⟨D_law_left⟩ tk hr rfl (pax_cons (px_ixM (pv 11) (px_var (pv 12))) (pax_cons (px_var (pv 6)) (pax_cons (px_var (pv 10)) (pax_cons (px_ix (px_var (pv 3)) px_int) pax_nil)))) (len_cons (len_cons (len_cons (len_cons len_nil))))) pax_nil) (len_cons len_nil))) (pgx_name sc.nd (i := 15) rfl (Or.inl rfl)) (psx_one (psx_if (ptx_notInL hr (px_var (pv 15)) (pv 11)) (psx_one (psx_expr (px_appM (pv 11) (px_var (pv 15))))) psx_nil))))))) (psx_one (psx_set (i := 12) sc.nd rfl (Or.inl rfl) (px_add (px_var (pv 12)) px_int))))) (psx_cons (psx_if (ptx_not (ptx_val (px_call ⟨D_law_same⟩ tk hr rfl (pax_cons (px_call ⟨Dall_left⟩ tk hr rfl (pax_cons (px_var (pv 4)) (pax_cons (px_var (pv 8)) pax_nil)) (len_cons (len_cons len_nil))) (pax_cons (px_tuple rfl T.b_tuple (pax_cons (px_freeze (pv 11)) pax_nil)) pax_nil)) (len_cons (len_cons len_nil))))) (psx_one (psx_ret px_bl)) psx_nil) (psx_one (psx_for (passes_of rfl) rfl (pix_seq (px_own (po_lst (pax_cons px_non (pax_cons (px_tup (pax_cons px_str (pax_cons px_str pax_nil))) (pax_cons (px_tup (pax_cons px_str pax_nil)) (pax_cons (px_tup (pax_cons px_str (pax_cons (px_tup (pax_cons px_str (pax_cons px_str pax_nil))) pax_nil))) pax_nil))))))) (pgx_name sc.nd (i := 7) rfl (Or.inl rfl)) (psx_one (psx_for (passes_of rfl) rfl (pix_range rfl T.b_range px_int) (pgx_name sc.nd (i := 13) rfl (Or.inl rfl)) (psx_one (psx_try_is (i := 14) rfl rfl sc.nd rfl rfl (T.x_BadProgram.names rfl) T.x_BadProgram.g T.x_BadProgram.self T.x_BadProgram.c T.x_BadProgram.v tk (fun W2 pn2 xe2 tk2 po2 => (psx_cons (psx_if (ptx_eq hr (px_var (pv 13)) px_int) (psx_one (psx_expr (px_call ⟨Dleft_behind⟩ tk2 hr rfl (pax_cons (px_var (pv 4)) (pax_cons (px_var (pv 7)) (pax_cons px_int (pax_cons px_str pax_nil)))) (len_cons (len_cons (len_cons (len_cons len_nil))))))) (psx_one (psx_expr (px_call ⟨Dall_left⟩ tk2 hr rfl (pax_cons (px_var (pv 4)) (pax_cons (px_var (pv 7)) pax_nil)) (len_cons (len_cons len_nil)))))) (psx_one (psx_ret px_bl)))) rfl T.b_isinstance rfl T.b_ValueError)))))))))))))))) (psx_one (psx_ret px_bl))))
end
end Lk01
set_option Elab.async false
set_option linter.all false
set_option maxRecDepth 100000
set_option maxHeartbeats 4000000
namespace Lk01
open PySem L2 Pu
/-! ### drawn numbers -/
structure DrOk (sc ds : List PV) : Prop where
  ex : ∃ (p : Nat) (c2 c3 : Int), ds = [.lst sc, .int p, .int c2, .int c3]
theorem draw_ok {ds sc : List PV} (hs : ∀ x ∈ sc, ∃ i, x = .int i) (h : DrOk sc ds) (l : Int) (h0 : 0 < l) (h1 : l < 1073741824) : ∃ (v : Nat) (ds' : List PV), F__law_draw ds [.int l] = some (.int v, ds') ∧ DrOk sc ds' ∧ (v : Int) < l := by
  obtain ⟨p, c2, c3, rfl⟩ := h.ex
  clear h
  have fin : ∀ (p : Nat) (c2 c3 v : Int) (o : Option (PV × List PV)), o = some (.int (v % l), [.lst sc, .int p, .int c2, .int c3]) → ∃ (v : Nat) (ds' : List PV), o = some (.int v, ds') ∧ DrOk sc ds' ∧ (v : Int) < l :=
    fun p c2 c3 v o e => ⟨(v % l).toNat, _, by rw [Int.toNat_of_nonneg (Int.emod_nonneg v (by omega))]; exact e, ⟨⟨p, c2, c3, rfl⟩⟩, by rw [Int.toNat_of_nonneg (Int.emod_nonneg v (by omega))]; exact Int.emod_lt_of_pos v h0⟩
  by_cases c : c2 = 0 ∧ p < sc.length
  · obtain ⟨rfl, hp⟩ := c
    obtain ⟨i, hi⟩ := hs _ (List.getElem_mem hp)
    by_cases big : 1000000000000000000 ≤ i
    · have pos : 0 < i := by omega
      exact fin (p + 1) (i / l) ((c3 * 48271 + i + 13) % 2147483647) i _ (by simp [F__law_draw, fnDenM, cellsM, d__law_draw, outM, hp, hi, h0, h1, big, pos])
    · exact fin (p + 1) 0 ((((c3 * 48271 + i + 13) % 2147483647) * 69621 + 7) % 2147483629) (((((c3 * 48271 + i + 13) % 2147483647) * 69621 + 7) % 2147483629) / 11) _ (by simp [F__law_draw, fnDenM, cellsM, d__law_draw, outM, hp, hi, h0, h1, big])
  · have cc : c2 = 0 → ¬ p < sc.length := fun z h => c ⟨z, h⟩
    by_cases c0 : c2 = 0
    · subst c0
      have hp := cc rfl
      exact fin p 0 ((c3 * 69621 + 7) % 2147483629) (((c3 * 69621 + 7) % 2147483629) / 11) _ (by simp [F__law_draw, fnDenM, cellsM, d__law_draw, outM, hp, h0, h1])
    · by_cases pos : 0 < c2
      · exact fin p (c2 / l) c3 c2 _ (by simp [F__law_draw, fnDenM, cellsM, d__law_draw, outM, c0, pos, h0, h1])
      · exact fin p c2 ((c3 * 69621 + 7) % 2147483629) (((c3 * 69621 + 7) % 2147483629) / 11) _ (by simp [F__law_draw, fnDenM, cellsM, d__law_draw, outM, c0, pos, h0, h1])
/-! ### the law's sameness of a thing with itself -/
mutual
/-- values, tuples, lists, all of them short -/
def okS : PV → Bool
  | .tup xs => decide (xs.length ≤ 16777216) && okSs xs
  | .lst xs => decide (xs.length ≤ 16777216) && okSs xs
  | .int _ => true
  | .str _ => true
  | .bl _ => true
  | .non => true
  | _ => false
def okSs : List PV → Bool
  | [] => true
  | x :: xs => okS x && okSs xs
end
theorem okSs_mem : ∀ {xs : List PV} {x : PV}, okSs xs = true → x ∈ xs → okS x = true
  | y :: ys, x, h, hx => by
    have h := Bool.and_eq_true_iff.mp (show (okS y && okSs ys) = true from h)
    rcases List.mem_cons.mp hx with rfl | hx
    · exact h.1
    · exact okSs_mem h.2 hx
theorem depths_mem : ∀ {xs : List PV} {x : PV}, x ∈ xs → x.depth ≤ PV.depths xs
  | y :: ys, x, hx => by
    rw [depths_cons]
    rcases List.mem_cons.mp hx with rfl | hx
    · exact Nat.le_max_left _ _
    · exact Nat.le_trans (depths_mem hx) (Nat.le_max_right _ _)
theorem same_loop (n : Nat) (X : List PV) (v : PV) (hv : v = .tup X ∨ v = .lst X) (h : ∀ x ∈ X, F__law_same n [x, x] = some (.ok (.bl true))) :
    lcLoop (gxN 2) (dNot (dCall (F__law_same n) [] (dCons (dOp qIx (dVar 0) (dVar 2)) (dCons (dOp qIx (dVar 1) (dVar 2)) dNil)))) (dVar 2) [2] (rgP (X.length : Int)) [] [.v v, .v v, .un] = some (.ok [] [.v v, .v v, .un]) := by
  rw [rgP_eq]
  have q := lc_map (gx := gxN 2) (dc := dNot (dCall (F__law_same n) [] (dCons (dOp qIx (dVar 0) (dVar 2)) (dCons (dOp qIx (dVar 1) (dVar 2)) dNil)))) (de := dVar 2) (own := [2]) PV.int (fun _ => false) PV.int [.v v, .v v, .un] (rgI X.length) [] fun a ha => by
    obtain ⟨h0, h1⟩ := mem_rgI.mp ha
    obtain ⟨i, rfl⟩ := Int.eq_ofNat_of_zero_le h0
    have hi : i < X.length := by omega
    have e := h X[i] (List.getElem_mem hi)
    rcases hv with rfl | rfl <;> simp [lcTurn, hi, e]
  rw [q, List.filter_eq_nil_iff.mpr (fun _ _ => by decide)]
  rfl
theorem same_ok : ∀ (n : Nat) (x : PV), okS x = true → x.depth < n → F__law_same n [x, x] = some (.ok (.bl true))
  | 0, _, _, h => by omega
  | n + 1, .tup X, h, hd => by
    have h := Bool.and_eq_true_iff.mp (show (decide (X.length ≤ 16777216) && okSs X) = true from h)
    have hl := of_decide_eq_true h.1
    have q := same_loop n X (.tup X) (.inl rfl) fun x hx => same_ok n x (okSs_mem h.2 hx) (by have := depths_mem hx; rw [depth_tup] at hd; omega)
    have r1 : (-16777216 : Int) ≤ X.length := by omega
    have r2 : (X.length : Int) ≤ 16777216 := by omega
    simp [F__law_same, fnDen, d__law_same, isT, PV.ty, q, r1, r2, qNe]
  | n + 1, .lst X, h, hd => by
    have h := Bool.and_eq_true_iff.mp (show (decide (X.length ≤ 16777216) && okSs X) = true from h)
    have hl := of_decide_eq_true h.1
    have q := same_loop n X (.lst X) (.inr rfl) fun x hx => same_ok n x (okSs_mem h.2 hx) (by have := depths_mem hx; rw [depth_lst] at hd; omega)
    have r1 : (-16777216 : Int) ≤ X.length := by omega
    have r2 : (X.length : Int) ≤ 16777216 := by omega
    simp [F__law_same, fnDen, d__law_same, isT, PV.ty, q, r1, r2, qNe]
  | n + 1, .int i, _, _ => by simp [F__law_same, fnDen, d__law_same, isT, PV.ty, qIs]
  | n + 1, .str i, _, _ => by simp [F__law_same, fnDen, d__law_same, isT, PV.ty, qIs]
  | n + 1, .bl i, _, _ => by simp [F__law_same, fnDen, d__law_same, isT, PV.ty, qIs, qEq]
  | n + 1, .non, _, _ => by simp [F__law_same, fnDen, d__law_same, isT, PV.ty, qIs]
  | n + 1, .ktup _, h, _ => by cases h
  | n + 1, .dic _ _, h, _ => by cases h
  | n + 1, .ins _ _ _, h, _ => by cases h
theorem okSs_int {α : Type} (f : α → Int) (l : List α) : okSs (l.map fun a => .int (f a)) = true := by
  induction l with
  | nil => rfl
  | cons a l ih => exact ih
theorem okSs_intm (l : List Int) : okSs (l.map .int) = true := okSs_int id l
theorem okSs_strm (l : List Str) : okSs (l.map .str) = true := by
  induction l with
  | nil => rfl
  | cons a l ih => exact ih
theorem draws_at (sc : List PV) : F__law_draws [.lst sc] = some [.lst sc, .int 0, .int 0, .int 1] := by
  simp [F__law_draws, fnDenO, d__law_draws]
end Lk01
set_option Elab.async false
set_option linter.all false
set_option maxRecDepth 100000
set_option maxHeartbeats 4000000
namespace Lk01
open PySem L2 Pu
/-! ### scenes, tests and programs that are drawn -/
inductive S6 where
  | s01 | s02 | s11 | s12 | s21 | s22
def S6.ns : S6 → List Bool
  | .s01 | .s02 => []
  | .s11 | .s12 => [false]
  | .s21 | .s22 => [false, true]
def S6.ss : S6 → List Bool
  | .s01 | .s11 | .s21 => [false]
  | .s02 | .s12 | .s22 => [false, true]
def S6.pv (r : S6) : PV := .tup [.tup (NV r.ns), .tup (SV r.ss)]
theorem scene_ok {sc ds : List PV} (hs : ∀ x ∈ sc, ∃ i, x = .int i) (hd : DrOk sc ds) : ∃ (r : S6) (ds' : List PV), F__law_scene ds [] = some (r.pv, ds') ∧ DrOk sc ds' := by
  obtain ⟨v, ds1, e1, d1, l1⟩ := draw_ok hs hd 3 (by omega) (by omega)
  obtain ⟨w, ds2, e2, d2, l2⟩ := draw_ok hs d1 2 (by omega) (by omega)
  have hv : v = 0 ∨ v = 1 ∨ v = 2 := by omega
  have hw : w = 0 ∨ w = 1 := by omega
  have c : ∀ n : Nat, cutP [PV.str "p", PV.str "q"] none (some (1 + (n : Int))) = [PV.str "p", PV.str "q"].take (1 + n) := fun n => by
    have := cut_to [PV.str "p", PV.str "q"] (1 + n)
    rw [← this]; rfl
  have key : F__law_scene ds [] = some (.tup [.tup ([PV.str "b", PV.str "c"].take v), .tup ([PV.str "p", PV.str "q"].take (1 + w))], ds2) := by
    simp [F__law_scene, fnDenM, cellsM, d__law_scene, outM, e1, e2, c]
  rw [key]
  rcases hv with rfl | rfl | rfl <;> rcases hw with rfl | rfl
  · exact ⟨.s01, ds2, rfl, d2⟩
  · exact ⟨.s02, ds2, rfl, d2⟩
  · exact ⟨.s11, ds2, rfl, d2⟩
  · exact ⟨.s12, ds2, rfl, d2⟩
  · exact ⟨.s21, ds2, rfl, d2⟩
  · exact ⟨.s22, ds2, rfl, d2⟩
def tover (ns : List Bool) : Tst → Prop
  | .is s => s ∈ ns
  | .nt a => tover ns a
  | .an a b => tover ns a ∧ tover ns b
  | .oor a b => tover ns a ∧ tover ns b
  | _ => True
def pover (ns ss : List Bool) : Prg → Prop
  | .st s => s ∈ ss
  | .te t => tover ns t
  | .lp a => pover ns ss a
  | .th a b => pover ns ss a ∧ pover ns ss b
  | .oo a b => pover ns ss a ∧ pover ns ss b
theorem test_draw {sc : List PV} (hs : ∀ x ∈ sc, ∃ i, x = .int i) (ns : List Bool) (hns : ns.length ≤ 2) : ∀ (deep n : Nat) (ds : List PV), deep < n → DrOk sc ds → ∃ (t : Tst) (ds' : List PV), F__law_test n ds [.tup (NV ns), .int deep] = some (t.pv, ds') ∧ DrOk sc ds' ∧ t.dep ≤ deep ∧ tover ns t
  | _, 0, _, h, _ => by omega
  | deep, n + 1, ds, hn, hd => by
    obtain ⟨k, ds1, e1, d1, l1⟩ := draw_ok hs hd 7 (by omega) (by omega)
    have flat : (deep = 0 ∨ k < 3) → ∃ (t : Tst) (ds' : List PV), F__law_test (n + 1) ds [.tup (NV ns), .int deep] = some (t.pv, ds') ∧ DrOk sc ds' ∧ t.dep ≤ deep ∧ tover ns t := by
      intro hf
      have c1 : (((deep : Nat) : Int) = 0) ∨ ((k : Nat) : Int) < 3 := by omega
      have c1' : ¬ deep = 0 → ((k : Nat) : Int) < 3 := by omega
      by_cases hz : k = 0 ∨ ns.length = 0
      · obtain ⟨w, ds2, e2, d2, l2⟩ := draw_ok hs d1 2 (by omega) (by omega)
        have hw : w = 0 ∨ w = 1 := by omega
        have key : F__law_test (n + 1) ds [.tup (NV ns), .int deep] = some ((if w = 0 then Tst.yes.pv else Tst.no.pv), ds2) := by
          rcases hz with rfl | hz
          · rcases hw with rfl | rfl <;> by_cases h0 : deep = 0 <;> simp [F__law_test, fnDenM, cellsM, d__law_test, outM, e1, e2, Tst.pv, h0]
          · have hz' : ns = [] := List.eq_nil_of_length_eq_zero hz
            subst hz'
            by_cases h0 : deep = 0
            · rcases hw with rfl | rfl <;> by_cases k0 : k = 0 <;> simp [F__law_test, fnDenM, cellsM, d__law_test, outM, e1, e2, Tst.pv, h0, k0]
            · have k3 := c1' h0
              rcases hw with rfl | rfl <;> by_cases k0 : k = 0 <;> simp [F__law_test, fnDenM, cellsM, d__law_test, outM, e1, e2, Tst.pv, h0, k0, k3]
        rcases hw with rfl | rfl
        · exact ⟨.yes, ds2, key, d2, Nat.zero_le _, trivial⟩
        · exact ⟨.no, ds2, key, d2, Nat.zero_le _, trivial⟩
      · have hk : ¬ k = 0 := fun z => hz (.inl z)
        have hl : ¬ ns.length = 0 := fun z => hz (.inr z)
        obtain ⟨w, ds2, e2, d2, l2⟩ := draw_ok hs d1 (ns.length : Int) (by omega) (by omega)
        have hw : w < ns.length := by omega
        have k0 : ¬ k = 0 := by omega
        have z0 : ¬ ns = [] := fun z => hl (by rw [z]; rfl)
        refine ⟨.is ns[w], ds2, ?_, d2, Nat.zero_le _, List.getElem_mem hw⟩
        by_cases h0 : deep = 0
        · simp [F__law_test, fnDenM, cellsM, d__law_test, outM, e1, e2, Tst.pv, h0, k0, z0, hw]
        · have k3 := c1' h0
          simp [F__law_test, fnDenM, cellsM, d__law_test, outM, e1, e2, Tst.pv, h0, k0, k3, z0, hw]
    by_cases hf : deep = 0 ∨ k < 3
    · exact flat hf
    · have hd0 : ¬ deep = 0 := fun z => hf (.inl z)
      have hk3 : ¬ k < 3 := fun z => hf (.inr z)
      obtain ⟨d, rfl⟩ : ∃ d, deep = d + 1 := ⟨deep - 1, by omega⟩
      have q1 : ¬ ((d : Nat) : Int) + 1 = 0 := by omega
      have hk : k = 3 ∨ k = 4 ∨ k = 5 ∨ k = 6 := by omega
      rcases hk with rfl | rfl | rfl | rfl
      · obtain ⟨t, ds2, e2, d2, l2, o2⟩ := test_draw hs ns hns d n ds1 (by omega) d1
        exact ⟨.nt t, ds2, by simp [F__law_test, fnDenM, cellsM, d__law_test, outM, e1, e2, Tst.pv, q1], d2, by show t.dep + 1 ≤ d + 1; omega, o2⟩
      · obtain ⟨t, ds2, e2, d2, l2, o2⟩ := test_draw hs ns hns d n ds1 (by omega) d1
        obtain ⟨u, ds3, e3, d3, l3, o3⟩ := test_draw hs ns hns d n ds2 (by omega) d2
        exact ⟨.an t u, ds3, by simp [F__law_test, fnDenM, cellsM, d__law_test, outM, e1, e2, e3, Tst.pv, q1], d3, by show max t.dep u.dep + 1 ≤ d + 1; omega, o2, o3⟩
      · obtain ⟨t, ds2, e2, d2, l2, o2⟩ := test_draw hs ns hns d n ds1 (by omega) d1
        obtain ⟨u, ds3, e3, d3, l3, o3⟩ := test_draw hs ns hns d n ds2 (by omega) d2
        exact ⟨.oor t u, ds3, by simp [F__law_test, fnDenM, cellsM, d__law_test, outM, e1, e2, e3, Tst.pv, q1], d3, by show max t.dep u.dep + 1 ≤ d + 1; omega, o2, o3⟩
      · obtain ⟨t, ds2, e2, d2, l2, o2⟩ := test_draw hs ns hns d n ds1 (by omega) d1
        obtain ⟨u, ds3, e3, d3, l3, o3⟩ := test_draw hs ns hns d n ds2 (by omega) d2
        exact ⟨.an t u, ds3, by simp [F__law_test, fnDenM, cellsM, d__law_test, outM, e1, e2, e3, Tst.pv, q1], d3, by show max t.dep u.dep + 1 ≤ d + 1; omega, o2, o3⟩
theorem ns_short (r : S6) : r.ns.length ≤ 2 := by cases r <;> decide
theorem ss_short (r : S6) : 0 < r.ss.length ∧ r.ss.length ≤ 2 := by cases r <;> decide
theorem prog_draw {sc : List PV} (hs : ∀ x ∈ sc, ∃ i, x = .int i) (r : S6) : ∀ (deep n : Nat) (ds : List PV), deep < n → DrOk sc ds → ∃ (p : Prg) (ds' : List PV), F__law_program n ds [r.pv, .int deep] = some (p.pv, ds') ∧ DrOk sc ds' ∧ p.dep ≤ deep ∧ p.low ∧ pover r.ns r.ss p
  | _, 0, _, h, _ => by omega
  | deep, n + 1, ds, hn, hd => by
    obtain ⟨k, ds1, e1, d1, l1⟩ := draw_ok hs hd 9 (by omega) (by omega)
    by_cases hf : deep = 0 ∨ k < 3
    · have c1' : ¬ deep = 0 → ((k : Nat) : Int) < 3 := by omega
      by_cases hz : k = 0
      · subst hz
        obtain ⟨t, ds2, e2, d2, l2, o2⟩ := test_draw hs r.ns (ns_short r) 2 64 ds1 (by omega) d1
        have e2' : F__law_test 64 ds1 [.tup (NV r.ns), .int 2] = some (t.pv, ds2) := e2
        refine ⟨.te t, ds2, ?_, d2, Nat.zero_le _, l2, o2⟩
        by_cases h0 : deep = 0 <;> simp [F__law_program, fnDenM, cellsM, d__law_program, outM, e1, e2', Prg.pv, S6.pv, h0]
      · have k0 : ¬ k = 0 := by omega
        obtain ⟨s0, s2⟩ := ss_short r
        obtain ⟨w, ds2, e2, d2, l2⟩ := draw_ok hs d1 (r.ss.length : Int) (by omega) (by omega)
        have hw : w < r.ss.length := by omega
        refine ⟨.st r.ss[w], ds2, ?_, d2, Nat.zero_le _, trivial, List.getElem_mem hw⟩
        by_cases h0 : deep = 0
        · simp [F__law_program, fnDenM, cellsM, d__law_program, outM, e1, e2, Prg.pv, S6.pv, h0, k0, hw]
        · have k3 := c1' h0
          simp [F__law_program, fnDenM, cellsM, d__law_program, outM, e1, e2, Prg.pv, S6.pv, h0, k0, k3, hw]
    · have hd0 : ¬ deep = 0 := fun z => hf (.inl z)
      have hk3 : ¬ k < 3 := fun z => hf (.inr z)
      obtain ⟨d, rfl⟩ : ∃ d, deep = d + 1 := ⟨deep - 1, by omega⟩
      have q1 : ¬ ((d : Nat) : Int) + 1 = 0 := by omega
      have hk : k = 3 ∨ k = 4 ∨ k = 5 ∨ k = 6 ∨ k = 7 ∨ k = 8 := by omega
      have one : k = 3 ∨ k = 4 → ∃ (p : Prg) (ds' : List PV), F__law_program (n + 1) ds [r.pv, .int ((d + 1 : Nat) : Int)] = some (p.pv, ds') ∧ DrOk sc ds' ∧ p.dep ≤ d + 1 ∧ p.low ∧ pover r.ns r.ss p := fun hk => by
        obtain ⟨p, ds2, e2, d2, l2, w2, o2⟩ := prog_draw hs r d n ds1 (by omega) d1
        rcases hk with rfl | rfl <;> exact ⟨.lp p, ds2, by simp [F__law_program, fnDenM, cellsM, d__law_program, outM, e1, e2, Prg.pv, q1], d2, by show p.dep + 1 ≤ d + 1; omega, w2, o2⟩
      have two : k = 5 ∨ k = 6 ∨ k = 7 ∨ k = 8 → ∃ (p : Prg) (ds' : List PV), F__law_program (n + 1) ds [r.pv, .int ((d + 1 : Nat) : Int)] = some (p.pv, ds') ∧ DrOk sc ds' ∧ p.dep ≤ d + 1 ∧ p.low ∧ pover r.ns r.ss p := fun hk => by
        obtain ⟨p, ds2, e2, d2, l2, w2, o2⟩ := prog_draw hs r d n ds1 (by omega) d1
        obtain ⟨q, ds3, e3, d3, l3, w3, o3⟩ := prog_draw hs r d n ds2 (by omega) d2
        rcases hk with rfl | rfl | rfl | rfl
        · exact ⟨.oo p q, ds3, by simp [F__law_program, fnDenM, cellsM, d__law_program, outM, e1, e2, e3, Prg.pv, q1], d3, by show max p.dep q.dep + 1 ≤ d + 1; omega, ⟨w2, w3⟩, o2, o3⟩
        · exact ⟨.th p q, ds3, by simp [F__law_program, fnDenM, cellsM, d__law_program, outM, e1, e2, e3, Prg.pv, q1], d3, by show max p.dep q.dep + 1 ≤ d + 1; omega, ⟨w2, w3⟩, o2, o3⟩
        · exact ⟨.oo p q, ds3, by simp [F__law_program, fnDenM, cellsM, d__law_program, outM, e1, e2, e3, Prg.pv, q1], d3, by show max p.dep q.dep + 1 ≤ d + 1; omega, ⟨w2, w3⟩, o2, o3⟩
        · exact ⟨.th p q, ds3, by simp [F__law_program, fnDenM, cellsM, d__law_program, outM, e1, e2, e3, Prg.pv, q1], d3, by show max p.dep q.dep + 1 ≤ d + 1; omega, ⟨w2, w3⟩, o2, o3⟩
      rcases hk with h | h | h | h | h | h
      · exact one (.inl h)
      · exact one (.inr h)
      · exact two (.inl h)
      · exact two (.inr (.inl h))
      · exact two (.inr (.inr (.inl h)))
      · exact two (.inr (.inr (.inr h)))
end Lk01
set_option Elab.async false
set_option linter.all false
set_option maxRecDepth 100000
set_option maxHeartbeats 4000000
namespace Lk01
open PySem L2 Pu
/-! ### what a program is -/
theorem name_nm (b : Bool) : F_is_name [.str (nm b)] = some (.ok (.bl true)) := by cases b <;> kernel_rfl
theorem name_sn (b : Bool) : F_is_name [.str (sn b)] = some (.ok (.bl true)) := by cases b <;> kernel_rfl
theorem is_test_ok : ∀ (t : Tst) (n deep : Nat), t.dep < n → t.dep < deep → F_is_test n [t.pv, .int deep] = some (.ok (.bl true))
  | _, 0, _, h, _ => by omega
  | _, _, 0, _, h => by omega
  | .yes, n + 1, d + 1, _, _ => by
    have q1 : ¬ ((d : Nat) : Int) + 1 = 0 := by omega
    simp [F_is_test, fnDen, d_is_test, Tst.pv, isT, PV.ty, q1]
  | .no, n + 1, d + 1, _, _ => by
    have q1 : ¬ ((d : Nat) : Int) + 1 = 0 := by omega
    simp [F_is_test, fnDen, d_is_test, Tst.pv, isT, PV.ty, q1]
  | .is b, n + 1, d + 1, _, _ => by
    have q1 : ¬ ((d : Nat) : Int) + 1 = 0 := by omega
    simp [F_is_test, fnDen, d_is_test, Tst.pv, isT, PV.ty, q1, name_nm]
  | .nt t, n + 1, d + 1, hd, hk => by
    have q1 : ¬ ((d : Nat) : Int) + 1 = 0 := by omega
    have ih := is_test_ok t n d (by simp only [Tst.dep] at hd; omega) (by simp only [Tst.dep] at hk; omega)
    simp [F_is_test, fnDen, d_is_test, Tst.pv, isT, PV.ty, q1, ih]
  | .an t u, n + 1, d + 1, hd, hk => by
    have q1 : ¬ ((d : Nat) : Int) + 1 = 0 := by omega
    have i1 := is_test_ok t n d (by simp only [Tst.dep] at hd; omega) (by simp only [Tst.dep] at hk; omega)
    have i2 := is_test_ok u n d (by simp only [Tst.dep] at hd; omega) (by simp only [Tst.dep] at hk; omega)
    simp [F_is_test, fnDen, d_is_test, Tst.pv, isT, PV.ty, q1, i1, i2, lc_cons, lc_nil, lcTurn]
  | .oor t u, n + 1, d + 1, hd, hk => by
    have q1 : ¬ ((d : Nat) : Int) + 1 = 0 := by omega
    have i1 := is_test_ok t n d (by simp only [Tst.dep] at hd; omega) (by simp only [Tst.dep] at hk; omega)
    have i2 := is_test_ok u n d (by simp only [Tst.dep] at hd; omega) (by simp only [Tst.dep] at hk; omega)
    simp [F_is_test, fnDen, d_is_test, Tst.pv, isT, PV.ty, q1, i1, i2, lc_cons, lc_nil, lcTurn]
theorem is_program_ok : ∀ (p : Prg) (n deep : Nat), p.low → p.dep < n → p.dep < deep → F_is_program n [p.pv, .int deep] = some (.ok (.bl true))
  | _, 0, _, _, h, _ => by omega
  | _, _, 0, _, _, h => by omega
  | .st b, n + 1, d + 1, _, _, _ => by
    have q1 : ¬ ((d : Nat) : Int) + 1 = 0 := by omega
    simp [F_is_program, fnDen, d_is_program, Prg.pv, isT, PV.ty, q1, name_sn]
  | .te t, n + 1, d + 1, hl, _, _ => by
    have q1 : ¬ ((d : Nat) : Int) + 1 = 0 := by omega
    have hl' : t.dep ≤ 2 := hl
    have e : F_is_test 64 [t.pv, .int 40] = some (.ok (.bl true)) := is_test_ok t 64 40 (by omega) (by omega)
    simp [F_is_program, fnDen, d_is_program, Prg.pv, isT, PV.ty, q1, e]
  | .lp t, n + 1, d + 1, hl, hd, hk => by
    have q1 : ¬ ((d : Nat) : Int) + 1 = 0 := by omega
    have ih := is_program_ok t n d hl (by simp only [Prg.dep] at hd; omega) (by simp only [Prg.dep] at hk; omega)
    simp [F_is_program, fnDen, d_is_program, Prg.pv, isT, PV.ty, q1, ih]
  | .th t u, n + 1, d + 1, hl, hd, hk => by
    have q1 : ¬ ((d : Nat) : Int) + 1 = 0 := by omega
    have i1 := is_program_ok t n d hl.1 (by simp only [Prg.dep] at hd; omega) (by simp only [Prg.dep] at hk; omega)
    have i2 := is_program_ok u n d hl.2 (by simp only [Prg.dep] at hd; omega) (by simp only [Prg.dep] at hk; omega)
    simp [F_is_program, fnDen, d_is_program, Prg.pv, isT, PV.ty, q1, i1, i2, lc_cons, lc_nil, lcTurn]
  | .oo t u, n + 1, d + 1, hl, hd, hk => by
    have q1 : ¬ ((d : Nat) : Int) + 1 = 0 := by omega
    have i1 := is_program_ok t n d hl.1 (by simp only [Prg.dep] at hd; omega) (by simp only [Prg.dep] at hk; omega)
    have i2 := is_program_ok u n d hl.2 (by simp only [Prg.dep] at hd; omega) (by simp only [Prg.dep] at hk; omega)
    simp [F_is_program, fnDen, d_is_program, Prg.pv, isT, PV.ty, q1, i1, i2, lc_cons, lc_nil, lcTurn]
theorem is_prog (p : Prg) (h : p.okp) : F_is_program 64 [p.pv, .int 60] = some (.ok (.bl true)) := is_program_ok p 64 60 h.1 (by have := h.2; omega) (by have := h.2; omega)
/-! ### names of tests -/
theorem nin_turn (n : Nat) (x y : PV) (c : Cell) (F : List Bool) (l : List Bool) (h : F_names_in n [y] = some (.ok (.tup (NV l)))) (hF : F.Nodup) (hl : l.Nodup) :
    sTurn (gxN 2) (sDrop (dUpdM 1 (dDicOf (dDc (dSeq (dCall (F_names_in n) [] (dCons (dVar 2) dNil))) (gxN 3) (Den.ret (.bl true)) (dVar 3) (Den.ret (.bl true)) [3])))) y [.v x, .dOf true (KN nm F), c, .un] = some (.nx [.v x, .dOf true (KN nm (adds F l)), .v y, .un]) :=
  upd_names nm_ok nm_inj 1 3 F l [.v x, .dOf true (KN nm F), .v y, .un] _ rfl rfl (by simp [h]) hF hl
theorem names_end (x : PV) (c d : Cell) (F : List Bool) (hF : F.Nodup) : sRet (dArgs qTuple (dCons (dLstOf (dArgs qSorted (dCons (dFreezeD 1) dNil))) dNil)) [.v x, .dOf true (KN nm F), c, d] = some (.rt (.tup (NV (pick (decide (false ∈ F)) (decide (true ∈ F))))) [.v x, .v (.dicOf (KN nm F)), c, d]) := by
  have q := sorted_kn (g := nm) (fun _ => sort_nm) hF
  have q' : qSorted [.dic ((KN nm F).map (·.1)) ((KN nm F).map (·.2))] = some (NV (pick (decide (false ∈ F)) (decide (true ∈ F)))) := q
  simp [PV.dicOf, Cell.dOf]
  simp [PV.dicOf] at q'
  rw [q']
  rfl
theorem pick_adds (F : List Bool) (t : Tst) (x : Bool) : decide (x ∈ adds F t.nms) = (decide (x ∈ F) || t.has x) := by
  by_cases h : t.has x = true
  · have : x ∈ adds F t.nms := mem_adds.mpr (.inr ((t.mem_nms x).mpr ((t.mem_said x).mpr h)))
    simp [h, this]
  · have : x ∈ adds F t.nms ↔ x ∈ F := mem_adds.trans ⟨fun z => z.elim id fun z => absurd ((t.mem_said x).mp ((t.mem_nms x).mp z)) h, .inl⟩
    simp [h, this]
theorem names_in_ok : ∀ (t : Tst) (n : Nat), t.dep < n → F_names_in n [t.pv] = some (.ok (.tup (NV t.nms)))
  | _, 0, h => by omega
  | .yes, n + 1, _ => by kernel_rfl
  | .no, n + 1, _ => by kernel_rfl
  | .is b, n + 1, _ => by cases b <;> kernel_rfl
  | .nt t, n + 1, hd => by
    have i1 := names_in_ok t n (by simp only [Tst.dep] at hd; omega)
    have t1 := nin_turn n (Tst.nt t).pv t.pv .un [] t.nms i1 List.nodup_nil (nodup_pick _ _)
    have e := names_end (Tst.nt t).pv (.v t.pv) .un (adds [] t.nms) (nodup_adds List.nodup_nil)
    rw [pick_adds, pick_adds] at e
    refine fn_rt rfl (seq_nx (e' := [.v (Tst.nt t).pv, .un, .un, .un]) (by simp [Tst.pv]) (seq_nx (e' := [.v (Tst.nt t).pv, .dOf true (KN nm []), .un, .un]) rfl (seq_nx (e' := [.v (Tst.nt t).pv, .dOf true (KN nm (adds [] t.nms)), .v t.pv, .un]) ?_ e)))
    have e0 : dSeq (dSl (dVar 0) (some (Den.ret (.int 1))) none) [.v (Tst.nt t).pv, .dOf true (KN nm []), .un, .un] = some (.ok [t.pv] [.v (Tst.nt t).pv, .dOf true (KN nm []), .un, .un]) := by simp [Tst.pv]
    rw [sFor_at, e0]
    simp only
    rw [loop_cons, t1]
    rfl
  | .an t u, n + 1, hd => by
    have i1 := names_in_ok t n (by simp only [Tst.dep] at hd; omega)
    have i2 := names_in_ok u n (by simp only [Tst.dep] at hd; omega)
    have t1 := nin_turn n (Tst.an t u).pv t.pv .un [] t.nms i1 List.nodup_nil (nodup_pick _ _)
    have t2 := nin_turn n (Tst.an t u).pv u.pv (.v t.pv) (adds [] t.nms) u.nms i2 (nodup_adds List.nodup_nil) (nodup_pick _ _)
    have e := names_end (Tst.an t u).pv (.v u.pv) .un (adds (adds [] t.nms) u.nms) (nodup_adds (nodup_adds List.nodup_nil))
    rw [pick_adds, pick_adds, pick_adds, pick_adds] at e
    refine fn_rt rfl (seq_nx (e' := [.v (Tst.an t u).pv, .un, .un, .un]) (by simp [Tst.pv]) (seq_nx (e' := [.v (Tst.an t u).pv, .dOf true (KN nm []), .un, .un]) rfl (seq_nx (e' := [.v (Tst.an t u).pv, .dOf true (KN nm (adds (adds [] t.nms) u.nms)), .v u.pv, .un]) ?_ e)))
    have e0 : dSeq (dSl (dVar 0) (some (Den.ret (.int 1))) none) [.v (Tst.an t u).pv, .dOf true (KN nm []), .un, .un] = some (.ok [t.pv, u.pv] [.v (Tst.an t u).pv, .dOf true (KN nm []), .un, .un]) := by simp [Tst.pv]
    rw [sFor_at, e0]
    simp only
    rw [loop_cons, t1]
    simp only
    rw [loop_cons, t2]
    rfl
  | .oor t u, n + 1, hd => by
    have i1 := names_in_ok t n (by simp only [Tst.dep] at hd; omega)
    have i2 := names_in_ok u n (by simp only [Tst.dep] at hd; omega)
    have t1 := nin_turn n (Tst.oor t u).pv t.pv .un [] t.nms i1 List.nodup_nil (nodup_pick _ _)
    have t2 := nin_turn n (Tst.oor t u).pv u.pv (.v t.pv) (adds [] t.nms) u.nms i2 (nodup_adds List.nodup_nil) (nodup_pick _ _)
    have e := names_end (Tst.oor t u).pv (.v u.pv) .un (adds (adds [] t.nms) u.nms) (nodup_adds (nodup_adds List.nodup_nil))
    rw [pick_adds, pick_adds, pick_adds, pick_adds] at e
    refine fn_rt rfl (seq_nx (e' := [.v (Tst.oor t u).pv, .un, .un, .un]) (by simp [Tst.pv]) (seq_nx (e' := [.v (Tst.oor t u).pv, .dOf true (KN nm []), .un, .un]) rfl (seq_nx (e' := [.v (Tst.oor t u).pv, .dOf true (KN nm (adds (adds [] t.nms) u.nms)), .v u.pv, .un]) ?_ e)))
    have e0 : dSeq (dSl (dVar 0) (some (Den.ret (.int 1))) none) [.v (Tst.oor t u).pv, .dOf true (KN nm []), .un, .un] = some (.ok [t.pv, u.pv] [.v (Tst.oor t u).pv, .dOf true (KN nm []), .un, .un]) := by simp [Tst.pv]
    rw [sFor_at, e0]
    simp only
    rw [loop_cons, t1]
    simp only
    rw [loop_cons, t2]
    rfl
end Lk01
set_option Elab.async false
set_option linter.all false
set_option maxRecDepth 100000
set_option maxHeartbeats 4000000
namespace Lk01
open PySem L2 Pu
/-! ### what lies within a program -/
theorem key_of_ok (p : Prg) (h : p.okp) : F_key_of [p.pv] = some (.ok (.str p.sh)) := by
  have := p.repr h.1 h.2
  simp [F_key_of, fnDen, d_key_of, this]
theorem parts_of_ok : ∀ p : Prg, F_parts_of [p.pv] = some (.ok (.tup (PPs p.parts)))
  | .st b => by simp [F_parts_of, fnDen, d_parts_of, Prg.pv, Prg.parts]
  | .te t => by simp [F_parts_of, fnDen, d_parts_of, Prg.pv, Prg.parts]
  | .lp a => by simp [F_parts_of, fnDen, d_parts_of, Prg.pv, Prg.parts]
  | .th a b => by simp [F_parts_of, fnDen, d_parts_of, Prg.pv, Prg.parts]
  | .oo a b => by simp [F_parts_of, fnDen, d_parts_of, Prg.pv, Prg.parts]
abbrev KP' (F : List Prg) : KP := F.map fun q => (q.key, q.pv)
def wiC : Den PV := dOp qGt (dLenM 2) (Den.ret (.int 0))
def wiB : SDen := sSeq (sSet 3 (dPopM 2)) (sIf (dInM true 1 (dCall F_key_of [] (dCons (dVar 3) dNil))) (sSeq (sSetKM 1 (dVar 3) (dCall F_key_of [] (dCons (dVar 3) dNil))) (sDrop (dExtM 2 (dRevL (dLstOf (dArgs qList (dCons (dCall F_parts_of [] (dCons (dVar 3) dNil)) dNil))))))) sNext)
abbrev wiE (x : PV) (F S : List Prg) (c : Cell) : Cells := [.v x, .dOf true (KP' F), .m true (PPs S).reverse, c]
theorem wi_c (x : PV) (F S : List Prg) (c : Cell) : wiC (wiE x F S c) = some (.ok (.bl (decide (0 < S.length))) (wiE x F S c)) := by
  simp [wiC, dLenM]
theorem wi_in (x : PV) (F S : List Prg) (p : Prg) (h : p.okp) : dInM true 1 (dCall F_key_of [] (dCons (dVar 3) dNil)) (wiE x F S (.v p.pv)) = some (.ok (.bl (!decide (p ∈ F))) (wiE x F S (.v p.pv))) := by
  have g := get_adds (key := Prg.key) (val := Prg.pv) Prg.key_inj F p
  have k := key_of_ok p h
  unfold dInM
  simp only [bind_at, dCall_eq, dCons_eq, var_at, List.getElem?_cons_succ, List.getElem?_cons_zero, dNil_eq, ret_at, List.append_nil, callK_at, k, Prg.key_pv, Cell.dOf, zip_parts]
  rw [g]
  cases decide (p ∈ F) <;> rfl
theorem wi_pop (x : PV) (F S : List Prg) (p : Prg) (c : Cell) : sSet 3 (dPopM 2) (wiE x F (p :: S) c) = some (.nx (wiE x F S (.v p.pv))) := by
  simp [dPopM]
theorem wi_old (x : PV) (F S : List Prg) (p : Prg) (c : Cell) (h : p.okp) (hp : p ∈ F) : wiB (wiE x F (p :: S) c) = some (.nx (wiE x F S (.v p.pv))) := by
  refine seq_nx (wi_pop x F S p c) (if_nx ?_)
  rw [wi_in x F S p h, decide_eq_true hp]
  rfl
theorem wi_new (x : PV) (F S : List Prg) (p : Prg) (c : Cell) (h : p.okp) (hp : p ∉ F) (hF : F.length ≤ 10000) (hS : S.length ≤ 10000) : wiB (wiE x F (p :: S) c) = some (.nx (wiE x (F ++ [p]) (p.parts ++ S) (.v p.pv))) := by
  have k := key_of_ok p h
  have big : 20004 ≤ sizeLine := by decide
  refine seq_nx (wi_pop x F S p c) (if_t (e' := wiE x F S (.v p.pv)) (by rw [wi_in x F S p h, decide_eq_false hp]; rfl) (seq_nx (e' := wiE x (F ++ [p]) S (.v p.pv)) ?_ ?_))
  · have m := put_add1 (key := Prg.key) (val := Prg.pv) Prg.key_inj F p
    have e1 : add1 F p = F ++ [p] := if_neg hp
    rw [e1] at m
    have l1 : F.length < sizeLine := by omega
    unfold sSetKM
    simp only [sOf_at, dCall_eq, bind_at, dCons_eq, var_at, List.getElem?_cons_succ, List.getElem?_cons_zero, dNil_eq, ret_at, List.append_nil, callK_at, k, Prg.key_pv, Cell.dOf, zip_parts, List.length_map, l1, if_true]
    rw [m]
    rfl
  · have l2 : (PPs p.parts).length ≤ 2 := by cases p <;> simp [Prg.parts]
    have l3 : (PPs S).reverse.length + (PPs p.parts).reverse.length ≤ sizeLine := by
      rw [List.length_reverse, List.length_reverse, show (PPs S).length = S.length from List.length_map _]
      omega
    have e : (PPs S).reverse ++ (PPs p.parts).reverse = (PPs (p.parts ++ S)).reverse := by rw [← List.reverse_append, ← List.map_append]
    unfold dExtM dRevL
    simp only [drop_st, List.getElem?_cons_succ, List.getElem?_cons_zero, bind_at, dLstOf_eq, dArgs_eq, dCons_eq, dCall_eq, var_at, dNil_eq, ret_at, List.append_nil, callK_at, parts_of_ok, lift_at, qList_tup, l3, if_true, e]
    rfl
theorem while_nx {c : Den PV} {b : SDen} {n : Nat} {e e1 e2 : Cells} (h : c e = some (.ok (.bl true) e1)) (k : b e1 = some (.nx e2)) : sWhile c b (n + 1) e = sWhile c b n e2 := by
  refine (congrFun (sWhile.eq_2 c b n) e).trans ?_
  simp only [h, k]
theorem while_end {c : Den PV} {b : SDen} {n : Nat} {e e1 : Cells} (h : c e = some (.ok (.bl false) e1)) : sWhile c b (n + 1) e = some (.nx e1) := by
  refine (congrFun (sWhile.eq_2 c b n) e).trans ?_
  simp only [h]
def Shut (k : Nat) (F : List Prg) : Prop := ∀ q ∈ F, q.psz < k → ∀ r ∈ q.pre, r ∈ F
theorem Shut.less {k j : Nat} {F : List Prg} (h : Shut k F) (l : j ≤ k) : Shut j F := fun q hq s => h q hq (by omega)
theorem Shut.adds {k : Nat} {F : List Prg} (h : Shut k F) (p : Prg) : Shut k (adds F p.pre) := fun q hq s r hr => by
  rcases mem_adds.mp hq with hq | hq
  · exact mem_adds.mpr (.inl (h q hq s r hr))
  · exact mem_adds.mpr (.inr (Prg.pre_pre hq hr))
theorem Shut.put {F : List Prg} {p : Prg} (h : Shut (p.psz + 1) F) : Shut p.psz (F ++ [p]) := fun q hq s r hr => by
  rcases List.mem_append.mp hq with hq | hq
  · exact List.mem_append_left _ (h q hq (by omega) r hr)
  · rw [List.mem_singleton] at hq; subst hq; omega
theorem okp_lp {a : Prg} (h : (Prg.lp a).okp) : a.okp := ⟨h.1, by have := h.2; simp only [Prg.dep] at this; omega⟩
theorem okp_th {a b : Prg} (h : (Prg.th a b).okp) : a.okp ∧ b.okp := ⟨⟨h.1.1, by have := h.2; simp only [Prg.dep] at this; omega⟩, ⟨h.1.2, by have := h.2; simp only [Prg.dep] at this; omega⟩⟩
theorem okp_oo {a b : Prg} (h : (Prg.oo a b).okp) : a.okp ∧ b.okp := ⟨⟨h.1.1, by have := h.2; simp only [Prg.dep] at this; omega⟩, ⟨h.1.2, by have := h.2; simp only [Prg.dep] at this; omega⟩⟩
theorem wi_walk (x : PV) : ∀ (p : Prg) (F S : List Prg) (c : Cell), p.okp → Shut (p.psz + 1) F → F.length + p.psz ≤ 10000 → S.length + p.psz ≤ 10000 → ∃ j ≤ p.psz, ∃ c', ∀ n, sWhile wiC wiB (n + j) (wiE x F (p :: S) c) = sWhile wiC wiB n (wiE x (adds F p.pre) S c') := by
  intro p
  have old : ∀ (p : Prg) (F S : List Prg) (c : Cell), p.okp → Shut (p.psz + 1) F → p ∈ F → ∃ j ≤ p.psz, ∃ c', ∀ n, sWhile wiC wiB (n + j) (wiE x F (p :: S) c) = sWhile wiC wiB n (wiE x (adds F p.pre) S c') := fun p F S c h sh hp => by
    refine ⟨1, p.psz_pos, .v p.pv, fun n => ?_⟩
    have e : adds F p.pre = F := adds_in (sh p hp (by omega))
    rw [e]
    exact while_nx (by rw [wi_c]; rfl) (wi_old x F S p c h hp)
  have new : ∀ (p : Prg) (F S : List Prg) (c : Cell), p.okp → p ∉ F → F.length + p.psz ≤ 10000 → S.length + p.psz ≤ 10000 → ∀ n, sWhile wiC wiB (n + 1) (wiE x F (p :: S) c) = sWhile wiC wiB n (wiE x (F ++ [p]) (p.parts ++ S) (.v p.pv)) := fun p F S c h hp lf ls n =>
    while_nx (by rw [wi_c]; rfl) (wi_new x F S p c h hp (by omega) (by omega))
  have ea : ∀ (p : Prg) (F : List Prg) (l : List Prg), p ∉ F → adds F (p :: l) = adds (F ++ [p]) l := fun p F l hp => by
    rw [adds_cons]; unfold add1; rw [if_neg hp]
  induction p with
  | st b =>
    intro F S c h sh lf ls
    by_cases hp : Prg.st b ∈ F
    · exact old _ F S c h sh hp
    · exact ⟨1, Nat.le_refl _, _, fun n => by rw [new _ F S c h hp lf ls, Prg.pre, ea _ _ _ hp]; rfl⟩
  | te t =>
    intro F S c h sh lf ls
    by_cases hp : Prg.te t ∈ F
    · exact old _ F S c h sh hp
    · exact ⟨1, Nat.le_refl _, _, fun n => by rw [new _ F S c h hp lf ls, Prg.pre, ea _ _ _ hp]; rfl⟩
  | lp a ih =>
    intro F S c h sh lf ls
    by_cases hp : Prg.lp a ∈ F
    · exact old _ F S c h sh hp
    · have sh' := sh.put
      rw [Prg.psz_lp] at sh' lf ls
      obtain ⟨j, hj, c', e⟩ := ih (F ++ [Prg.lp a]) S (.v (Prg.lp a).pv) (okp_lp h) sh' (by rw [List.length_append, List.length_singleton]; omega) (by omega)
      refine ⟨j + 1, by rw [Prg.psz_lp]; omega, c', fun n => ?_⟩
      rw [← Nat.add_assoc, new _ F S c h hp lf ls, Prg.pre, ea _ _ _ hp]
      exact e n
  | th a b ih ih2 =>
    intro F S c h sh lf ls
    by_cases hp : Prg.th a b ∈ F
    · exact old _ F S c h sh hp
    · have sh' := sh.put
      rw [Prg.psz_th] at sh' lf ls
      obtain ⟨j, hj, c', e⟩ := ih (F ++ [Prg.th a b]) (b :: S) (.v (Prg.th a b).pv) (okp_th h).1 (sh'.less (by have := b.psz_pos; omega)) (by rw [List.length_append, List.length_singleton]; omega) (by rw [List.length_cons]; omega)
      have lb := adds_len (xs := a.pre) (F := F ++ [Prg.th a b])
      rw [List.length_append, List.length_singleton] at lb
      obtain ⟨j2, hj2, c2, e2⟩ := ih2 (adds (F ++ [Prg.th a b]) a.pre) S c' (okp_th h).2 ((sh'.adds a).less (by have := a.psz_pos; omega)) (by have : a.pre.length = a.psz := rfl; omega) (by omega)
      refine ⟨j2 + j + 1, by rw [Prg.psz_th]; omega, c2, fun n => ?_⟩
      rw [← Nat.add_assoc, ← Nat.add_assoc, new _ F S c h hp (by rw [Prg.psz_th]; exact lf) (by rw [Prg.psz_th]; exact ls), Prg.pre, ea _ _ _ hp, adds_append]
      exact (e (n + j2)).trans (e2 n)
  | oo a b ih ih2 =>
    intro F S c h sh lf ls
    by_cases hp : Prg.oo a b ∈ F
    · exact old _ F S c h sh hp
    · have sh' := sh.put
      rw [Prg.psz_oo] at sh' lf ls
      obtain ⟨j, hj, c', e⟩ := ih (F ++ [Prg.oo a b]) (b :: S) (.v (Prg.oo a b).pv) (okp_oo h).1 (sh'.less (by have := b.psz_pos; omega)) (by rw [List.length_append, List.length_singleton]; omega) (by rw [List.length_cons]; omega)
      have lb := adds_len (xs := a.pre) (F := F ++ [Prg.oo a b])
      rw [List.length_append, List.length_singleton] at lb
      obtain ⟨j2, hj2, c2, e2⟩ := ih2 (adds (F ++ [Prg.oo a b]) a.pre) S c' (okp_oo h).2 ((sh'.adds a).less (by have := a.psz_pos; omega)) (by have : a.pre.length = a.psz := rfl; omega) (by omega)
      refine ⟨j2 + j + 1, by rw [Prg.psz_oo]; omega, c2, fun n => ?_⟩
      rw [← Nat.add_assoc, ← Nat.add_assoc, new _ F S c h hp (by rw [Prg.psz_oo]; exact lf) (by rw [Prg.psz_oo]; exact ls), Prg.pre, ea _ _ _ hp, adds_append]
      exact (e (n + j2)).trans (e2 n)
theorem psz_few (p : Prg) (h : p.okp) : p.psz ≤ 2304 := by
  have h1 := p.psz_le
  have h2 := p.wt_le h.1
  have h3 := Nat.pow_le_pow_right (n := 2) (by omega) h.2
  omega
theorem within_ok (p : Prg) (h : p.okp) : F_within [p.pv] = some (.ok (.tup (PPs p.once))) := by
  have few := psz_few p h
  obtain ⟨j, hj, c', e⟩ := wi_walk p.pv p [] [] .un h (fun q hq => (List.not_mem_nil hq).elim) (by rw [List.length_nil]; omega) (by rw [List.length_nil]; omega)
  have w : sWhile wiC wiB 100000 (wiE p.pv [] [p] .un) = some (.nx (wiE p.pv p.once [] c')) := by
    have e1 := e (99999 - j + 1)
    rw [show 99999 - j + 1 + j = 100000 by omega] at e1
    rw [e1]
    exact while_end (by rw [wi_c]; rfl)
  refine fn_rt (e' := [.v p.pv, .v (.dic ((KP' p.once).map (·.1)) (PPs p.once)), .m true [], c']) rfl (seq_nx (e' := [.v p.pv, .dOf true [], .un, .un]) rfl (seq_nx (e' := wiE p.pv [] [p] .un) (by simp [Cell.dOf]) (seq_nx w ?_)))
  have e2 : (KP' p.once).map (·.2) = PPs p.once := by rw [List.map_map]; rfl
  unfold dTupV dVals
  simp only [ret_st, bind_at, freezeD_at, List.getElem?_cons_succ, List.getElem?_cons_zero, Cell.dOf, ret_at, lift_at, e2]
  rfl
end Lk01
set_option Elab.async false
set_option linter.all false
set_option maxRecDepth 100000
set_option maxHeartbeats 4000000
namespace Lk01
open PySem L2 Pu
/-! ### names and steps of a program -/
def tinB : SDen := sIf (dOp qEq (dOp qIx (dVar 2) (Den.ret (.int 0))) (Den.ret (.str "test"))) (sDrop (dUpdM 1 (dDicOf (dDc (dSeq (dCall (F_names_in 64) [] (dCons (dOp qIx (dVar 2) (Den.ret (.int 1))) dNil))) (gxN 3) (Den.ret (.bl true)) (dVar 3) (Den.ret (.bl true)) [3])))) sNext
theorem tin_turn (x : PV) (c : Cell) (F : List Bool) (q : Prg) (hq : q.low) (hF : F.Nodup) : sTurn (gxN 2) tinB q.pv [.v x, .dOf true (KN nm F), c, .un] = some (.nx [.v x, .dOf true (KN nm (adds F q.testL)), .v q.pv, .un]) := by
  show tinB [.v x, .dOf true (KN nm F), .v q.pv, .un] = _
  cases q with
  | te t =>
    have hq' : t.dep ≤ 2 := hq
    have h := names_in_ok t 64 (by omega)
    exact if_t (e' := [.v x, .dOf true (KN nm F), .v (Prg.te t).pv, .un]) (by simp [Prg.pv]) (upd_names nm_ok nm_inj 1 3 F t.nms [.v x, .dOf true (KN nm F), .v (Prg.te t).pv, .un] _ rfl rfl (by simp [Prg.pv, h]) hF (nodup_pick _ _))
  | st b => exact if_nx (e' := [.v x, .dOf true (KN nm F), .v (Prg.st b).pv, .un]) (by simp [Prg.pv])
  | lp a => exact if_nx (e' := [.v x, .dOf true (KN nm F), .v (Prg.lp a).pv, .un]) (by simp [Prg.pv])
  | th a b => exact if_nx (e' := [.v x, .dOf true (KN nm F), .v (Prg.th a b).pv, .un]) (by simp [Prg.pv])
  | oo a b => exact if_nx (e' := [.v x, .dOf true (KN nm F), .v (Prg.oo a b).pv, .un]) (by simp [Prg.pv])
theorem tin_loop (x : PV) : ∀ (L : List Prg) (F : List Bool) (c : Cell), (∀ q ∈ L, q.low) → F.Nodup → ∃ c', sLoop (gxN 2) tinB (PPs L) [.v x, .dOf true (KN nm F), c, .un] = some (.nx [.v x, .dOf true (KN nm (adds F (L.flatMap Prg.testL))), c', .un])
  | [], F, c, _, _ => ⟨c, rfl⟩
  | q :: L, F, c, h, hF => by
    obtain ⟨c', e⟩ := tin_loop x L (adds F q.testL) (.v q.pv) (fun r hr => h r (List.mem_cons_of_mem _ hr)) (nodup_adds hF)
    refine ⟨c', ?_⟩
    rw [Pu.pps_cons, loop_cons, tin_turn x c F q (h q List.mem_cons_self) hF, List.flatMap_cons, adds_append]
    exact e
theorem mem_flat {f : Prg → List Bool} {p : Prg} {x : Bool} : x ∈ adds [] (p.once.flatMap f) ↔ x ∈ p.pre.flatMap f := by
  rw [mem_adds, List.mem_flatMap, List.mem_flatMap]
  simp only [Prg.mem_once, List.not_mem_nil, false_or]
theorem once_ok {p : Prg} (h : p.okp) : ∀ q ∈ p.once, q.okp := fun q hq => Prg.pre_ok h.1 h.2 q (Prg.mem_once.mp hq)
theorem tests_in_ok (p : Prg) (h : p.okp) : F_tests_in [p.pv] = some (.ok (.tup (NV p.nms))) := by
  obtain ⟨c', e⟩ := tin_loop p.pv p.once [] .un (fun q hq => (once_ok h q hq).1) List.nodup_nil
  have n := names_end p.pv c' .un (adds [] (p.once.flatMap Prg.testL)) (nodup_adds List.nodup_nil)
  simp only [mem_flat] at n
  refine fn_rt rfl (seq_nx (e' := [.v p.pv, .dOf true (KN nm []), .un, .un]) rfl (seq_nx (e' := [.v p.pv, .dOf true (KN nm (adds [] (p.once.flatMap Prg.testL))), c', .un]) ?_ n))
  have e0 : dSeq (dCall F_within [] (dCons (dVar 0) dNil)) [.v p.pv, .dOf true (KN nm []), .un, .un] = some (.ok (PPs p.once) [.v p.pv, .dOf true (KN nm []), .un, .un]) := by simp [within_ok p h]
  rw [sFor_at, e0]
  exact e
def stK : Prg → Key × PV
  | .st s => (.inr (sn s), .bl true)
  | _ => (.inl 0, .bl true)
def isSt : Prg → Bool
  | .st _ => true
  | _ => false
theorem st_keys : ∀ L : List Prg, (L.filter isSt).map stK = KN sn (L.flatMap Prg.stepL)
  | [] => rfl
  | q :: L => by
    cases q with
    | st b => show stK (.st b) :: ((L.filter isSt).map stK) = _; rw [st_keys L]; rfl
    | te t => exact st_keys L
    | lp a => exact st_keys L
    | th a b => exact st_keys L
    | oo a b => exact st_keys L
theorem sin_turn (x : PV) (q : Prg) : dcTurn (gxN 1) (dOp qEq (dOp qIx (dVar 1) (Den.ret (.int 0))) (Den.ret (.str "step"))) (dOp qIx (dVar 1) (Den.ret (.int 1))) (Den.ret (.bl true)) [1] q.pv [.v x, .un] = some (if isSt q = true then some (stK q) else none, [.v x, .un]) := by
  cases q with
  | st b =>
    have := sn_ok b
    simp [dcTurn, Prg.pv, PV.key, isSt, stK, this]
  | te t => simp [dcTurn, Prg.pv, isSt]
  | lp a => simp [dcTurn, Prg.pv, isSt]
  | th a b => simp [dcTurn, Prg.pv, isSt]
  | oo a b => simp [dcTurn, Prg.pv, isSt]
theorem steps_in_ok (p : Prg) (h : p.okp) : F_steps_in [p.pv] = some (.ok (.tup (SV p.sts))) := by
  have q := dc_map (gx := gxN 1) (dc := dOp qEq (dOp qIx (dVar 1) (Den.ret (.int 0))) (Den.ret (.str "step"))) (dk := dOp qIx (dVar 1) (Den.ret (.int 1))) (dv := Den.ret (.bl true)) (own := [1]) Prg.pv isSt stK [.v p.pv, .un] p.once [] fun q _ => sin_turn p.pv q
  rw [st_keys] at q
  have m := puts_adds (key := fun b => (.inr (sn b) : Key)) (val := fun _ => PV.bl true) (kn_inj sn_inj) (p.once.flatMap Prg.stepL) []
  rw [show putsP [] (KN sn (p.once.flatMap Prg.stepL)) = KN sn (adds [] (p.once.flatMap Prg.stepL)) from m] at q
  have s := sorted_kn (g := sn) (fun _ => sort_sn) (l := adds [] (p.once.flatMap Prg.stepL)) (nodup_adds List.nodup_nil)
  simp only [mem_flat] at s
  refine fn_rt (c := [.v p.pv, .un]) (e' := [.v p.pv, .un]) rfl ?_
  have e1 : dDicOf (dDc (dSeq (dCall F_within [] (dCons (dVar 0) dNil))) (gxN 1) (dOp qEq (dOp qIx (dVar 1) (Den.ret (.int 0))) (Den.ret (.str "step"))) (dOp qIx (dVar 1) (Den.ret (.int 1))) (Den.ret (.bl true)) [1]) [.v p.pv, .un] = some (.ok (.dicOf (KN sn (adds [] (p.once.flatMap Prg.stepL)))) [.v p.pv, .un]) := by
    simp only [dDicOf_eq, bind_at, dDc_at, dSeq_eq, dCall_eq, dCons_eq, var_at, List.getElem?_cons_zero, dNil_eq, ret_at, List.append_nil, callK_at, within_ok p h, lift_at, seq_tup, wipeE_cons, wipeE_nil, List.set_cons_succ, List.set_cons_zero, q]
  unfold d_steps_in
  simp only [ret_st, dArgs_eq, bind_at, dCons_eq, dLstOf_eq, e1, dNil_eq, ret_at, s, lift_at, qTuple_lst]
  rfl
/-! ### scenes -/
def atomsV (ns : List Bool) : PV := .tup (rgP ((2 ^ ns.length : Nat) : Int))
def sceneV (ns ss : List Bool) : PV := .ins "Scene" ["names", "steps", "atoms"] [.tup (NV ns), .tup (SV ss), atomsV ns]
theorem init_pick (a b c d : Bool) : F_Scene____init__ [] [] [.tup (NV (pick a b)), .tup (SV (pick c d))] = some (.ok (.non, ["names", "steps", "atoms"], [.tup (NV (pick a b)), .tup (SV (pick c d)), atomsV (pick a b)])) := by
  cases a <;> cases b <;> cases c <;> cases d <;> kernel_rfl
theorem init_S6 (r : S6) : F_Scene____init__ [] [] [.tup (NV r.ns), .tup (SV r.ss)] = some (.ok (.non, ["names", "steps", "atoms"], [.tup (NV r.ns), .tup (SV r.ss), atomsV r.ns])) := by
  cases r <;> kernel_rfl
theorem init_S6n (r : S6) : F_Scene____init__ [] [] [.tup (NV r.ns), .tup []] = some (.ok (.non, ["names", "steps", "atoms"], [.tup (NV r.ns), .tup (SV []), atomsV r.ns])) := by
  cases r <;> kernel_rfl
theorem make_at (c : Str) (F : FnI) (ds : Den (List PV)) (e e1 : Cells) (args : List PV) (ns : List Str) (vs : List PV) (h : ds e = some (.ok args e1)) (k : F [] [] args = some (.ok (.non, ns, vs))) : dMake c F ds e = some (.ok (.ins c ns vs) e1) := by
  unfold dMake
  rw [bind_at, h]
  simp only [k]
theorem pick_pick (a b : Bool) : pick (decide (false ∈ pick a b)) (decide (true ∈ pick a b)) = pick a b := by cases a <;> cases b <;> decide
/-! ### what fits -/
theorem in_nm (b : Bool) (l : List Bool) : qIn (.str (nm b)) (.tup (NV l)) = some (.bl (decide (b ∈ l))) := by
  have e : NV l = (l.map nm).map .str := by rw [List.map_map]; rfl
  rw [e, qIn_strs]
  have : nm b ∈ l.map nm ↔ b ∈ l := by
    rw [List.mem_map]
    exact ⟨fun ⟨a, ha, e⟩ => nm_inj _ _ e ▸ ha, fun h => ⟨b, h, rfl⟩⟩
  rw [decide_eq_decide.mpr this]
theorem in_sn (b : Bool) (l : List Bool) : qIn (.str (sn b)) (.tup (SV l)) = some (.bl (decide (b ∈ l))) := by
  have e : SV l = (l.map sn).map .str := by rw [List.map_map]; rfl
  rw [e, qIn_strs]
  have : sn b ∈ l.map sn ↔ b ∈ l := by
    rw [List.mem_map]
    exact ⟨fun ⟨a, ha, e⟩ => sn_inj _ _ e ▸ ha, fun h => ⟨b, h, rfl⟩⟩
  rw [decide_eq_decide.mpr this]
theorem fits_ok (ns ss : List Bool) (p : Prg) (h : p.okp) : F_fits [sceneV ns ss, p.pv] = some (.ok (.bl (p.nms.all (fun b => decide (b ∈ ns)) && p.sts.all (fun b => decide (b ∈ ss))))) := by
  have e1 := is_prog p h
  have e2 := tests_in_ok p h
  have e3 := steps_in_ok p h
  have f1 : ∀ (c d : Cell), dFld ["Scene"] "names" (dVar 0) [.v (sceneV ns ss), .v p.pv, c, d] = some (.ok (.tup (NV ns)) [.v (sceneV ns ss), .v p.pv, c, d]) := fun _ _ => rfl
  have f2 : ∀ (c d : Cell), dFld ["Scene"] "steps" (dVar 0) [.v (sceneV ns ss), .v p.pv, c, d] = some (.ok (.tup (SV ss)) [.v (sceneV ns ss), .v p.pv, c, d]) := fun _ _ => rfl
  have q1 := lc_mapT (gx := gxN 2) (dc := Den.ret (.bl true)) (de := dOp qIn (dVar 2) (dFld ["Scene"] "names" (dVar 0))) (own := [2]) (fun b => .str (nm b)) (fun b => .bl (decide (b ∈ ns))) [.v (sceneV ns ss), .v p.pv, .un, .un] p.nms [] fun b _ => by
    simp [lcTurn, f1, in_nm]
  have q2 := lc_mapT (gx := gxN 3) (dc := Den.ret (.bl true)) (de := dOp qIn (dVar 3) (dFld ["Scene"] "steps" (dVar 0))) (own := [3]) (fun b => .str (sn b)) (fun b => .bl (decide (b ∈ ss))) [.v (sceneV ns ss), .v p.pv, .un, .un] p.sts [] fun b _ => by
    simp [lcTurn, f2, in_sn]
  rw [List.nil_append] at q1 q2
  have a1 := qAll_bls (fun b => decide (b ∈ ns)) p.nms
  have a2 := qAll_bls (fun b => decide (b ∈ ss)) p.sts
  unfold F_fits fnDen d_fits
  simp only [List.map_cons, List.map_nil, List.length_cons, List.length_nil, List.cons_append, List.nil_append, seq_at, if_at, dNot_eq, bool_at, dCall_eq, bind_at, dCons_eq, var_at, List.getElem?_cons_succ, List.getElem?_cons_zero, dNil_eq, ret_at, callK_at, e1, Bool.not_true, Bool.false_eq_true, if_false, next_at, List.replicate, dArgs_eq, dLstOf_eq, dLc_at, dSeq_eq, e2, lift_at, seq_tup, wipeE_cons, wipeE_nil, List.set_cons_succ, List.set_cons_zero, List.append_nil, q1, a1]
  cases hn : p.nms.all fun b => decide (b ∈ ns) with
  | false => simp
  | true =>
    simp only [Bool.not_true, Bool.false_eq_true, if_false, ret_st, bind_at, e3, lift_at, seq_tup, q2, a2, dArgs_eq, dLstOf_eq, dLc_at, dSeq_eq, dCall_eq, dCons_eq, var_at, List.getElem?_cons_succ, List.getElem?_cons_zero, dNil_eq, ret_at, callK_at, wipeE_cons, wipeE_nil, List.set_cons_succ, List.set_cons_zero, List.append_nil, Bool.true_and]
theorem in_nms {p : Prg} {x : Bool} : x ∈ p.nms ↔ x ∈ p.pre.flatMap Prg.testL := by
  rw [mem_pick]
  unfold Prg.hasN
  cases x <;> simp
theorem in_sts {p : Prg} {x : Bool} : x ∈ p.sts ↔ x ∈ p.pre.flatMap Prg.stepL := by
  rw [mem_pick]
  unfold Prg.hasS
  cases x <;> simp
theorem tover_said {ns : List Bool} : ∀ {t : Tst}, tover ns t → ∀ x ∈ t.said, x ∈ ns
  | .yes, _, x, h => (List.not_mem_nil h).elim
  | .no, _, x, h => (List.not_mem_nil h).elim
  | .is s, o, x, h => by rw [List.mem_singleton.mp h]; exact o
  | .nt a, o, x, h => tover_said (t := a) o x h
  | .an a b, o, x, h => (List.mem_append.mp h).elim (tover_said (t := a) o.1 x) (tover_said (t := b) o.2 x)
  | .oor a b, o, x, h => (List.mem_append.mp h).elim (tover_said (t := a) o.1 x) (tover_said (t := b) o.2 x)
theorem pover_pre {ns ss : List Bool} : ∀ {p : Prg}, pover ns ss p → ∀ q ∈ p.pre, pover ns ss q
  | .st _, o, q, h => by rw [List.mem_singleton.mp h]; exact o
  | .te _, o, q, h => by rw [List.mem_singleton.mp h]; exact o
  | .lp a, o, q, h => (List.mem_cons.mp h).elim (fun e => by rw [e]; exact o) (pover_pre (p := a) o q)
  | .th a b, o, q, h => (List.mem_cons.mp h).elim (fun e => by rw [e]; exact o) fun h => (List.mem_append.mp h).elim (pover_pre (p := a) o.1 q) (pover_pre (p := b) o.2 q)
  | .oo a b, o, q, h => (List.mem_cons.mp h).elim (fun e => by rw [e]; exact o) fun h => (List.mem_append.mp h).elim (pover_pre (p := a) o.1 q) (pover_pre (p := b) o.2 q)
theorem pover_nms {ns ss : List Bool} {p : Prg} (o : pover ns ss p) : p.nms.all (fun b => decide (b ∈ ns)) = true := by
  rw [List.all_eq_true]
  intro x hx
  obtain ⟨q, hq, hx⟩ := List.mem_flatMap.mp (in_nms.mp hx)
  have oq := pover_pre o q hq
  cases q with
  | te t => exact decide_eq_true (tover_said oq x ((t.mem_nms x).mp hx))
  | _ => exact (List.not_mem_nil hx).elim
theorem pover_sts {ns ss : List Bool} {p : Prg} (o : pover ns ss p) : p.sts.all (fun b => decide (b ∈ ss)) = true := by
  rw [List.all_eq_true]
  intro x hx
  obtain ⟨q, hq, hx⟩ := List.mem_flatMap.mp (in_sts.mp hx)
  have oq := pover_pre o q hq
  cases q with
  | st t => rw [List.mem_singleton.mp hx]; exact decide_eq_true oq
  | _ => exact (List.not_mem_nil hx).elim
theorem fits_over {ns ss : List Bool} {p : Prg} (h : p.okp) (o : pover ns ss p) : F_fits [sceneV ns ss, p.pv] = some (.ok (.bl true)) := by
  rw [fits_ok ns ss p h, pover_nms o, pover_sts o]; rfl
theorem fits_none {ns ss : List Bool} {p : Prg} (h : p.okp) (o : pover ns ss p) : F_fits [sceneV ns [], p.pv] = some (.ok (.bl (decide (p.sts.length = 0)))) := by
  rw [fits_ok ns [] p h, pover_nms o, Bool.true_and]
  congr 3
  cases p.sts <;> simp
def lookB : SDen := sIf (dNot (dCall F_fits [] (dCons (dVar 0) (dCons (dVar 2) dNil)))) (sRaise "BadProgram") sNext
theorem look_turn (s x c : PV) (d : Cell) (b : Bool) (h : F_fits [s, x] = some (.ok (.bl b))) : sTurn (gxN 2) lookB x [.v s, .v c, d] = (if b then some (.nx [.v s, .v c, .v x]) else some (.ex ⟨"BadProgram", [], []⟩ [.v s, .v c, .v x])) := by
  cases b <;> simp [sTurn, lookB, h]
theorem look_two (s x y : PV) (b : Bool) (hx : F_fits [s, x] = some (.ok (.bl true))) (hy : F_fits [s, y] = some (.ok (.bl b))) : F_look_at [s, .tup [x, y]] = (if b then some (.ok .non) else some (.error ⟨"BadProgram", [], []⟩)) := by
  have e : sFor (dSeq (dVar 1)) (gxN 2) lookB [.v s, .v (.tup [x, y]), .un] = (if b then some (.nx [.v s, .v (.tup [x, y]), .v y]) else some (.ex ⟨"BadProgram", [], []⟩ [.v s, .v (.tup [x, y]), .v y])) := by
    rw [sFor_at, show dSeq (dVar 1) [.v s, .v (.tup [x, y]), .un] = some (.ok [x, y] [.v s, .v (.tup [x, y]), .un]) from rfl]
    simp only
    rw [loop_cons, look_turn s x _ _ true hx]
    simp only [if_true]
    rw [loop_cons, look_turn s y _ _ b hy]
    cases b <;> rfl
  cases b with
  | true => exact fn_nx rfl e
  | false => exact fn_ex rfl e
theorem look_one (s x : PV) (b : Bool) (hx : F_fits [s, x] = some (.ok (.bl b))) : F_look_at [s, .tup [x]] = (if b then some (.ok .non) else some (.error ⟨"BadProgram", [], []⟩)) := by
  have e : sFor (dSeq (dVar 1)) (gxN 2) lookB [.v s, .v (.tup [x]), .un] = (if b then some (.nx [.v s, .v (.tup [x]), .v x]) else some (.ex ⟨"BadProgram", [], []⟩ [.v s, .v (.tup [x]), .v x])) := by
    rw [sFor_at, show dSeq (dVar 1) [.v s, .v (.tup [x]), .un] = some (.ok [x] [.v s, .v (.tup [x]), .un]) from rfl]
    simp only
    rw [loop_cons, look_turn s x _ _ b hx]
    cases b <;> rfl
  cases b with
  | true => exact fn_nx rfl e
  | false => exact fn_ex rfl e
theorem distinct_all (L : List Prg) (hl : L.length ≤ 100000) (h : ∀ q ∈ L, q.okp) (v : PV) (hv : v = .lst (PPs L) ∨ v = .tup (PPs L)) : F_distinct [v] = some (.ok (.tup (sortP (PPs (adds [] L))))) := by
  have q := dc_map (gx := gxN 1) (dc := Den.ret (.bl true)) (dk := dCall F_key_of [] (dCons (dVar 1) dNil)) (dv := dVar 1) (own := [1]) Prg.pv (fun _ => true) (fun q => (q.key, q.pv)) [.v v, .un] L [] fun q hq => by
    have k := key_of_ok q (h q hq)
    simp only [dcTurn, gxN_at, List.length_cons, List.length_nil, show 1 < 0 + 1 + 1 from by omega, if_true, List.set_cons_succ, List.set_cons_zero, ret_at, dCall_eq, bind_at, dCons_eq, var_at, List.getElem?_cons_succ, List.getElem?_cons_zero, dNil_eq, List.append_nil, callK_at, k, Prg.key_pv, wipeE_cons, wipeE_nil]
  rw [List.filter_eq_self.mpr (fun _ _ => rfl), show putsP [] (L.map fun q => (q.key, q.pv)) = KP' (adds [] L) from puts_adds Prg.key_inj L []] at q
  have ok : sortOk (PPs (adds [] L)) = true := sortOk_pps _ (by have := adds_len (xs := L) (F := []); rw [List.length_nil] at this; omega) fun p hp => h p ((mem_adds.mp hp).elim (fun z => (List.not_mem_nil z).elim) id)
  have e2 : (KP' (adds [] L)).map (·.2) = PPs (adds [] L) := by rw [List.map_map]; rfl
  refine fn_rt (c := [.v v, .un]) (e' := [.v v, .un]) rfl ?_
  have e0 : dSeq (dVar 0) [.v v, .un] = some (.ok (PPs L) [.v v, .un]) := by rcases hv with rfl | rfl <;> rfl
  unfold d_distinct dSortV dVals
  simp only [ret_st, dArgs_eq, bind_at, dCons_eq, dLstOf_eq, dDicOf_eq, dDc_at, e0, wipeE_cons, wipeE_nil, List.set_cons_succ, List.set_cons_zero, q, ret_at, PV.dicOf, lift_at, e2, ok, if_true, dNil_eq, qTuple_lst]
end Lk01
set_option Elab.async false
set_option linter.all false
set_option maxRecDepth 100000
set_option maxHeartbeats 4000000
namespace Lk01
open PySem L2 Pu
theorem okS_tst : ∀ t : Tst, okS t.pv = true
  | .yes => by decide +kernel
  | .no => by decide +kernel
  | .is s => by cases s <;> decide +kernel
  | .nt a => by show (true && (true && (okS a.pv && true))) = true; rw [okS_tst a]; rfl
  | .an a b => by show (true && (true && (okS a.pv && (okS b.pv && true)))) = true; rw [okS_tst a, okS_tst b]; rfl
  | .oor a b => by show (true && (true && (okS a.pv && (okS b.pv && true)))) = true; rw [okS_tst a, okS_tst b]; rfl
theorem okS_prg : ∀ t : Prg, okS t.pv = true
  | .st s => by cases s <;> decide +kernel
  | .te a => by show (true && (true && (okS a.pv && true))) = true; rw [okS_tst a]; rfl
  | .lp a => by show (true && (true && (okS a.pv && true))) = true; rw [okS_prg a]; rfl
  | .th a b => by show (true && (true && (okS a.pv && (okS b.pv && true)))) = true; rw [okS_prg a, okS_prg b]; rfl
  | .oo a b => by show (true && (true && (okS a.pv && (okS b.pv && true)))) = true; rw [okS_prg a, okS_prg b]; rfl
theorem dCatL_eq (da db : Den PV) (e : Cells) : dCatL da db e = (da.bind fun x => db.bind fun y => Den.lift (match x, y with
  | .lst xs, .lst ys => if xs.length + ys.length ≤ 100000 then some (xs ++ ys) else none
  | _, _ => none)) e := rfl
/-! ### one program and then another one -/
abbrev midP (p : Prg) : Prop := p.low ∧ p.dep ≤ 100
theorem okp_mid {p : Prg} (h : p.okp) : midP p := ⟨h.1, by have := h.2; omega⟩
theorem mid_fit {p : Prg} (h : midP p) : p.pv.fit = true := by
  rw [fit_eq_true]
  have := p.depth h.1
  have := h.2
  exact ⟨p.plain, by omega⟩
theorem eq_prg {p q : Prg} (hp : midP p) (hq : midP q) : qEq p.pv q.pv = some (.bl (decide (p = q))) := by
  show (if p.pv.fit = true ∧ q.pv.fit = true then some (PV.bl (pvEq p.pv q.pv)) else none) = _
  rw [if_pos ⟨mid_fit hp, mid_fit hq⟩, Prg.eqv]
theorem ne_prg {p q : Prg} (hp : midP p) (hq : midP q) : qNe p.pv q.pv = some (.bl (!decide (p = q))) := by
  show (if p.pv.fit = true ∧ q.pv.fit = true then some (PV.bl (!pvEq p.pv q.pv)) else none) = _
  rw [if_pos ⟨mid_fit hp, mid_fit hq⟩, Prg.eqv]
theorem mid_skip : midP skipP := ⟨Nat.zero_le _, Nat.zero_le _⟩
theorem mid_fail : midP failP := ⟨Nat.zero_le _, Nat.zero_le _⟩
theorem eq_fail {p : Prg} (hp : midP p) : qEq p.pv (.tup [.str "test", .tup [.str "no"]]) = some (.bl (decide (p = failP))) := eq_prg hp mid_fail
theorem eq_skip {p : Prg} (hp : midP p) : qEq p.pv (.tup [.str "test", .tup [.str "yes"]]) = some (.bl (decide (p = skipP))) := eq_prg hp mid_skip
theorem ne_fail {p : Prg} (hp : midP p) : qNe p.pv (.tup [.str "test", .tup [.str "no"]]) = some (.bl (!decide (p = failP))) := ne_prg hp mid_fail
theorem then_ok {p q : Prg} (hp : midP p) (hq : midP q) : F_then [p.pv, q.pv] = some (.ok (thenP p q).pv) := by
  have e1 := eq_fail hp
  have e2 := eq_fail hq
  have e3 := eq_skip hp
  have e4 := eq_skip hq
  by_cases h1 : p = failP
  · have g : thenP p q = failP := if_pos (.inl h1)
    rw [g]
    rw [decide_eq_true h1] at e1
    simp [F_then, fnDen, d_then, e1]; rfl
  · rw [decide_eq_false h1] at e1
    by_cases h2 : q = failP
    · have g : thenP p q = failP := if_pos (.inr h2)
      rw [g]
      rw [decide_eq_true h2] at e2
      simp [F_then, fnDen, d_then, e1, e2]; rfl
    · rw [decide_eq_false h2] at e2
      have g0 : thenP p q = if p = skipP then q else if q = skipP then p else .th p q := if_neg (fun z => z.elim h1 h2)
      by_cases h3 : p = skipP
      · rw [g0, if_pos h3]
        rw [decide_eq_true h3] at e3
        simp [F_then, fnDen, d_then, e1, e2, e3]
      · rw [g0, if_neg h3]
        rw [decide_eq_false h3] at e3
        by_cases h4 : q = skipP
        · rw [if_pos h4]
          rw [decide_eq_true h4] at e4
          simp [F_then, fnDen, d_then, e1, e2, e3, e4]
        · rw [if_neg h4]
          rw [decide_eq_false h4] at e4
          simp [F_then, fnDen, d_then, e1, e2, e3, e4]; rfl
theorem lthen_ok {p q : Prg} (hp : midP p) (hq : midP q) : F__law_then [p.pv, q.pv] = some (.ok (thenP p q).pv) := by
  have e1 := eq_fail hp
  have e2 := eq_fail hq
  have e3 := eq_skip hp
  have e4 := eq_skip hq
  by_cases h1 : p = failP
  · have g : thenP p q = failP := if_pos (.inl h1)
    rw [g]
    rw [decide_eq_true h1] at e1
    simp [F__law_then, fnDen, d__law_then, e1]; rfl
  · rw [decide_eq_false h1] at e1
    by_cases h2 : q = failP
    · have g : thenP p q = failP := if_pos (.inr h2)
      rw [g]
      rw [decide_eq_true h2] at e2
      simp [F__law_then, fnDen, d__law_then, e1, e2]; rfl
    · rw [decide_eq_false h2] at e2
      have g0 : thenP p q = if p = skipP then q else if q = skipP then p else .th p q := if_neg (fun z => z.elim h1 h2)
      by_cases h3 : p = skipP
      · rw [g0, if_pos h3]
        rw [decide_eq_true h3] at e3
        simp [F__law_then, fnDen, d__law_then, e1, e2, e3]
      · rw [g0, if_neg h3]
        rw [decide_eq_false h3] at e3
        by_cases h4 : q = skipP
        · rw [if_pos h4]
          rw [decide_eq_true h4] at e4
          simp [F__law_then, fnDen, d__law_then, e1, e2, e3, e4]
        · rw [if_neg h4]
          rw [decide_eq_false h4] at e4
          simp [F__law_then, fnDen, d__law_then, e1, e2, e3, e4]; rfl
/-! ### tests at atoms -/
def vOf (ns : List Bool) (a : Int) (s : Bool) : Bool := decide (a / 2 ^ ns.idxOf s % 2 = 1)
theorem has_nat (a : Int) (k : Nat) : F_has [.int a, .int k] = some (.ok (.bl (decide (a / 2 ^ k % 2 = 1)))) := by
  simp [F_has, fnDen, d_has, bitAnd_one]
theorem index_nm (r : S6) (s : Bool) (h : s ∈ r.ns) : qIndex (.tup (NV r.ns)) (.str (nm s)) = some (.int ((r.ns.idxOf s : Nat) : Int)) := by
  cases r <;> cases s <;> first | (exact absurd h (by decide)) | kernel_rfl
theorem holds_ok (r : S6) (a : Int) : ∀ (t : Tst) (n : Nat), tover r.ns t → t.dep < n → F_holds n [t.pv, .int a, .tup (NV r.ns)] = some (.ok (.bl (t.ev (vOf r.ns a))))
  | _, 0, _, h => by omega
  | .yes, n + 1, _, _ => by simp [F_holds, fnDen, d_holds, Tst.pv, Tst.ev]
  | .no, n + 1, _, _ => by simp [F_holds, fnDen, d_holds, Tst.pv, Tst.ev]
  | .is s, n + 1, ho, _ => by simp [F_holds, fnDen, d_holds, Tst.pv, Tst.ev, index_nm r s ho, has_nat, vOf]
  | .nt t, n + 1, ho, hd => by
    have ih := holds_ok r a t n ho (by simp only [Tst.dep] at hd; omega)
    simp [F_holds, fnDen, d_holds, Tst.pv, Tst.ev, ih]
  | .an t u, n + 1, ho, hd => by
    have i1 := holds_ok r a t n ho.1 (by simp only [Tst.dep] at hd; omega)
    have i2 := holds_ok r a u n ho.2 (by simp only [Tst.dep] at hd; omega)
    cases h1 : t.ev (vOf r.ns a) <;> rw [h1] at i1 <;> simp [F_holds, fnDen, d_holds, Tst.pv, Tst.ev, i1, i2, h1]
  | .oor t u, n + 1, ho, hd => by
    have i1 := holds_ok r a t n ho.1 (by simp only [Tst.dep] at hd; omega)
    have i2 := holds_ok r a u n ho.2 (by simp only [Tst.dep] at hd; omega)
    cases h1 : t.ev (vOf r.ns a) <;> rw [h1] at i1 <;> simp [F_holds, fnDen, d_holds, Tst.pv, Tst.ev, i1, i2, h1]
theorem lholds_ok (r : S6) (a : Int) : ∀ (t : Tst) (n : Nat), tover r.ns t → t.dep < n → F__law_holds n [t.pv, .int a, .tup (NV r.ns)] = some (.ok (.bl (t.ev (vOf r.ns a))))
  | _, 0, _, h => by omega
  | .yes, n + 1, _, _ => by simp [F__law_holds, fnDen, d__law_holds, Tst.pv, Tst.ev]
  | .no, n + 1, _, _ => by simp [F__law_holds, fnDen, d__law_holds, Tst.pv, Tst.ev]
  | .is s, n + 1, ho, _ => by simp [F__law_holds, fnDen, d__law_holds, Tst.pv, Tst.ev, index_nm r s ho, bitAnd_one, vOf]
  | .nt t, n + 1, ho, hd => by
    have ih := lholds_ok r a t n ho (by simp only [Tst.dep] at hd; omega)
    simp [F__law_holds, fnDen, d__law_holds, Tst.pv, Tst.ev, ih]
  | .an t u, n + 1, ho, hd => by
    have i1 := lholds_ok r a t n ho.1 (by simp only [Tst.dep] at hd; omega)
    have i2 := lholds_ok r a u n ho.2 (by simp only [Tst.dep] at hd; omega)
    cases h1 : t.ev (vOf r.ns a) <;> rw [h1] at i1 <;> simp [F__law_holds, fnDen, d__law_holds, Tst.pv, Tst.ev, i1, i2, h1]
  | .oor t u, n + 1, ho, hd => by
    have i1 := lholds_ok r a t n ho.1 (by simp only [Tst.dep] at hd; omega)
    have i2 := lholds_ok r a u n ho.2 (by simp only [Tst.dep] at hd; omega)
    cases h1 : t.ev (vOf r.ns a) <;> rw [h1] at i1 <;> simp [F__law_holds, fnDen, d__law_holds, Tst.pv, Tst.ev, i1, i2, h1]
theorem may_end_ok (r : S6) (a : Int) : ∀ (p : Prg) (n : Nat), p.low → pover r.ns r.ss p → p.dep < n → F_may_end n [sceneV r.ns r.ss, p.pv, .int a] = some (.ok (.bl (p.ends (vOf r.ns a))))
  | _, 0, _, _, h => by omega
  | .st b, n + 1, _, _, _ => by simp [F_may_end, fnDen, d_may_end, Prg.pv, Prg.ends]
  | .te t, n + 1, hl, ho, _ => by
    have hl' : t.dep ≤ 2 := hl
    have e := holds_ok r a t 64 ho (by omega)
    have f1 : ∀ (c d : Cell), dFld ["Scene"] "names" (dVar 0) [.v (sceneV r.ns r.ss), c, .v (.int a), d] = some (.ok (.tup (NV r.ns)) [.v (sceneV r.ns r.ss), c, .v (.int a), d]) := fun _ _ => rfl
    simp [F_may_end, fnDen, d_may_end, Prg.pv, Prg.ends, e, f1]
  | .lp b, n + 1, _, _, _ => by simp [F_may_end, fnDen, d_may_end, Prg.pv, Prg.ends]
  | .th t u, n + 1, hl, ho, hd => by
    have i1 := may_end_ok r a t n hl.1 ho.1 (by simp only [Prg.dep] at hd; omega)
    have i2 := may_end_ok r a u n hl.2 ho.2 (by simp only [Prg.dep] at hd; omega)
    cases h1 : t.ends (vOf r.ns a) <;> rw [h1] at i1 <;> simp [F_may_end, fnDen, d_may_end, Prg.pv, Prg.ends, i1, i2, h1]
  | .oo t u, n + 1, hl, ho, hd => by
    have i1 := may_end_ok r a t n hl.1 ho.1 (by simp only [Prg.dep] at hd; omega)
    have i2 := may_end_ok r a u n hl.2 ho.2 (by simp only [Prg.dep] at hd; omega)
    cases h1 : t.ends (vOf r.ns a) <;> rw [h1] at i1 <;> simp [F_may_end, fnDen, d_may_end, Prg.pv, Prg.ends, i1, i2, h1]
theorem qIn_three (i a b c : Str) : qIn (.str i) (.tup [.str a, .str b, .str c]) = some (.bl (decide (i = a ∨ i = b ∨ i = c))) := (qIn_lits i [a, b, c] _ rfl).trans (by simp)
theorem lends_ok (r : S6) (a : Int) : ∀ (p : Prg) (n : Nat), p.low → pover r.ns r.ss p → p.dep < n → F__law_ends n [p.pv, .int a, .tup (NV r.ns)] = some (.ok (.bl (p.ends (vOf r.ns a))))
  | _, 0, _, _, h => by omega
  | .st b, n + 1, _, _, _ => by simp [F__law_ends, fnDen, d__law_ends, Prg.pv, Prg.ends, qIn_three]
  | .te t, n + 1, hl, ho, _ => by
    have hl' : t.dep ≤ 2 := hl
    have e := lholds_ok r a t 64 ho (by omega)
    simp [F__law_ends, fnDen, d__law_ends, Prg.pv, Prg.ends, e, qIn_three]
  | .lp b, n + 1, _, _, _ => by simp [F__law_ends, fnDen, d__law_ends, Prg.pv, Prg.ends, qIn_three]
  | .th t u, n + 1, hl, ho, hd => by
    have i1 := lends_ok r a t n hl.1 ho.1 (by simp only [Prg.dep] at hd; omega)
    have i2 := lends_ok r a u n hl.2 ho.2 (by simp only [Prg.dep] at hd; omega)
    cases h1 : t.ends (vOf r.ns a) <;> rw [h1] at i1 <;> simp [F__law_ends, fnDen, d__law_ends, Prg.pv, Prg.ends, i1, i2, h1, qIn_three]
  | .oo t u, n + 1, hl, ho, hd => by
    have i1 := lends_ok r a t n hl.1 ho.1 (by simp only [Prg.dep] at hd; omega)
    have i2 := lends_ok r a u n hl.2 ho.2 (by simp only [Prg.dep] at hd; omega)
    cases h1 : t.ends (vOf r.ns a) <;> rw [h1] at i1 <;> simp [F__law_ends, fnDen, d__law_ends, Prg.pv, Prg.ends, i1, i2, h1, qIn_three]
/-! ### what is left -/
theorem mid_then {x q : Prg} (hx : x.low ∧ x.dep ≤ 60) (hq : q.low ∧ q.dep ≤ 60) : midP (thenP x q) := ⟨then_low hx.1 hq.1, by have := then_dep x q; have := hx.2; have := hq.2; omega⟩
theorem mid60 {x : Prg} (hx : x.low ∧ x.dep ≤ 60) : midP x := ⟨hx.1, by have := hx.2; omega⟩
theorem behind_ok (L : List Prg) (q : Prg) (hL : ∀ x ∈ L, x.low ∧ x.dep ≤ 60) (hq : q.low ∧ q.dep ≤ 60) : F_behind [.lst (PPs L), q.pv] = some (.ok (.lst (PPs (behindP L q)))) := by
  have q1 := lc_mapT (gx := gxN 3) (dc := Den.ret (.bl true)) (de := dCall F_then [] (dCons (dVar 3) (dCons (dVar 1) dNil))) (own := [3]) Prg.pv (fun x => (thenP x q).pv) [.v (.lst (PPs L)), .v q.pv, .un, .un] L [] fun x hx => by
    have e := then_ok (mid60 (hL x hx)) (mid60 hq)
    simp [lcTurn, e]
  have q2 := lc_map (gx := gxN 2) (dc := dOp qNe (dVar 2) (Den.ret (.tup [.str "test", .tup [.str "no"]]))) (de := dVar 2) (own := [2]) Prg.pv (fun x => decide (x ≠ failP)) Prg.pv [.v (.lst (PPs L)), .v q.pv, .un, .un] (L.map fun x => thenP x q) [] fun x hx => by
    obtain ⟨y, hy, rfl⟩ := List.mem_map.mp hx
    have e := ne_fail (mid_then (hL y hy) hq)
    by_cases h : thenP y q = failP
    · rw [decide_eq_true h] at e
      have d : decide (thenP y q ≠ failP) = false := decide_eq_false fun z => z h
      simp only [d]
      simp [lcTurn, e]
    · rw [decide_eq_false h] at e
      have d : decide (thenP y q ≠ failP) = true := decide_eq_true h
      simp only [d]
      simp [lcTurn, e]
  rw [List.nil_append] at q1 q2
  have m : (L.map fun x => (thenP x q).pv) = (L.map fun x => thenP x q).map Prg.pv := by rw [List.map_map]; rfl
  rw [m] at q1
  refine fn_rt (c := [.v (.lst (PPs L)), .v q.pv, .un, .un]) (e' := [.v (.lst (PPs L)), .v q.pv, .un, .un]) rfl ?_
  unfold d_behind
  simp only [ret_st, dLstOf_eq, bind_at, dLc_at, dSeq_eq, var_at, List.getElem?_cons_zero, lift_at, seq_lst, wipeE_cons, wipeE_nil, List.set_cons_succ, List.set_cons_zero, q1, ret_at, q2]
  rfl
theorem qEq_sn (a b : Bool) : qEq (.str (sn a)) (.str (sn b)) = some (.bl (decide (a = b))) := by cases a <;> cases b <;> kernel_rfl
theorem rest_len (v : Bool → Bool) (s : Bool) {p : Prg} (hl : p.low) (hd : p.dep ≤ 8) : (restsP v s p).length ≤ 2304 := by
  have h1 := rests_len v s p
  have h2 := p.wt_le hl
  have h3 := Nat.pow_le_pow_right (n := 2) (by omega) hd
  omega
theorem rest_mid (v : Bool → Bool) (s : Bool) {p : Prg} (hl : p.low) (hd : p.dep ≤ 8) : ∀ x ∈ restsP v s p, x.low ∧ x.dep ≤ 60 := fun x hx => by
  obtain ⟨h1, h2⟩ := pd_ok p hl x (rests_pd v s p x hx)
  exact ⟨h1, by omega⟩
theorem behind_len (L : List Prg) (q : Prg) : (behindP L q).length ≤ L.length := by
  unfold behindP
  have := List.length_filter_le (fun x => decide (x ≠ failP)) (L.map fun x => thenP x q)
  rw [List.length_map] at this
  exact this
theorem rests_ok (r : S6) (a : Int) (s : Bool) : ∀ (p : Prg) (n : Nat), p.low → p.dep ≤ 8 → pover r.ns r.ss p → p.dep < n → F_rests n [sceneV r.ns r.ss, p.pv, .int a, .str (sn s)] = some (.ok (.lst (PPs (restsP (vOf r.ns a) s p))))
  | _, 0, _, _, _, h => by omega
  | .st b, n + 1, _, _, _, _ => by
    have e := qEq_sn b s
    by_cases h : b = s
    · subst h
      simp [F_rests, fnDen, d_rests, Prg.pv, restsP]
      rfl
    · simp [F_rests, fnDen, d_rests, Prg.pv, restsP, h]
      have h2 : ¬ sn b = sn s := fun z => h (sn_inj _ _ z)
      simp [h2]
  | .te t, n + 1, _, _, _, _ => by simp [F_rests, fnDen, d_rests, Prg.pv, restsP]
  | .lp b, n + 1, hl, h8, ho, hd => by
    have i1 := rests_ok r a s b n hl (by simp only [Prg.dep] at h8; omega) ho (by simp only [Prg.dep] at hd; omega)
    have e := behind_ok (restsP (vOf r.ns a) s b) (.lp b) (rest_mid _ _ hl (by simp only [Prg.dep] at h8; omega)) ⟨hl, by omega⟩
    simp only [Prg.pv] at e
    simp [F_rests, fnDen, d_rests, Prg.pv, restsP, i1, e]
  | .th t u, n + 1, hl, h8, ho, hd => by
    have ht : t.dep ≤ 8 := by simp only [Prg.dep] at h8; omega
    have hu : u.dep ≤ 8 := by simp only [Prg.dep] at h8; omega
    have i1 := rests_ok r a s t n hl.1 ht ho.1 (by simp only [Prg.dep] at hd; omega)
    have i2 := rests_ok r a s u n hl.2 hu ho.2 (by simp only [Prg.dep] at hd; omega)
    have i3 := may_end_ok r a t 64 hl.1 ho.1 (by omega)
    have e := behind_ok (restsP (vOf r.ns a) s t) u (rest_mid _ _ hl.1 ht) ⟨hl.2, by omega⟩
    have l1 := behind_len (restsP (vOf r.ns a) s t) u
    have l2 := rest_len (vOf r.ns a) s hl.1 ht
    have l3 := rest_len (vOf r.ns a) s hl.2 hu
    have l4 : (behindP (restsP (vOf r.ns a) s t) u).length + (restsP (vOf r.ns a) s u).length ≤ 100000 := by omega
    cases h1 : t.ends (vOf r.ns a) <;> rw [h1] at i3 <;> simp [F_rests, fnDen, d_rests, Prg.pv, restsP, i1, i2, i3, e, h1, dCatL_eq, l4]
  | .oo t u, n + 1, hl, h8, ho, hd => by
    have ht : t.dep ≤ 8 := by simp only [Prg.dep] at h8; omega
    have hu : u.dep ≤ 8 := by simp only [Prg.dep] at h8; omega
    have i1 := rests_ok r a s t n hl.1 ht ho.1 (by simp only [Prg.dep] at hd; omega)
    have i2 := rests_ok r a s u n hl.2 hu ho.2 (by simp only [Prg.dep] at hd; omega)
    have l2 := rest_len (vOf r.ns a) s hl.1 ht
    have l3 := rest_len (vOf r.ns a) s hl.2 hu
    have l4 : (restsP (vOf r.ns a) s t).length + (restsP (vOf r.ns a) s u).length ≤ 100000 := by omega
    simp [F_rests, fnDen, d_rests, Prg.pv, restsP, i1, i2, dCatL_eq, l4]
theorem then_over {ns ss : List Bool} {x q : Prg} (h : pover ns ss x) (k : pover ns ss q) : pover ns ss (thenP x q) := by
  rcases then_cases x q with e | ⟨_, e⟩ | ⟨_, e⟩ | e <;> rw [e]
  · exact trivial
  · exact k
  · exact h
  · exact ⟨h, k⟩
theorem pd_over {ns ss : List Bool} : ∀ {p : Prg}, pover ns ss p → ∀ q ∈ pdP p, pover ns ss q
  | .st _, _, q, h => by rw [List.mem_singleton.mp h]; exact trivial
  | .te _, _, q, h => (List.not_mem_nil h).elim
  | .lp a, o, q, h => by
    obtain ⟨x, hx, rfl⟩ := List.mem_map.mp h
    exact then_over (pd_over (p := a) o x hx) o
  | .th a b, o, q, h => by
    rcases List.mem_append.mp h with h | h
    · obtain ⟨x, hx, rfl⟩ := List.mem_map.mp h
      exact then_over (pd_over (p := a) o.1 x hx) o.2
    · exact pd_over (p := b) o.2 q h
  | .oo a b, o, q, h => (List.mem_append.mp h).elim (fun h => pd_over (p := a) o.1 q h) fun h => pd_over (p := b) o.2 q h
end Lk01
set_option Elab.async false
set_option linter.all false
set_option maxRecDepth 100000
set_option maxHeartbeats 4000000
namespace Lk01
open PySem L2 Pu
/-! ### what the law finds left -/
theorem ll1_ok (L : List Prg) (q : Prg) (hL : ∀ x ∈ L, x.low ∧ x.dep ≤ 60) (hq : q.low ∧ q.dep ≤ 60) (x0 x1 x2 x3 x4 : Cell) : lcLoop (gxN 7) (Den.ret (.bl true)) (dCall F__law_then [] (dCons (dVar 7) (dCons (dVar 5) dNil))) [7] (PPs L) [] [x0, x1, x2, x3, x4, .v q.pv, .un, .un] = some (.ok (PPs (L.map fun x => thenP x q)) [x0, x1, x2, x3, x4, .v q.pv, .un, .un]) := by
  have q1 := lc_mapT (gx := gxN 7) (dc := Den.ret (.bl true)) (de := dCall F__law_then [] (dCons (dVar 7) (dCons (dVar 5) dNil))) (own := [7]) Prg.pv (fun x => (thenP x q).pv) [x0, x1, x2, x3, x4, .v q.pv, .un, .un] L [] fun x hx => by
    have e := lthen_ok (mid60 (hL x hx)) (mid60 hq)
    simp [lcTurn, e]
  have m : (L.map fun x => (thenP x q).pv) = (L.map fun x => thenP x q).map Prg.pv := by rw [List.map_map]; rfl
  rw [List.nil_append, m] at q1
  exact q1
theorem ll2_ok (L : List Prg) (q : Prg) (hL : ∀ x ∈ L, x.low ∧ x.dep ≤ 60) (hq : q.low ∧ q.dep ≤ 60) (x0 x1 x2 x3 x4 x5 x6 : Cell) : lcLoop (gxN 7) (dOp qNe (dVar 7) (dTup (dCons (Den.ret (.str "test")) (dCons (dTup (dCons (Den.ret (.str "no")) dNil)) dNil)))) (dVar 7) [7] (PPs (L.map fun x => thenP x q)) [] [x0, x1, x2, x3, x4, x5, x6, .un] = some (.ok (PPs (behindP L q)) [x0, x1, x2, x3, x4, x5, x6, .un]) := by
  have q2 := lc_map (gx := gxN 7) (dc := dOp qNe (dVar 7) (dTup (dCons (Den.ret (.str "test")) (dCons (dTup (dCons (Den.ret (.str "no")) dNil)) dNil)))) (de := dVar 7) (own := [7]) Prg.pv (fun x => decide (x ≠ failP)) Prg.pv [x0, x1, x2, x3, x4, x5, x6, .un] (L.map fun x => thenP x q) [] fun x hx => by
    obtain ⟨y, hy, rfl⟩ := List.mem_map.mp hx
    have e := ne_fail (mid_then (hL y hy) hq)
    by_cases h : thenP y q = failP
    · rw [decide_eq_true h] at e
      have d : decide (thenP y q ≠ failP) = false := decide_eq_false fun z => z h
      simp only [d]
      simp [lcTurn, e]
    · rw [decide_eq_false h] at e
      have d : decide (thenP y q ≠ failP) = true := decide_eq_true h
      simp only [d]
      simp [lcTurn, e]
  rw [List.nil_append] at q2
  exact q2
abbrev llE (x a s ns w : PV) (l t : Cell) : Cells := [.v x, .v a, .v s, .v ns, .v w, l, t, .un]
theorem ll_in (x a s ns w : PV) (l t : Cell) (n : Nat) (b : PV) (L : List Prg) (q : Prg) (hL : ∀ x ∈ L, x.low ∧ x.dep ≤ 60) (hq : q.low ∧ q.dep ≤ 60) (hx : dOp qIx (dVar 0) (Den.ret (.int 1)) (llE x a s ns w (.v q.pv) .un) = some (.ok b (llE x a s ns w (.v q.pv) .un))) (h : F__law_left n [b, a, s, ns] = some (.ok (.lst (PPs L)))) :
    sSet 6 (dLstOf (dLc (dSeq (dCall (F__law_left n) [] (dCons (dOp qIx (dVar 0) (Den.ret (.int 1))) (dCons (dVar 1) (dCons (dVar 2) (dCons (dVar 3) dNil)))))) (gxN 7) (Den.ret (.bl true)) (dCall F__law_then [] (dCons (dVar 7) (dCons (dVar 5) dNil))) [7])) (llE x a s ns w (.v q.pv) .un) = some (.nx (llE x a s ns w (.v q.pv) (.v (.lst (PPs (L.map fun x => thenP x q)))))) := by
  have q1 := ll1_ok L q hL hq (.v x) (.v a) (.v s) (.v ns) (.v w)
  simp only [set_at, dLstOf_eq, bind_at, dLc_at, dSeq_eq, dCall_eq, dCons_eq, hx, var_at, List.getElem?_cons_succ, List.getElem?_cons_zero, dNil_eq, ret_at, List.append_nil, callK_at, h, lift_at, seq_lst, wipeE_cons, wipeE_nil, List.set_cons_succ, List.set_cons_zero, q1]
theorem ll_cut (x a s ns w : PV) (l : Cell) (L : List Prg) (q : Prg) (hL : ∀ x ∈ L, x.low ∧ x.dep ≤ 60) (hq : q.low ∧ q.dep ≤ 60) :
    sSet 6 (dLstOf (dLc (dSeq (dVar 6)) (gxN 7) (dOp qNe (dVar 7) (dTup (dCons (Den.ret (.str "test")) (dCons (dTup (dCons (Den.ret (.str "no")) dNil)) dNil)))) (dVar 7) [7])) (llE x a s ns w l (.v (.lst (PPs (L.map fun x => thenP x q))))) = some (.nx (llE x a s ns w l (.v (.lst (PPs (behindP L q)))))) := by
  have q2 := ll2_ok L q hL hq (.v x) (.v a) (.v s) (.v ns) (.v w) l (.v (.lst (PPs (L.map fun x => thenP x q))))
  simp only [set_at, dLstOf_eq, bind_at, dLc_at, dSeq_eq, var_at, List.getElem?_cons_succ, List.getElem?_cons_zero, ret_at, lift_at, seq_lst, wipeE_cons, wipeE_nil, List.set_cons_succ, List.set_cons_zero, q2]
theorem lleft_ok (r : S6) (a : Int) (s : Bool) : ∀ (p : Prg) (n : Nat), p.low → p.dep ≤ 8 → pover r.ns r.ss p → p.dep < n → F__law_left n [p.pv, .int a, .str (sn s), .tup (NV r.ns)] = some (.ok (.lst (PPs (restsP (vOf r.ns a) s p))))
  | _, 0, _, _, _, h => by omega
  | .st b, n + 1, _, _, _, _ => by
    by_cases h : b = s
    · subst h
      simp [F__law_left, fnDen, d__law_left, Prg.pv, restsP]
      rfl
    · have h2 : ¬ sn b = sn s := fun z => h (sn_inj _ _ z)
      simp [F__law_left, fnDen, d__law_left, Prg.pv, restsP, h, h2]
  | .te t, n + 1, _, _, _, _ => by simp [F__law_left, fnDen, d__law_left, Prg.pv, restsP]
  | .lp b, n + 1, hl, h8, ho, hd => by
    have i1 := lleft_ok r a s b n hl (by simp only [Prg.dep] at h8; omega) ho (by simp only [Prg.dep] at hd; omega)
    have hb := rest_mid (vOf r.ns a) s (p := b) hl (by simp only [Prg.dep] at h8; omega)
    have hq : (Prg.lp b).low ∧ (Prg.lp b).dep ≤ 60 := ⟨hl, by omega⟩
    refine fn_rt (c := [.v (Prg.lp b).pv, .v (.int a), .v (.str (sn s)), .v (.tup (NV r.ns)), .un, .un, .un, .un]) (e' := llE (Prg.lp b).pv (.int a) (.str (sn s)) (.tup (NV r.ns)) (.str "loop") (.v (Prg.lp b).pv) (.v (.lst (PPs (behindP (restsP (vOf r.ns a) s b) (.lp b)))))) rfl ?_
    refine seq_nx (e' := llE (Prg.lp b).pv (.int a) (.str (sn s)) (.tup (NV r.ns)) (.str "loop") .un .un) (by simp [Prg.pv]) ?_
    refine seq_nx (e' := llE (Prg.lp b).pv (.int a) (.str (sn s)) (.tup (NV r.ns)) (.str "loop") .un .un) (by simp) ?_
    refine seq_nx (e' := llE (Prg.lp b).pv (.int a) (.str (sn s)) (.tup (NV r.ns)) (.str "loop") .un .un) (by simp) ?_
    refine seq_nx (e' := llE (Prg.lp b).pv (.int a) (.str (sn s)) (.tup (NV r.ns)) (.str "loop") (.v (Prg.lp b).pv) .un) (by simp) ?_
    refine seq_nx (ll_in _ _ _ _ _ .un .un n b.pv _ _ hb hq (by simp [Prg.pv]) i1) ?_
    refine seq_nx (ll_cut _ _ _ _ _ _ _ _ hb hq) ?_
    refine seq_nx (e' := llE (Prg.lp b).pv (.int a) (.str (sn s)) (.tup (NV r.ns)) (.str "loop") (.v (Prg.lp b).pv) (.v (.lst (PPs (behindP (restsP (vOf r.ns a) s b) (.lp b)))))) (by simp) rfl
  | .th t u, n + 1, hl, h8, ho, hd => by
    have ht : t.dep ≤ 8 := by simp only [Prg.dep] at h8; omega
    have hu : u.dep ≤ 8 := by simp only [Prg.dep] at h8; omega
    have i1 := lleft_ok r a s t n hl.1 ht ho.1 (by simp only [Prg.dep] at hd; omega)
    have i2 := lleft_ok r a s u n hl.2 hu ho.2 (by simp only [Prg.dep] at hd; omega)
    have i3 := lends_ok r a t 64 hl.1 ho.1 (by omega)
    have hb := rest_mid (vOf r.ns a) s (p := t) hl.1 ht
    have hq : u.low ∧ u.dep ≤ 60 := ⟨hl.2, by omega⟩
    have l1 := behind_len (restsP (vOf r.ns a) s t) u
    have l2 := rest_len (vOf r.ns a) s hl.1 ht
    have l3 := rest_len (vOf r.ns a) s hl.2 hu
    have l4 : (behindP (restsP (vOf r.ns a) s t) u).length + (restsP (vOf r.ns a) s u).length ≤ 100000 := by omega
    refine fn_rt (c := [.v (Prg.th t u).pv, .v (.int a), .v (.str (sn s)), .v (.tup (NV r.ns)), .un, .un, .un, .un]) (e' := llE (Prg.th t u).pv (.int a) (.str (sn s)) (.tup (NV r.ns)) (.str "then") (.v u.pv) (.v (.lst (PPs (restsP (vOf r.ns a) s (.th t u)))))) rfl ?_
    refine seq_nx (e' := llE (Prg.th t u).pv (.int a) (.str (sn s)) (.tup (NV r.ns)) (.str "then") .un .un) (by simp [Prg.pv]) ?_
    refine seq_nx (e' := llE (Prg.th t u).pv (.int a) (.str (sn s)) (.tup (NV r.ns)) (.str "then") .un .un) (by simp) ?_
    refine seq_nx (e' := llE (Prg.th t u).pv (.int a) (.str (sn s)) (.tup (NV r.ns)) (.str "then") .un .un) (by simp) ?_
    refine seq_nx (e' := llE (Prg.th t u).pv (.int a) (.str (sn s)) (.tup (NV r.ns)) (.str "then") (.v u.pv) .un) (by simp [Prg.pv]) ?_
    refine seq_nx (ll_in _ _ _ _ _ .un .un n t.pv _ _ hb hq (by simp [Prg.pv]) i1) ?_
    refine seq_nx (ll_cut _ _ _ _ _ _ _ _ hb hq) ?_
    refine seq_nx (e' := llE (Prg.th t u).pv (.int a) (.str (sn s)) (.tup (NV r.ns)) (.str "then") (.v u.pv) (.v (.lst (PPs (restsP (vOf r.ns a) s (.th t u)))))) ?_ rfl
    cases h1 : t.ends (vOf r.ns a) <;> rw [h1] at i3 <;> simp [Prg.pv, restsP, i2, i3, h1, dCatL_eq, l4]
  | .oo t u, n + 1, hl, h8, ho, hd => by
    have ht : t.dep ≤ 8 := by simp only [Prg.dep] at h8; omega
    have hu : u.dep ≤ 8 := by simp only [Prg.dep] at h8; omega
    have i1 := lleft_ok r a s t n hl.1 ht ho.1 (by simp only [Prg.dep] at hd; omega)
    have i2 := lleft_ok r a s u n hl.2 hu ho.2 (by simp only [Prg.dep] at hd; omega)
    have l2 := rest_len (vOf r.ns a) s hl.1 ht
    have l3 := rest_len (vOf r.ns a) s hl.2 hu
    have l4 : (restsP (vOf r.ns a) s t).length + (restsP (vOf r.ns a) s u).length ≤ 100000 := by omega
    simp [F__law_left, fnDen, d__law_left, Prg.pv, restsP, i1, i2, dCatL_eq, l4]
/-! ### the law's different programs -/
def diB : SDen := sIf (dInL true 1 (dVar 2)) (sDrop (dAppM 1 (dVar 2))) sNext
theorem inL_at (neg : Bool) (i : Nat) (da : Den PV) (e : Cells) : dInL neg i da e = (da.bind fun x e => match e[i]? with
  | some (.m _ xs) => if x.fit = true ∧ (PV.lst xs).fit = true then some (.ok (.bl (neg ^^ xs.any fun z => pvEq z x)) e) else none
  | _ => none) e := rfl
theorem fit_pps {F : List Prg} (h : ∀ p ∈ F, p.okp) : (PV.lst (PPs F)).fit = true := by
  rw [fit_eq_true, plain_lst, depth_lst]
  have := depths_pps F h
  exact ⟨plains_pps F, by omega⟩
theorem di_turn (x : PV) (F : List Prg) (p : Prg) (c : Cell) (hp : p.okp) (hF : ∀ q ∈ F, q.okp) (hl : F.length < 100000) : sTurn (gxN 2) diB p.pv [.v x, .m true (PPs F), c] = some (.nx [.v x, .m true (PPs (add1 F p)), .v p.pv]) := by
  have big : 100000 ≤ sizeLine := by decide
  have l : (PPs F).length < sizeLine := by rw [List.length_map]; omega
  have f1 := p.fit hp
  have f2 := fit_pps hF
  have a := any_pps p F
  show diB [.v x, .m true (PPs F), .v p.pv] = _
  unfold add1
  have e : dInL true 1 (dVar 2) [.v x, .m true (PPs F), .v p.pv] = some (.ok (.bl (!decide (p ∈ F))) [.v x, .m true (PPs F), .v p.pv]) := by
    simp only [inL_at, bind_at, var_at, List.getElem?_cons_succ, List.getElem?_cons_zero, f1, f2, and_self, if_true, a, Bool.true_xor]
  by_cases h : p ∈ F
  · rw [if_pos h]
    rw [decide_eq_true h] at e
    exact if_f e rfl
  · rw [if_neg h]
    rw [decide_eq_false h] at e
    refine if_t e ?_
    simp only [drop_st, appM_at, List.getElem?_cons_succ, List.getElem?_cons_zero, bind_at, var_at, l, if_true, List.set_cons_succ, List.set_cons_zero]
    rw [show PPs (F ++ [p]) = PPs F ++ [p.pv] from List.map_append]
theorem di_loop (x : PV) : ∀ (L F : List Prg) (c : Cell), (∀ q ∈ L, q.okp) → (∀ q ∈ F, q.okp) → F.length + L.length ≤ 100000 → ∃ c', sLoop (gxN 2) diB (PPs L) [.v x, .m true (PPs F), c] = some (.nx [.v x, .m true (PPs (adds F L)), c'])
  | [], F, c, _, _, _ => ⟨c, rfl⟩
  | p :: L, F, c, h, hF, hl => by
    rw [List.length_cons] at hl
    have l1 : (add1 F p).length ≤ F.length + 1 := by
      unfold add1; split
      · omega
      · rw [List.length_append]; exact Nat.le_refl _
    obtain ⟨c', e⟩ := di_loop x L (add1 F p) (.v p.pv) (fun r hr => h r (List.mem_cons_of_mem _ hr)) (fun q hq => (mem_add1.mp hq).elim (hF q) fun e => by rw [e]; exact h p List.mem_cons_self) (by omega)
    refine ⟨c', ?_⟩
    rw [Pu.pps_cons, loop_cons, di_turn x F p c (h p List.mem_cons_self) hF (by omega), adds_cons]
    exact e
theorem sortT_any (L : List Prg) (hl : L.length ≤ 100000) (h : ∀ q ∈ L, q.okp) : qSortT [.lst (PPs L)] = some (sortP (PPs L)) := by
  cases L with
  | nil => rfl
  | cons p l => exact sortT_pps p l hl h
theorem different_ok (L : List Prg) (h : ∀ q ∈ L, q.okp) (hl : L.length ≤ 100000) : F__law_different [.lst (PPs L)] = some (.ok (.tup (PPs (dst L)))) := by
  obtain ⟨c', e⟩ := di_loop (.lst (PPs L)) L [] .un h (fun q hq => (List.not_mem_nil hq).elim) (by rw [List.length_nil]; omega)
  have l2 := adds_len (xs := L) (F := [])
  rw [List.length_nil] at l2
  have s := sortT_any (adds [] L) (by omega) fun q hq => h q ((mem_adds.mp hq).elim (fun z => (List.not_mem_nil z).elim) id)
  refine fn_rt (c := [.v (.lst (PPs L)), .un, .un]) (e' := [.v (.lst (PPs L)), .v (.lst (PPs (adds [] L))), c']) rfl (seq_nx (e' := [.v (.lst (PPs L)), .m true (PPs []), .un]) rfl (seq_nx (e' := [.v (.lst (PPs L)), .m true (PPs (adds [] L)), c']) ?_ ?_))
  · rw [sFor_at, show dSeq (dVar 0) [.v (.lst (PPs L)), .m true (PPs []), .un] = some (.ok (PPs L) [.v (.lst (PPs L)), .m true (PPs []), .un]) from rfl]
    exact e
  · rw [← dst_pv]
    simp only [ret_st, dArgs_eq, bind_at, dCons_eq, dLstOf_eq, freeze_at, List.getElem?_cons_succ, List.getElem?_cons_zero, List.set_cons_succ, List.set_cons_zero, dNil_eq, ret_at, s, lift_at, qTuple_lst]
end Lk01
set_option Elab.async false
set_option linter.all false
set_option maxRecDepth 100000
set_option maxHeartbeats 4000000
namespace Lk01
open PySem L2 Pu
/-! ### all that is left -/
abbrev small (p : Prg) : Prop := p.low ∧ p.dep ≤ 4
theorem small_okp {p : Prg} (h : small p) : p.okp := ⟨h.1, by have := h.2; omega⟩
abbrev clP (p : Prg) : List Prg := p :: pdP p
theorem cl_ok {ns ss : List Bool} {p : Prg} (h : small p) (o : pover ns ss p) : ∀ q ∈ clP p, q.okp ∧ pover ns ss q := fun q hq => by
  rcases List.mem_cons.mp hq with rfl | hq
  · exact ⟨small_okp h, o⟩
  · obtain ⟨h1, h2⟩ := pd_ok p h.1 q hq
    exact ⟨⟨h1, by have := h.2; omega⟩, pd_over o q hq⟩
theorem cl_len {p : Prg} (h : small p) : (clP p).length ≤ 144 := by
  have h1 := pd_len p
  have h2 := p.wt_le h.1
  have h3 := Nat.pow_le_pow_right (n := 2) (by omega) h.2
  rw [List.length_cons]
  omega
theorem cl_rests {p q : Prg} (v : Bool → Bool) (s : Bool) (hq : q ∈ clP p) : ∀ x ∈ restsP v s q, x ∈ clP p := fun x hx => by
  rcases List.mem_cons.mp hq with rfl | hq
  · exact List.mem_cons_of_mem _ (rests_pd _ _ _ _ hx)
  · exact List.mem_cons_of_mem _ (pd_shut _ _ _ _ hq _ hx)
theorem distinct_dst (L : List Prg) (hl : L.length ≤ 100000) (h : ∀ q ∈ L, q.okp) : F_distinct [.lst (PPs L)] = some (.ok (.tup (PPs (dst L)))) := by
  rw [← dst_pv]
  exact distinct_all L hl h _ (.inl rfl)
theorem left_ok (r : S6) (a : Int) (s : Bool) (p : Prg) (h : small p) (o : pover r.ns r.ss p) : F_left_behind [sceneV r.ns r.ss, p.pv, .int a, .str (sn s)] = some (.ok (.tup (PPs (dst (restsP (vOf r.ns a) s p))))) := by
  have k := look_one _ _ true (fits_over (small_okp h) o)
  have e1 := rests_ok r a s p 64 h.1 (small_okp h).2 o (by have := h.2; omega)
  have e2 := distinct_dst (restsP (vOf r.ns a) s p) (by have := rest_len (vOf r.ns a) s h.1 (small_okp h).2; omega) fun q hq => (cl_ok h o q (cl_rests _ _ List.mem_cons_self q hq)).1
  simp [F_left_behind, fnDen, d_left_behind, dCallV, callV, k, e1, e2]
structure InC (C F : List Prg) : Prop where
  nd : F.Nodup
  mem : ∀ q ∈ F, q ∈ C
theorem InC.adds {C F xs : List Prg} (h : InC C F) (hx : ∀ q ∈ xs, q ∈ C) : InC C (adds F xs) := ⟨nodup_adds h.nd, fun q hq => (mem_adds.mp hq).elim (h.mem q) (hx q)⟩
theorem InC.len {C F : List Prg} (h : InC C F) : F.length ≤ C.length := nodup_bound F C h.nd h.mem
theorem add1_drop (F : List Prg) (x : Prg) (k : Nat) (hk : k ≤ F.length) : (add1 F x).drop k = if x ∈ F then F.drop k else F.drop k ++ [x] := by
  unfold add1
  split
  · rfl
  · rw [List.drop_append_of_le_length hk]
abbrev alE (S x : PV) (F : List Prg) (k : Nat) (c4 c5 c6 c7 : Cell) : Cells := [.v S, .v x, .dOf true (KP' F), .m true (PPs (F.drop k)), c4, c5, c6, c7]
def alB : SDen := sIf (dInM true 2 (dCall F_key_of [] (dCons (dVar 7) dNil))) (sSeq (sSetKM 2 (dVar 7) (dCall F_key_of [] (dCons (dVar 7) dNil))) (sDrop (dAppM 3 (dVar 7)))) sNext
theorem al_turn (S y : PV) (F : List Prg) (k : Nat) (c4 c5 c6 c7 : Cell) (x : Prg) (hx : x.okp) (hk : k ≤ F.length) (hF : F.length < 100000) : sTurn (gxN 7) alB x.pv (alE S y F k c4 c5 c6 c7) = some (.nx (alE S y (add1 F x) k c4 c5 c6 (.v x.pv))) := by
  have key := key_of_ok x hx
  have g := get_adds (key := Prg.key) (val := Prg.pv) Prg.key_inj F x
  have m := put_add1 (key := Prg.key) (val := Prg.pv) Prg.key_inj F x
  have big : 100000 ≤ sizeLine := by decide
  have l1 : F.length < sizeLine := by omega
  have l2 : (PPs (F.drop k)).length < sizeLine := by rw [List.length_map, List.length_drop]; omega
  show alB (alE S y F k c4 c5 c6 (.v x.pv)) = _
  have e : dInM true 2 (dCall F_key_of [] (dCons (dVar 7) dNil)) (alE S y F k c4 c5 c6 (.v x.pv)) = some (.ok (.bl (!decide (x ∈ F))) (alE S y F k c4 c5 c6 (.v x.pv))) := by
    unfold dInM
    simp only [bind_at, dCall_eq, dCons_eq, var_at, List.getElem?_cons_succ, List.getElem?_cons_zero, dNil_eq, ret_at, List.append_nil, callK_at, key, Prg.key_pv, Cell.dOf, zip_parts]
    rw [g]
    cases decide (x ∈ F) <;> rfl
  have dr := add1_drop F x k hk
  by_cases h : x ∈ F
  · rw [decide_eq_true h] at e
    have e1 : add1 F x = F := if_pos h
    rw [e1]
    exact if_f e rfl
  · rw [decide_eq_false h] at e
    rw [if_neg h] at dr
    refine if_t e (seq_nx (e' := [.v S, .v y, .dOf true (KP' (add1 F x)), .m true (PPs (F.drop k)), c4, c5, c6, .v x.pv]) ?_ ?_)
    · unfold sSetKM
      simp only [sOf_at, dCall_eq, bind_at, dCons_eq, var_at, List.getElem?_cons_succ, List.getElem?_cons_zero, dNil_eq, ret_at, List.append_nil, callK_at, key, Prg.key_pv, Cell.dOf, zip_parts, List.length_map, l1, if_true]
      rw [m]
      rfl
    · show _ = some (SOut.nx [.v S, .v y, .dOf true (KP' (add1 F x)), .m true (PPs ((add1 F x).drop k)), c4, c5, c6, .v x.pv])
      rw [dr, show PPs (F.drop k ++ [x]) = PPs (F.drop k) ++ [x.pv] from List.map_append]
      simp only [drop_st, appM_at, List.getElem?_cons_succ, List.getElem?_cons_zero, bind_at, var_at, l2, if_true, List.set_cons_succ, List.set_cons_zero]
theorem al_loop1 (S y : PV) (C : List Prg) (hC : C.length ≤ 50000) (ok : ∀ q ∈ C, q.okp) (k : Nat) (c4 c5 c6 : Cell) : ∀ (xs F : List Prg) (c7 : Cell), InC C F → (∀ q ∈ xs, q ∈ C) → k ≤ F.length → ∃ c', sLoop (gxN 7) alB (PPs xs) (alE S y F k c4 c5 c6 c7) = some (.nx (alE S y (adds F xs) k c4 c5 c6 c'))
  | [], F, c7, _, _, _ => ⟨c7, rfl⟩
  | x :: xs, F, c7, i, h, hk => by
    have hx := h x List.mem_cons_self
    have i2 : InC C (add1 F x) := i.adds (xs := [x]) fun q hq => by rw [List.mem_singleton.mp hq]; exact hx
    have l1 : F.length ≤ (add1 F x).length := by
      unfold add1; split
      · exact Nat.le_refl _
      · rw [List.length_append]; exact Nat.le_add_right _ _
    obtain ⟨c', e⟩ := al_loop1 S y C hC ok k c4 c5 c6 xs (add1 F x) (.v x.pv) i2 (fun q hq => h q (List.mem_cons_of_mem _ hq)) (by omega)
    refine ⟨c', ?_⟩
    rw [Pu.pps_cons, loop_cons, al_turn S y F k c4 c5 c6 c7 x (ok x hx) hk (by have := i.len; omega), adds_cons]
    exact e
theorem adds_more (F xs : List Prg) : F.length ≤ (adds F xs).length := by
  obtain ⟨X, e⟩ := adds_pre xs F
  rw [e, List.length_append]
  exact Nat.le_add_right _ _
def alB2 : SDen := sFor (dSeq (dCall F_distinct [] (dCons (dCall (F_rests 64) [] (dCons (dVar 0) (dCons (dVar 4) (dCons (dVar 5) (dCons (dVar 6) dNil))))) dNil))) (gxN 7) alB
theorem al_loop2 (r : S6) (y : PV) (C : List Prg) (hC : C.length ≤ 50000) (ok : ∀ q ∈ C, q.okp ∧ pover r.ns r.ss q) (k : Nat) (h : Prg) (hh : h ∈ C) (sh : ∀ v s, ∀ x ∈ restsP v s h, x ∈ C) (a : Int) : ∀ (ss : List Bool) (F : List Prg) (c6 c7 : Cell), InC C F → k ≤ F.length →
    ∃ c c', sLoop (gxN 6) alB2 (SV ss) (alE (sceneV r.ns r.ss) y F k (.v h.pv) (.v (.int a)) c6 c7) = some (.nx (alE (sceneV r.ns r.ss) y (adds F (ss.flatMap fun s => dst (restsP (vOf r.ns a) s h))) k (.v h.pv) (.v (.int a)) c c'))
  | [], F, c6, c7, _, _ => ⟨c6, c7, rfl⟩
  | s :: ss, F, c6, c7, i, hk => by
    have hd : ∀ q ∈ dst (restsP (vOf r.ns a) s h), q ∈ C := fun q hq => sh _ _ q (mem_dst.mp hq)
    obtain ⟨c7', e1⟩ := al_loop1 (sceneV r.ns r.ss) y C hC (fun q hq => (ok q hq).1) k (.v h.pv) (.v (.int a)) (.v (.str (sn s))) (dst (restsP (vOf r.ns a) s h)) F c7 i hd hk
    obtain ⟨c, c', e2⟩ := al_loop2 r y C hC ok k h hh sh a ss (adds F (dst (restsP (vOf r.ns a) s h))) (.v (.str (sn s))) c7' (i.adds hd) (Nat.le_trans hk (adds_more _ _))
    refine ⟨c, c', ?_⟩
    have o1 := (ok h hh).1
    have r1 := rests_ok r a s h 64 o1.1 o1.2 (ok h hh).2 (by have := o1.2; omega)
    have r2 := distinct_dst (restsP (vOf r.ns a) s h) (by have := rest_len (vOf r.ns a) s o1.1 o1.2; omega) fun q hq => (ok q (sh _ _ q hq)).1
    have t : sTurn (gxN 6) alB2 (.str (sn s)) (alE (sceneV r.ns r.ss) y F k (.v h.pv) (.v (.int a)) c6 c7) = some (.nx (alE (sceneV r.ns r.ss) y (adds F (dst (restsP (vOf r.ns a) s h))) k (.v h.pv) (.v (.int a)) (.v (.str (sn s))) c7')) := by
      show alB2 (alE (sceneV r.ns r.ss) y F k (.v h.pv) (.v (.int a)) (.v (.str (sn s))) c7) = _
      unfold alB2
      rw [sFor_at]
      simp only [dSeq_eq, bind_at, dCall_eq, dCons_eq, var_at, List.getElem?_cons_succ, List.getElem?_cons_zero, dNil_eq, ret_at, List.append_nil, callK_at, r1, r2, lift_at, seq_tup]
      exact e1
    rw [show SV (s :: ss) = .str (sn s) :: SV ss from rfl, loop_cons, t, List.flatMap_cons, adds_append]
    exact e2
def alB3 : SDen := sFor (dSeq (dFld ["Scene"] "steps" (dVar 0))) (gxN 6) alB2
theorem al_loop3 (r : S6) (y : PV) (C : List Prg) (hC : C.length ≤ 50000) (ok : ∀ q ∈ C, q.okp ∧ pover r.ns r.ss q) (k : Nat) (h : Prg) (hh : h ∈ C) (sh : ∀ v s, ∀ x ∈ restsP v s h, x ∈ C) : ∀ (as : List Int) (F : List Prg) (c5 c6 c7 : Cell), InC C F → k ≤ F.length →
    ∃ c c' c'', sLoop (gxN 5) alB3 (as.map .int) (alE (sceneV r.ns r.ss) y F k (.v h.pv) c5 c6 c7) = some (.nx (alE (sceneV r.ns r.ss) y (adds F (as.flatMap fun a => r.ss.flatMap fun s => dst (restsP (vOf r.ns a) s h))) k (.v h.pv) c c' c''))
  | [], F, c5, c6, c7, _, _ => ⟨c5, c6, c7, rfl⟩
  | a :: as, F, c5, c6, c7, i, hk => by
    have hd : ∀ q ∈ (r.ss.flatMap fun s => dst (restsP (vOf r.ns a) s h)), q ∈ C := fun q hq => by
      obtain ⟨s, _, hq⟩ := List.mem_flatMap.mp hq
      exact sh _ _ q (mem_dst.mp hq)
    obtain ⟨d6, d7, e1⟩ := al_loop2 r y C hC ok k h hh sh a r.ss F c6 c7 i hk
    obtain ⟨c, c', c'', e2⟩ := al_loop3 r y C hC ok k h hh sh as (adds F (r.ss.flatMap fun s => dst (restsP (vOf r.ns a) s h))) (.v (.int a)) d6 d7 (i.adds hd) (Nat.le_trans hk (adds_more _ _))
    refine ⟨c, c', c'', ?_⟩
    have t : sTurn (gxN 5) alB3 (.int a) (alE (sceneV r.ns r.ss) y F k (.v h.pv) c5 c6 c7) = some (.nx (alE (sceneV r.ns r.ss) y (adds F (r.ss.flatMap fun s => dst (restsP (vOf r.ns a) s h))) k (.v h.pv) (.v (.int a)) d6 d7)) := by
      show alB3 (alE (sceneV r.ns r.ss) y F k (.v h.pv) (.v (.int a)) c6 c7) = _
      unfold alB3
      rw [sFor_at, show dSeq (dFld ["Scene"] "steps" (dVar 0)) (alE (sceneV r.ns r.ss) y F k (.v h.pv) (.v (.int a)) c6 c7) = some (.ok (SV r.ss) (alE (sceneV r.ns r.ss) y F k (.v h.pv) (.v (.int a)) c6 c7)) from rfl]
      exact e1
    rw [List.map_cons, loop_cons, t, List.flatMap_cons, adds_append]
    exact e2
/-- the atoms and steps of a scene -/
def csP (r : S6) : List ((Bool → Bool) × Bool) := (rgI (2 ^ r.ns.length)).flatMap fun a => r.ss.map fun s => (vOf r.ns a, s)
theorem news_cs (r : S6) (h : Prg) : newsP (csP r) h = (rgI (2 ^ r.ns.length)).flatMap fun a => r.ss.flatMap fun s => dst (restsP (vOf r.ns a) s h) := by
  unfold newsP csP
  rw [List.flatMap_assoc]
  congr 1
  funext a
  rw [List.flatMap_map]
def alC : Den PV := dOp qGt (dLenM 3) (Den.ret (.int 0))
def alW : SDen := sSeq (sSet 4 (dPop0M 3)) (sFor (dSeq (dFld ["Scene"] "atoms" (dVar 0))) (gxN 5) alB3)
theorem al_c (S y : PV) (F : List Prg) (k : Nat) (c4 c5 c6 c7 : Cell) : alC (alE S y F k c4 c5 c6 c7) = some (.ok (.bl (decide (k < F.length))) (alE S y F k c4 c5 c6 c7)) := by
  have e : (0 < ((F.length - k : Nat) : Int)) = (k < F.length) := propext (by omega)
  simp [alC, dLenM, e]
  omega
theorem al_walk (r : S6) (y : PV) (C : List Prg) (hC : C.length ≤ 50000) (ok : ∀ q ∈ C, q.okp ∧ pover r.ns r.ss q) (sh : ∀ h ∈ C, ∀ v s, ∀ x ∈ restsP v s h, x ∈ C) : ∀ (m : Nat) (F : List Prg) (k : Nat) (c4 c5 c6 c7 : Cell), InC C F → k ≤ F.length → C.length ≤ k + m →
    ∃ d4 d5 d6 d7, ∀ n, sWhile alC alW (n + m + 1) (alE (sceneV r.ns r.ss) y F k c4 c5 c6 c7) = some (.nx (alE (sceneV r.ns r.ss) y (finP (csP r) m F k) (finP (csP r) m F k).length d4 d5 d6 d7)) := by
  intro m
  have fin : ∀ (F : List Prg) (k : Nat) (c4 c5 c6 c7 : Cell) (n : Nat), k = F.length → sWhile alC alW (n + 1) (alE (sceneV r.ns r.ss) y F k c4 c5 c6 c7) = some (.nx (alE (sceneV r.ns r.ss) y F F.length c4 c5 c6 c7)) := fun F k c4 c5 c6 c7 n e => by
    subst e
    exact while_end (by rw [al_c, decide_eq_false (Nat.lt_irrefl _)])
  induction m with
  | zero =>
    intro F k c4 c5 c6 c7 i hk hm
    have := i.len
    exact ⟨c4, c5, c6, c7, fun n => fin F k c4 c5 c6 c7 n (by omega)⟩
  | succ m ih =>
    intro F k c4 c5 c6 c7 i hk hm
    by_cases hlt : k < F.length
    · have hg : F[k]? = some F[k] := List.getElem?_eq_getElem hlt
      have hh : F[k] ∈ C := i.mem _ (List.getElem_mem hlt)
      have hd : F.drop k = F[k] :: F.drop (k + 1) := List.drop_eq_getElem_cons hlt
      obtain ⟨d5, d6, d7, e1⟩ := al_loop3 r y C hC ok (k + 1) F[k] hh (sh _ hh) (rgI (2 ^ r.ns.length)) F c5 c6 c7 i hlt
      have hx : ∀ q ∈ newsP (csP r) F[k], q ∈ C := fun q hq => by
        obtain ⟨c, _, hq⟩ := mem_news hq
        exact sh _ hh _ _ q hq
      rw [← news_cs] at e1
      obtain ⟨f4, f5, f6, f7, e2⟩ := ih (adds F (newsP (csP r) F[k])) (k + 1) (.v F[k].pv) d5 d6 d7 (i.adds hx) (Nat.le_trans hlt (adds_more _ _)) (by omega)
      refine ⟨f4, f5, f6, f7, fun n => ?_⟩
      have fe : finP (csP r) (m + 1) F k = finP (csP r) m (adds F (newsP (csP r) F[k])) (k + 1) := by
        show (match F[k]? with | some p => _ | none => _) = _
        rw [hg]
      rw [fe, ← Nat.add_assoc]
      refine (while_nx (by rw [al_c, decide_eq_true hlt]) (e2 := alE (sceneV r.ns r.ss) y (adds F (newsP (csP r) F[k])) (k + 1) (.v F[k].pv) d5 d6 d7) ?_).trans (e2 n)
      refine seq_nx (e' := alE (sceneV r.ns r.ss) y F (k + 1) (.v F[k].pv) c5 c6 c7) ?_ ?_
      · unfold dPop0M
        rw [set_at]
        simp only [alE, List.getElem?_cons_succ, List.getElem?_cons_zero, hd, Pu.pps_cons, List.set_cons_succ, List.set_cons_zero]
      · rw [sFor_at, show dSeq (dFld ["Scene"] "atoms" (dVar 0)) (alE (sceneV r.ns r.ss) y F (k + 1) (.v F[k].pv) c5 c6 c7) = some (.ok (rgP ((2 ^ r.ns.length : Nat) : Int)) (alE (sceneV r.ns r.ss) y F (k + 1) (.v F[k].pv) c5 c6 c7)) from rfl, rgP_eq]
        exact e1
    · have ek : k = F.length := by omega
      have hg : F[k]? = none := List.getElem?_eq_none (by omega)
      refine ⟨c4, c5, c6, c7, fun n => ?_⟩
      have fe : finP (csP r) (m + 1) F k = F := by
        show (match F[k]? with | some p => _ | none => _) = _
        rw [hg]
      rw [fe]
      exact fin F k c4 c5 c6 c7 (n + (m + 1)) ek
theorem all_left_ok (r : S6) (p : Prg) (h : small p) (o : pover r.ns r.ss p) : F_all_left [sceneV r.ns r.ss, p.pv] = some (.ok (.tup (PPs (finP (csP r) (clP p).length [p] 0)))) := by
  have k := look_one _ _ true (fits_over (small_okp h) o)
  have key := key_of_ok p (small_okp h)
  have len := cl_len h
  obtain ⟨d4, d5, d6, d7, e⟩ := al_walk r p.pv (clP p) (by omega) (cl_ok h o) (fun q hq v s => cl_rests v s hq) (clP p).length [p] 0 .un .un .un .un ⟨by simp, fun q hq => by rw [List.mem_singleton.mp hq]; exact List.mem_cons_self⟩ (Nat.zero_le _) (by omega)
  have w := e (99999 - (clP p).length)
  rw [show 99999 - (clP p).length + (clP p).length + 1 = 100000 by omega] at w
  have e2 : (KP' (finP (csP r) (clP p).length [p] 0)).map (·.2) = PPs (finP (csP r) (clP p).length [p] 0) := by rw [List.map_map]; rfl
  refine fn_rt (c := [.v (sceneV r.ns r.ss), .v p.pv, .un, .un, .un, .un, .un, .un]) (e' := [.v (sceneV r.ns r.ss), .v p.pv, .v (.dic ((KP' (finP (csP r) (clP p).length [p] 0)).map (·.1)) (PPs (finP (csP r) (clP p).length [p] 0))), .m true (PPs ((finP (csP r) (clP p).length [p] 0).drop (finP (csP r) (clP p).length [p] 0).length)), d4, d5, d6, d7]) rfl ?_
  refine seq_nx (e' := [.v (sceneV r.ns r.ss), .v p.pv, .un, .un, .un, .un, .un, .un]) (by simp [dCallV, callV, k]) ?_
  refine seq_nx (e' := [.v (sceneV r.ns r.ss), .v p.pv, .dOf true (KP' [p]), .un, .un, .un, .un, .un]) ?_ ?_
  · have kp := p.key_pv
    rw [setD_at, sOf_at]
    unfold dDisp1
    simp only [dCall_eq, bind_at, dCons_eq, var_at, List.getElem?_cons_succ, List.getElem?_cons_zero, dNil_eq, ret_at, List.append_nil, callK_at, key, kp]
    rfl
  refine seq_nx (e' := alE (sceneV r.ns r.ss) p.pv [p] 0 .un .un .un .un) (by simp) ?_
  refine seq_nx w ?_
  unfold dTupV dVals
  simp only [ret_st, bind_at, freezeD_at, List.getElem?_cons_succ, List.getElem?_cons_zero, Cell.dOf, ret_at, lift_at, e2]
  rfl
end Lk01
set_option Elab.async false
set_option linter.all false
set_option maxRecDepth 100000
set_option maxHeartbeats 4000000
namespace Lk01
open PySem L2 Pu
/-! ### the law's sameness of what is told -/
theorem same_self {x : PV} (h : okS x = true) (d : x.depth < 60) : F__law_same 64 [x, x] = some (.ok (.bl true)) := same_ok 64 x h (by omega)
theorem okS_tup {xs : List PV} (h : okSs xs = true) (l : xs.length ≤ 16777216) : okS (.tup xs) = true := by
  show (decide (xs.length ≤ 16777216) && okSs xs) = true
  rw [h, decide_eq_true l]; rfl
theorem okS_lst {xs : List PV} (h : okSs xs = true) (l : xs.length ≤ 16777216) : okS (.lst xs) = true := okS_tup h l
theorem okSs_pps : ∀ L : List Prg, okSs (PPs L) = true
  | [] => rfl
  | p :: L => by show (okS p.pv && okSs (PPs L)) = true; rw [okS_prg p, okSs_pps L]; rfl
theorem same_tup (L : List Prg) (h : ∀ q ∈ L, q.okp) (l : L.length ≤ 100000) : F__law_same 64 [.tup (PPs L), .tup (PPs L)] = some (.ok (.bl true)) := by
  have d := depths_pps L h
  exact same_self (okS_tup (okSs_pps L) (by rw [List.length_map]; omega)) (by rw [depth_tup]; omega)
theorem same_lst (L : List Prg) (h : ∀ q ∈ L, q.okp) (l : L.length ≤ 100000) : F__law_same 64 [.lst (PPs L), .lst (PPs L)] = some (.ok (.bl true)) := by
  have d := depths_pps L h
  exact same_self (okS_lst (okSs_pps L) (by rw [List.length_map]; omega)) (by rw [depth_lst]; omega)
theorem same_bl (b : Bool) : F__law_same 64 [.bl b, .bl b] = some (.ok (.bl true)) := same_self rfl (by simp)
end Lk01
set_option Elab.async false
set_option linter.all false
set_option maxRecDepth 100000
set_option maxHeartbeats 4000000
namespace Lk01
open PySem L2 Pu
def st1 : SDen := (sSet 3 (dCallM 1 F__law_scene dNil))
def st2 : SDen := (sSet 4 (dMake "Scene" F_Scene____init__ (dCons (dOp qIx (dVar 3) (Den.ret (.int 0))) (dCons (dOp qIx (dVar 3) (Den.ret (.int 1))) dNil))))
def st3 : SDen := (sPar 8 9 (dCallM 1 (F__law_program 64) (dCons (dVar 3) (dCons (Den.ret (.int 4)) dNil))) (dCallM 1 (F__law_program 64) (dCons (dVar 3) (dCons (Den.ret (.int 2)) dNil))))
def st4 : SDen := (sIf (dNot (dCall (F__law_same 64) [] (dCons (dLstOf (dShort (dCons (dCall F_then [] (dCons (dVar 8) (dCons (dVar 9) dNil))) (dCons (dCall F_then [] (dCons (dTup (dCons (Den.ret (.str "test")) (dCons (dTup (dCons (Den.ret (.str "yes")) dNil)) dNil))) (dCons (dVar 9) dNil))) (dCons (dCall F_then [] (dCons (dVar 8) (dCons (dTup (dCons (Den.ret (.str "test")) (dCons (dTup (dCons (Den.ret (.str "no")) dNil)) dNil))) dNil))) dNil))))) (dCons (dLstOf (dShort (dCons (dCall F__law_then [] (dCons (dVar 8) (dCons (dVar 9) dNil))) (dCons (dVar 9) (dCons (dTup (dCons (Den.ret (.str "test")) (dCons (dTup (dCons (Den.ret (.str "no")) dNil)) dNil))) dNil))))) dNil)))) (sRet (Den.ret (.bl false))) sNext)
def st5 : SDen := (sSet 5 (dLstOf (dRg (dOp qShl (Den.ret (.int 1)) (dArgs qLen (dCons (dOp qIx (dVar 3) (Den.ret (.int 0))) dNil))))))
def st6 : SDen := (sFor (dSeq (dVar 5)) (gxN 6) (sSeq (sIf (dNot (dCall (F__law_same 64) [] (dCons (dCall (F_may_end 64) [] (dCons (dVar 4) (dCons (dVar 8) (dCons (dVar 6) dNil)))) (dCons (dCall (F__law_ends 64) [] (dCons (dVar 8) (dCons (dVar 6) (dCons (dOp qIx (dVar 3) (Den.ret (.int 0))) dNil)))) dNil)))) (sRet (Den.ret (.bl false))) sNext) (sFor (dSeq (dOp qIx (dVar 3) (Den.ret (.int 1)))) (gxN 10) (sIf (dNot (dCall (F__law_same 64) [] (dCons (dCall F_left_behind [] (dCons (dVar 4) (dCons (dVar 8) (dCons (dVar 6) (dCons (dVar 10) dNil))))) (dCons (dCall F__law_different [] (dCons (dCall (F__law_left 64) [] (dCons (dVar 8) (dCons (dVar 6) (dCons (dVar 10) (dCons (dOp qIx (dVar 3) (Den.ret (.int 0))) dNil))))) dNil)) dNil)))) (sRet (Den.ret (.bl false))) sNext))))
def st7 : SDen := (sParM 11 12 (dShort (dCons (dVar 8) dNil)) 0)
def st8 : SDen := (sWhile (dOp qLt (dVar 12) (dLenM 11)) (sSeq (sFor (dSeq (dVar 5)) (gxN 6) (sFor (dSeq (dOp qIx (dVar 3) (Den.ret (.int 1)))) (gxN 10) (sFor (dSeq (dCall F__law_different [] (dCons (dCall (F__law_left 64) [] (dCons (dIxM 11 (dVar 12)) (dCons (dVar 6) (dCons (dVar 10) (dCons (dOp qIx (dVar 3) (Den.ret (.int 0))) dNil))))) dNil))) (gxN 15) (sIf (dInL true 11 (dVar 15)) (sDrop (dAppM 11 (dVar 15))) sNext)))) (sSet 12 (dAdd (dVar 12) (Den.ret (.int 1))))) 100000)
def st9 : SDen := (sIf (dNot (dCall (F__law_same 64) [] (dCons (dCall F_all_left [] (dCons (dVar 4) (dCons (dVar 8) dNil))) (dCons (dArgs qTuple (dCons (dFreeze 11) dNil)) dNil)))) (sRet (Den.ret (.bl false))) sNext)
def st10 : SDen := (sFor (dSeq (dLstOf (dShort (dCons (Den.ret (.non)) (dCons (dTup (dCons (Den.ret (.str "step")) (dCons (Den.ret (.str "r")) dNil))) (dCons (dTup (dCons (Den.ret (.str "loop")) dNil)) (dCons (dTup (dCons (Den.ret (.str "test")) (dCons (dTup (dCons (Den.ret (.str "is")) (dCons (Den.ret (.str "d")) dNil))) dNil))) dNil))))))) (gxN 7) (sFor (dRg (Den.ret (.int 2))) (gxN 13) (sTryIs "BadProgram" 14 (sSeq (sIf (dOp qEq (dVar 13) (Den.ret (.int 0))) (sDrop (dCall F_left_behind [] (dCons (dVar 4) (dCons (dVar 7) (dCons (Den.ret (.int 0)) (dCons (Den.ret (.str "p")) dNil)))))) (sDrop (dCall F_all_left [] (dCons (dVar 4) (dCons (dVar 7) dNil))))) (sRet (Den.ret (.bl false)))))))
def bodyL : SDen := (sSeq st1 (sSeq st2 (sSeq st3 (sSeq st4 (sSeq st5 (sSeq st6 (sSeq st7 (sSeq st8 (sSeq st9 st10)))))))))
def en1 : SDen := (sRet (Den.ret (.bl true)))
theorem F_law_eq : F_law = fnDen 16 (sSeq (sSetM 1 (dCallO F__law_draws (dCons (dVar 0) dNil))) (sSeq (sFor (dRg (Den.ret (.int 5))) (gxN 2) bodyL) en1)) := by kernel_rfl
theorem st1_ok {ds ds1 : List PV} {r : S6} (h : F__law_scene ds [] = some (r.pv, ds1)) (x0 x2 x3 x4 x5 x6 x7 x8 x9 x10 x11 x12 x13 x14 x15 : Cell) : st1 [x0, .m true ds, x2, x3, x4, x5, x6, x7, x8, x9, x10, x11, x12, x13, x14, x15] = some (.nx [x0, .m true ds1, x2, .v r.pv, x4, x5, x6, x7, x8, x9, x10, x11, x12, x13, x14, x15]) := by simp [st1, h]
theorem st2_ok (r : S6) (x0 x1 x2 x4 x5 x6 x7 x8 x9 x10 x11 x12 x13 x14 x15 : Cell) : st2 [x0, x1, x2, .v r.pv, x4, x5, x6, x7, x8, x9, x10, x11, x12, x13, x14, x15] = some (.nx [x0, x1, x2, .v r.pv, .v (sceneV r.ns r.ss), x5, x6, x7, x8, x9, x10, x11, x12, x13, x14, x15]) := by
  have e := make_at "Scene" F_Scene____init__ (dCons (dOp qIx (dVar 3) (Den.ret (.int 0))) (dCons (dOp qIx (dVar 3) (Den.ret (.int 1))) dNil)) [x0, x1, x2, .v r.pv, x4, x5, x6, x7, x8, x9, x10, x11, x12, x13, x14, x15] [.tup (NV r.ns), .tup (SV r.ss)] _ _ (e1 := [x0, x1, x2, .v r.pv, x4, x5, x6, x7, x8, x9, x10, x11, x12, x13, x14, x15]) (by simp [S6.pv]) (init_S6 r)
  unfold st2
  rw [set_at, e]
  rfl
theorem st3_ok {ds ds1 ds2 : List PV} {r : S6} {p q : Prg} (h : F__law_program 64 ds [r.pv, .int 4] = some (p.pv, ds1)) (k : F__law_program 64 ds1 [r.pv, .int 2] = some (q.pv, ds2)) (x0 x2 x4 x5 x6 x7 x8 x9 x10 x11 x12 x13 x14 x15 : Cell) : st3 [x0, .m true ds, x2, .v r.pv, x4, x5, x6, x7, x8, x9, x10, x11, x12, x13, x14, x15] = some (.nx [x0, .m true ds2, x2, .v r.pv, x4, x5, x6, x7, .v p.pv, .v q.pv, x10, x11, x12, x13, x14, x15]) := by simp [st3, h, k]
theorem then_skipL (q : Prg) : thenP skipP q = q := by
  unfold thenP
  by_cases h : q = failP
  · subst h; rfl
  · rw [if_neg (by simp [h]), if_pos rfl]
theorem then_fail (p : Prg) : thenP p failP = failP := if_pos (.inr rfl)
theorem st4_ok (p q : Prg) (hp : small p) (hq : small q) (x0 x1 x2 x3 x4 x5 x6 x7 x10 x11 x12 x13 x14 x15 : Cell) : st4 [x0, x1, x2, x3, x4, x5, x6, x7, .v p.pv, .v q.pv, x10, x11, x12, x13, x14, x15] = some (.nx [x0, x1, x2, x3, x4, x5, x6, x7, .v p.pv, .v q.pv, x10, x11, x12, x13, x14, x15]) := by
  have mp := okp_mid (small_okp hp)
  have mq := okp_mid (small_okp hq)
  have e1 := then_ok mp mq
  have e2 : F_then [.tup [.str "test", .tup [.str "yes"]], q.pv] = some (.ok q.pv) := by have := then_ok mid_skip mq; rw [then_skipL] at this; exact this
  have e3 : F_then [p.pv, .tup [.str "test", .tup [.str "no"]]] = some (.ok (.tup [.str "test", .tup [.str "no"]])) := by have := then_ok mp mid_fail; rw [then_fail] at this; exact this
  have e4 := lthen_ok mp mq
  have ok : ∀ x ∈ [thenP p q, q, failP], x.okp := by
    intro x hx
    simp only [List.mem_cons, List.not_mem_nil, or_false] at hx
    rcases hx with rfl | rfl | rfl
    · refine ⟨then_low hp.1 hq.1, ?_⟩
      have := then_dep p q
      have := hp.2
      have := hq.2
      omega
    · exact small_okp hq
    · exact ⟨Nat.zero_le _, Nat.zero_le _⟩
  have s := same_lst [thenP p q, q, failP] ok (by simp)
  have s' : F__law_same 64 [.lst [(thenP p q).pv, q.pv, .tup [.str "test", .tup [.str "no"]]], .lst [(thenP p q).pv, q.pv, .tup [.str "test", .tup [.str "no"]]]] = some (.ok (.bl true)) := s
  simp [st4, e1, e2, e3, e4, s']
theorem st5_ok (r : S6) (x0 x1 x2 x4 x5 x6 x7 x8 x9 x10 x11 x12 x13 x14 x15 : Cell) : st5 [x0, x1, x2, .v r.pv, x4, x5, x6, x7, x8, x9, x10, x11, x12, x13, x14, x15] = some (.nx [x0, x1, x2, .v r.pv, x4, .v (.lst ((rgI (2 ^ r.ns.length)).map .int)), x6, x7, x8, x9, x10, x11, x12, x13, x14, x15]) := by cases r <;> kernel_rfl
def ck1 : SDen := (sIf (dNot (dCall (F__law_same 64) [] (dCons (dCall (F_may_end 64) [] (dCons (dVar 4) (dCons (dVar 8) (dCons (dVar 6) dNil)))) (dCons (dCall (F__law_ends 64) [] (dCons (dVar 8) (dCons (dVar 6) (dCons (dOp qIx (dVar 3) (Den.ret (.int 0))) dNil)))) dNil)))) (sRet (Den.ret (.bl false))) sNext)
def ck2 : SDen := (sIf (dNot (dCall (F__law_same 64) [] (dCons (dCall F_left_behind [] (dCons (dVar 4) (dCons (dVar 8) (dCons (dVar 6) (dCons (dVar 10) dNil))))) (dCons (dCall F__law_different [] (dCons (dCall (F__law_left 64) [] (dCons (dVar 8) (dCons (dVar 6) (dCons (dVar 10) (dCons (dOp qIx (dVar 3) (Den.ret (.int 0))) dNil))))) dNil)) dNil)))) (sRet (Den.ret (.bl false))) sNext)
theorem ck2_turn (r : S6) (p : Prg) (hp : small p) (op : pover r.ns r.ss p) (a : Int) (s : Bool) (x0 x1 x2 x5 x7 x9 x10 x11 x12 x13 x14 x15 : Cell) : sTurn (gxN 10) ck2 (.str (sn s)) [x0, x1, x2, .v r.pv, .v (sceneV r.ns r.ss), x5, .v (.int a), x7, .v p.pv, x9, x10, x11, x12, x13, x14, x15] = some (.nx [x0, x1, x2, .v r.pv, .v (sceneV r.ns r.ss), x5, .v (.int a), x7, .v p.pv, x9, .v (.str (sn s)), x11, x12, x13, x14, x15]) := by
  have e1 := left_ok r a s p hp op
  have e2 := lleft_ok r a s p 64 hp.1 (small_okp hp).2 op (by have := hp.2; omega)
  have okr : ∀ x ∈ restsP (vOf r.ns a) s p, x.okp := fun x hx => (cl_ok hp op x (cl_rests _ _ List.mem_cons_self x hx)).1
  have ln := rest_len (vOf r.ns a) s hp.1 (small_okp hp).2
  have e3 := different_ok (restsP (vOf r.ns a) s p) okr (by omega)
  have e4 := same_tup (dst (restsP (vOf r.ns a) s p)) (fun x hx => okr x (mem_dst.mp hx)) (by have := dst_len (restsP (vOf r.ns a) s p); omega)
  have ix : r.pv = .tup [.tup (NV r.ns), .tup (SV r.ss)] := rfl
  simp [sTurn, ck2, ix, e1, e2, e3, e4]
theorem ck2_loop (r : S6) (p : Prg) (hp : small p) (op : pover r.ns r.ss p) (a : Int) (x0 x1 x2 x5 x7 x9 x11 x12 x13 x14 x15 : Cell) : ∀ (ss : List Bool) (x10 : Cell), ∃ c, sLoop (gxN 10) ck2 (SV ss) [x0, x1, x2, .v r.pv, .v (sceneV r.ns r.ss), x5, .v (.int a), x7, .v p.pv, x9, x10, x11, x12, x13, x14, x15] = some (.nx [x0, x1, x2, .v r.pv, .v (sceneV r.ns r.ss), x5, .v (.int a), x7, .v p.pv, x9, c, x11, x12, x13, x14, x15])
  | [], x10 => ⟨x10, rfl⟩
  | s :: ss, x10 => by
    obtain ⟨c, e⟩ := ck2_loop r p hp op a x0 x1 x2 x5 x7 x9 x11 x12 x13 x14 x15 ss (.v (.str (sn s)))
    refine ⟨c, ?_⟩
    rw [show SV (s :: ss) = .str (sn s) :: SV ss from rfl, loop_cons, ck2_turn r p hp op a s]
    exact e
theorem ck1_ok (r : S6) (p : Prg) (hp : small p) (op : pover r.ns r.ss p) (a : Int) (x0 x1 x2 x5 x7 x9 x10 x11 x12 x13 x14 x15 : Cell) : ck1 [x0, x1, x2, .v r.pv, .v (sceneV r.ns r.ss), x5, .v (.int a), x7, .v p.pv, x9, x10, x11, x12, x13, x14, x15] = some (.nx [x0, x1, x2, .v r.pv, .v (sceneV r.ns r.ss), x5, .v (.int a), x7, .v p.pv, x9, x10, x11, x12, x13, x14, x15]) := by
  have e1 := may_end_ok r a p 64 hp.1 op (by have := hp.2; omega)
  have e2 := lends_ok r a p 64 hp.1 op (by have := hp.2; omega)
  have e3 := same_bl (p.ends (vOf r.ns a))
  have ix : r.pv = .tup [.tup (NV r.ns), .tup (SV r.ss)] := rfl
  simp [ck1, ix, e1, e2, e3]
theorem ck_turn (r : S6) (p : Prg) (hp : small p) (op : pover r.ns r.ss p) (a : Int) (x0 x1 x2 x5 x6 x7 x9 x10 x11 x12 x13 x14 x15 : Cell) : ∃ c, sTurn (gxN 6) (sSeq ck1 (sFor (dSeq (dOp qIx (dVar 3) (Den.ret (.int 1)))) (gxN 10) ck2)) (.int a) [x0, x1, x2, .v r.pv, .v (sceneV r.ns r.ss), x5, x6, x7, .v p.pv, x9, x10, x11, x12, x13, x14, x15] = some (.nx [x0, x1, x2, .v r.pv, .v (sceneV r.ns r.ss), x5, .v (.int a), x7, .v p.pv, x9, c, x11, x12, x13, x14, x15]) := by
  obtain ⟨c, e⟩ := ck2_loop r p hp op a x0 x1 x2 x5 x7 x9 x11 x12 x13 x14 x15 r.ss x10
  refine ⟨c, ?_⟩
  show sSeq ck1 _ [x0, x1, x2, .v r.pv, .v (sceneV r.ns r.ss), x5, .v (.int a), x7, .v p.pv, x9, x10, x11, x12, x13, x14, x15] = _
  refine seq_nx (ck1_ok r p hp op a x0 x1 x2 x5 x7 x9 x10 x11 x12 x13 x14 x15) ?_
  rw [sFor_at, show dSeq (dOp qIx (dVar 3) (Den.ret (.int 1))) [x0, x1, x2, .v r.pv, .v (sceneV r.ns r.ss), x5, .v (.int a), x7, .v p.pv, x9, x10, x11, x12, x13, x14, x15] = some (.ok (SV r.ss) [x0, x1, x2, .v r.pv, .v (sceneV r.ns r.ss), x5, .v (.int a), x7, .v p.pv, x9, x10, x11, x12, x13, x14, x15]) from rfl]
  exact e
theorem ck_loop (r : S6) (p : Prg) (hp : small p) (op : pover r.ns r.ss p) (x0 x1 x2 x5 x7 x9 x11 x12 x13 x14 x15 : Cell) : ∀ (as : List Int) (x6 x10 : Cell), ∃ b c, sLoop (gxN 6) (sSeq ck1 (sFor (dSeq (dOp qIx (dVar 3) (Den.ret (.int 1)))) (gxN 10) ck2)) (as.map .int) [x0, x1, x2, .v r.pv, .v (sceneV r.ns r.ss), x5, x6, x7, .v p.pv, x9, x10, x11, x12, x13, x14, x15] = some (.nx [x0, x1, x2, .v r.pv, .v (sceneV r.ns r.ss), x5, b, x7, .v p.pv, x9, c, x11, x12, x13, x14, x15])
  | [], x6, x10 => ⟨x6, x10, rfl⟩
  | a :: as, x6, x10 => by
    obtain ⟨c, e1⟩ := ck_turn r p hp op a x0 x1 x2 x5 x6 x7 x9 x10 x11 x12 x13 x14 x15
    obtain ⟨b', c', e2⟩ := ck_loop r p hp op x0 x1 x2 x5 x7 x9 x11 x12 x13 x14 x15 as (.v (.int a)) c
    refine ⟨b', c', ?_⟩
    rw [List.map_cons, loop_cons, e1]
    exact e2
theorem st6_ok (r : S6) (p : Prg) (hp : small p) (op : pover r.ns r.ss p) (x0 x1 x2 x6 x7 x9 x10 x11 x12 x13 x14 x15 : Cell) : ∃ b c, st6 [x0, x1, x2, .v r.pv, .v (sceneV r.ns r.ss), .v (.lst ((rgI (2 ^ r.ns.length)).map .int)), x6, x7, .v p.pv, x9, x10, x11, x12, x13, x14, x15] = some (.nx [x0, x1, x2, .v r.pv, .v (sceneV r.ns r.ss), .v (.lst ((rgI (2 ^ r.ns.length)).map .int)), b, x7, .v p.pv, x9, c, x11, x12, x13, x14, x15]) := by
  obtain ⟨b, c, e⟩ := ck_loop r p hp op x0 x1 x2 (.v (.lst ((rgI (2 ^ r.ns.length)).map .int))) x7 x9 x11 x12 x13 x14 x15 (rgI (2 ^ r.ns.length)) x6 x10
  refine ⟨b, c, ?_⟩
  show sFor (dSeq (dVar 5)) (gxN 6) (sSeq ck1 (sFor (dSeq (dOp qIx (dVar 3) (Den.ret (.int 1)))) (gxN 10) ck2)) _ = _
  rw [sFor_at, show dSeq (dVar 5) [x0, x1, x2, .v r.pv, .v (sceneV r.ns r.ss), .v (.lst ((rgI (2 ^ r.ns.length)).map .int)), x6, x7, .v p.pv, x9, x10, x11, x12, x13, x14, x15] = some (.ok ((rgI (2 ^ r.ns.length)).map .int) [x0, x1, x2, .v r.pv, .v (sceneV r.ns r.ss), .v (.lst ((rgI (2 ^ r.ns.length)).map .int)), x6, x7, .v p.pv, x9, x10, x11, x12, x13, x14, x15]) from rfl]
  exact e
theorem st7_ok (p : Prg) (x0 x1 x2 x3 x4 x5 x6 x7 x9 x10 x11 x12 x13 x14 x15 : Cell) : st7 [x0, x1, x2, x3, x4, x5, x6, x7, .v p.pv, x9, x10, x11, x12, x13, x14, x15] = some (.nx [x0, x1, x2, x3, x4, x5, x6, x7, .v p.pv, x9, x10, .m true (PPs [p]), .v (.int ((0 : Nat) : Int)), x13, x14, x15]) := by simp [st7, sParM]
def lwB : SDen := (sIf (dInL true 11 (dVar 15)) (sDrop (dAppM 11 (dVar 15))) sNext)
def lw2 : SDen := sFor (dSeq (dCall F__law_different [] (dCons (dCall (F__law_left 64) [] (dCons (dIxM 11 (dVar 12)) (dCons (dVar 6) (dCons (dVar 10) (dCons (dOp qIx (dVar 3) (Den.ret (.int 0))) dNil))))) dNil))) (gxN 15) lwB
def lw3 : SDen := sFor (dSeq (dOp qIx (dVar 3) (Den.ret (.int 1)))) (gxN 10) lw2
def lwW : SDen := sSeq (sFor (dSeq (dVar 5)) (gxN 6) lw3) (sSet 12 (dAdd (dVar 12) (Den.ret (.int 1))))
def lwC : Den PV := (dOp qLt (dVar 12) (dLenM 11))
abbrev lwE (r : S6) (x0 x1 x2 x7 x8 x9 x13 x14 : Cell) (F : List Prg) (k : Nat) (c6 c10 c15 : Cell) : Cells := [x0, x1, x2, .v r.pv, .v (sceneV r.ns r.ss), .v (.lst ((rgI (2 ^ r.ns.length)).map .int)), c6, x7, x8, x9, c10, .m true (PPs F), .v (.int (k : Nat)), x13, x14, c15]
theorem lw_turn (r : S6) (x0 x1 x2 x7 x8 x9 x13 x14 : Cell) (F : List Prg) (k : Nat) (c6 c10 c15 : Cell) (x : Prg) (hx : x.okp) (ok : ∀ q ∈ F, q.okp) (hF : F.length < 100000) : sTurn (gxN 15) lwB x.pv (lwE r x0 x1 x2 x7 x8 x9 x13 x14 F k c6 c10 c15) = some (.nx (lwE r x0 x1 x2 x7 x8 x9 x13 x14 (add1 F x) k c6 c10 (.v x.pv))) := by
  have big : 100000 ≤ sizeLine := by decide
  have l : (PPs F).length < sizeLine := by rw [List.length_map]; omega
  have f1 := x.fit hx
  have f2 := fit_pps ok
  have a := any_pps x F
  show lwB (lwE r x0 x1 x2 x7 x8 x9 x13 x14 F k c6 c10 (.v x.pv)) = _
  unfold add1
  have e : dInL true 11 (dVar 15) (lwE r x0 x1 x2 x7 x8 x9 x13 x14 F k c6 c10 (.v x.pv)) = some (.ok (.bl (!decide (x ∈ F))) (lwE r x0 x1 x2 x7 x8 x9 x13 x14 F k c6 c10 (.v x.pv))) := by
    simp only [inL_at, bind_at, var_at, List.getElem?_cons_succ, List.getElem?_cons_zero, f1, f2, and_self, if_true, a, Bool.true_xor]
  by_cases h : x ∈ F
  · rw [if_pos h]
    rw [decide_eq_true h] at e
    exact if_f e rfl
  · rw [if_neg h]
    rw [decide_eq_false h] at e
    refine if_t e ?_
    simp only [drop_st, appM_at, List.getElem?_cons_succ, List.getElem?_cons_zero, bind_at, var_at, l, if_true, List.set_cons_succ, List.set_cons_zero]
    rw [show PPs F ++ [x.pv] = PPs (F ++ [x]) from by simp]
theorem lw_loop1 (r : S6) (x0 x1 x2 x7 x8 x9 x13 x14 : Cell) (C : List Prg) (hC : C.length ≤ 50000) (ok : ∀ q ∈ C, q.okp) (k : Nat) (c6 c10 : Cell) : ∀ (xs F : List Prg) (c15 : Cell), InC C F → (∀ q ∈ xs, q ∈ C) → ∃ c', sLoop (gxN 15) lwB (PPs xs) (lwE r x0 x1 x2 x7 x8 x9 x13 x14 F k c6 c10 c15) = some (.nx (lwE r x0 x1 x2 x7 x8 x9 x13 x14 (adds F xs) k c6 c10 c'))
  | [], F, c15, _, _ => ⟨c15, rfl⟩
  | x :: xs, F, c15, i, h => by
    have hx := h x List.mem_cons_self
    have i2 : InC C (add1 F x) := i.adds (xs := [x]) fun q hq => by rw [List.mem_singleton.mp hq]; exact hx
    obtain ⟨c', e⟩ := lw_loop1 r x0 x1 x2 x7 x8 x9 x13 x14 C hC ok k c6 c10 xs (add1 F x) (.v x.pv) i2 (fun q hq => h q (List.mem_cons_of_mem _ hq))
    refine ⟨c', ?_⟩
    rw [Pu.pps_cons, loop_cons, lw_turn r x0 x1 x2 x7 x8 x9 x13 x14 F k c6 c10 c15 x (ok x hx) (fun q hq => ok q (i.mem q hq)) (by have := i.len; omega), adds_cons]
    exact e
theorem adds_get (F xs : List Prg) {k : Nat} {h : Prg} (hk : F[k]? = some h) : (adds F xs)[k]? = some h := by
  obtain ⟨X, e⟩ := adds_pre xs F
  rw [e, List.getElem?_append_left (List.getElem?_eq_some_iff.mp hk).1, hk]
theorem lw_loop2 (r : S6) (x0 x1 x2 x7 x8 x9 x13 x14 : Cell) (C : List Prg) (hC : C.length ≤ 50000) (ok : ∀ q ∈ C, q.okp ∧ pover r.ns r.ss q) (k : Nat) (h : Prg) (hh : h ∈ C) (sh : ∀ v s, ∀ x ∈ restsP v s h, x ∈ C) (a : Int) : ∀ (ss : List Bool) (F : List Prg) (c10 c15 : Cell), InC C F → F[k]? = some h →
    ∃ c c', sLoop (gxN 10) lw2 (SV ss) (lwE r x0 x1 x2 x7 x8 x9 x13 x14 F k (.v (.int a)) c10 c15) = some (.nx (lwE r x0 x1 x2 x7 x8 x9 x13 x14 (adds F (ss.flatMap fun s => dst (restsP (vOf r.ns a) s h))) k (.v (.int a)) c c'))
  | [], F, c10, c15, _, _ => ⟨c10, c15, rfl⟩
  | s :: ss, F, c10, c15, i, hk => by
    have hd : ∀ q ∈ dst (restsP (vOf r.ns a) s h), q ∈ C := fun q hq => sh _ _ q (mem_dst.mp hq)
    obtain ⟨c15', e1⟩ := lw_loop1 r x0 x1 x2 x7 x8 x9 x13 x14 C hC (fun q hq => (ok q hq).1) k (.v (.int a)) (.v (.str (sn s))) (dst (restsP (vOf r.ns a) s h)) F c15 i hd
    obtain ⟨c, c', e2⟩ := lw_loop2 r x0 x1 x2 x7 x8 x9 x13 x14 C hC ok k h hh sh a ss (adds F (dst (restsP (vOf r.ns a) s h))) (.v (.str (sn s))) c15' (i.adds hd) (adds_get _ _ hk)
    refine ⟨c, c', ?_⟩
    have o1 := (ok h hh).1
    have r1 := lleft_ok r a s h 64 o1.1 o1.2 (ok h hh).2 (by have := o1.2; omega)
    have r2 := different_ok (restsP (vOf r.ns a) s h) (fun q hq => (ok q (sh _ _ q hq)).1) (by have := rest_len (vOf r.ns a) s o1.1 o1.2; omega)
    have gk : (PPs F)[k]? = some h.pv := by rw [List.getElem?_map, hk]; rfl
    have ix : ∀ i : Int, qIx r.pv (.int i) = atI [.tup (NV r.ns), .tup (SV r.ss)] i := fun _ => rfl
    have t : sTurn (gxN 10) lw2 (.str (sn s)) (lwE r x0 x1 x2 x7 x8 x9 x13 x14 F k (.v (.int a)) c10 c15) = some (.nx (lwE r x0 x1 x2 x7 x8 x9 x13 x14 (adds F (dst (restsP (vOf r.ns a) s h))) k (.v (.int a)) (.v (.str (sn s))) c15')) := by
      show lw2 (lwE r x0 x1 x2 x7 x8 x9 x13 x14 F k (.v (.int a)) (.v (.str (sn s))) c15) = _
      unfold lw2
      rw [sFor_at]
      simp only [dSeq_eq, bind_at, dCall_eq, dCons_eq, ixM_at, dOp_eq, var_at, List.getElem?_cons_succ, List.getElem?_cons_zero, dNil_eq, ret_at, List.append_nil, atI_cast, gk, ix, atI_lit, lift_at, callK_at, r1, r2, seq_tup]
      exact e1
    rw [show SV (s :: ss) = .str (sn s) :: SV ss from rfl, loop_cons, t, List.flatMap_cons, adds_append]
    exact e2
theorem lw_loop3 (r : S6) (x0 x1 x2 x7 x8 x9 x13 x14 : Cell) (C : List Prg) (hC : C.length ≤ 50000) (ok : ∀ q ∈ C, q.okp ∧ pover r.ns r.ss q) (k : Nat) (h : Prg) (hh : h ∈ C) (sh : ∀ v s, ∀ x ∈ restsP v s h, x ∈ C) : ∀ (as : List Int) (F : List Prg) (c6 c10 c15 : Cell), InC C F → F[k]? = some h →
    ∃ c c' c'', sLoop (gxN 6) lw3 (as.map .int) (lwE r x0 x1 x2 x7 x8 x9 x13 x14 F k c6 c10 c15) = some (.nx (lwE r x0 x1 x2 x7 x8 x9 x13 x14 (adds F (as.flatMap fun a => r.ss.flatMap fun s => dst (restsP (vOf r.ns a) s h))) k c c' c''))
  | [], F, c6, c10, c15, _, _ => ⟨c6, c10, c15, rfl⟩
  | a :: as, F, c6, c10, c15, i, hk => by
    have hd : ∀ q ∈ (r.ss.flatMap fun s => dst (restsP (vOf r.ns a) s h)), q ∈ C := fun q hq => by
      obtain ⟨s, _, hq⟩ := List.mem_flatMap.mp hq
      exact sh _ _ q (mem_dst.mp hq)
    obtain ⟨d10, d15, e1⟩ := lw_loop2 r x0 x1 x2 x7 x8 x9 x13 x14 C hC ok k h hh sh a r.ss F c10 c15 i hk
    obtain ⟨c, c', c'', e2⟩ := lw_loop3 r x0 x1 x2 x7 x8 x9 x13 x14 C hC ok k h hh sh as (adds F (r.ss.flatMap fun s => dst (restsP (vOf r.ns a) s h))) (.v (.int a)) d10 d15 (i.adds hd) (adds_get _ _ hk)
    refine ⟨c, c', c'', ?_⟩
    have t : sTurn (gxN 6) lw3 (.int a) (lwE r x0 x1 x2 x7 x8 x9 x13 x14 F k c6 c10 c15) = some (.nx (lwE r x0 x1 x2 x7 x8 x9 x13 x14 (adds F (r.ss.flatMap fun s => dst (restsP (vOf r.ns a) s h))) k (.v (.int a)) d10 d15)) := by
      show lw3 (lwE r x0 x1 x2 x7 x8 x9 x13 x14 F k (.v (.int a)) c10 c15) = _
      unfold lw3
      rw [sFor_at, show dSeq (dOp qIx (dVar 3) (Den.ret (.int 1))) (lwE r x0 x1 x2 x7 x8 x9 x13 x14 F k (.v (.int a)) c10 c15) = some (.ok (SV r.ss) (lwE r x0 x1 x2 x7 x8 x9 x13 x14 F k (.v (.int a)) c10 c15)) from rfl]
      exact e1
    rw [List.map_cons, loop_cons, t, List.flatMap_cons, adds_append]
    exact e2
theorem lw_c (r : S6) (x0 x1 x2 x7 x8 x9 x13 x14 : Cell) (F : List Prg) (k : Nat) (c6 c10 c15 : Cell) : lwC (lwE r x0 x1 x2 x7 x8 x9 x13 x14 F k c6 c10 c15) = some (.ok (.bl (decide (k < F.length))) (lwE r x0 x1 x2 x7 x8 x9 x13 x14 F k c6 c10 c15)) := by
  have e : ((k : Int) < (F.length : Int)) = (k < F.length) := propext (by omega)
  simp [lwC, dLenM, e]
theorem lw_walk (r : S6) (x0 x1 x2 x7 x8 x9 x13 x14 : Cell) (C : List Prg) (hC : C.length ≤ 50000) (ok : ∀ q ∈ C, q.okp ∧ pover r.ns r.ss q) (sh : ∀ h ∈ C, ∀ v s, ∀ x ∈ restsP v s h, x ∈ C) : ∀ (m : Nat) (F : List Prg) (k : Nat) (c6 c10 c15 : Cell), InC C F → k ≤ F.length → C.length ≤ k + m →
    ∃ (K : Nat) (d6 d10 d15 : Cell), ∀ n, sWhile lwC lwW (n + m + 1) (lwE r x0 x1 x2 x7 x8 x9 x13 x14 F k c6 c10 c15) = some (.nx (lwE r x0 x1 x2 x7 x8 x9 x13 x14 (finP (csP r) m F k) K d6 d10 d15)) := by
  intro m
  have fin : ∀ (F : List Prg) (k : Nat) (c6 c10 c15 : Cell) (n : Nat), k = F.length → sWhile lwC lwW (n + 1) (lwE r x0 x1 x2 x7 x8 x9 x13 x14 F k c6 c10 c15) = some (.nx (lwE r x0 x1 x2 x7 x8 x9 x13 x14 F k c6 c10 c15)) := fun F k c6 c10 c15 n e => by
    subst e
    exact while_end (by rw [lw_c, decide_eq_false (Nat.lt_irrefl _)])
  induction m with
  | zero =>
    intro F k c6 c10 c15 i hk hm
    have := i.len
    exact ⟨k, c6, c10, c15, fun n => fin F k c6 c10 c15 n (by omega)⟩
  | succ m ih =>
    intro F k c6 c10 c15 i hk hm
    by_cases hlt : k < F.length
    · have hg : F[k]? = some F[k] := List.getElem?_eq_getElem hlt
      have hh : F[k] ∈ C := i.mem _ (List.getElem_mem hlt)
      obtain ⟨d6, d10, d15, e1⟩ := lw_loop3 r x0 x1 x2 x7 x8 x9 x13 x14 C hC ok k F[k] hh (sh _ hh) (rgI (2 ^ r.ns.length)) F c6 c10 c15 i hg
      have hx : ∀ q ∈ newsP (csP r) F[k], q ∈ C := fun q hq => by
        obtain ⟨c, _, hq⟩ := mem_news hq
        exact sh _ hh _ _ q hq
      rw [← news_cs] at e1
      obtain ⟨K, f6, f10, f15, e2⟩ := ih (adds F (newsP (csP r) F[k])) (k + 1) d6 d10 d15 (i.adds hx) (Nat.le_trans hlt (adds_more _ _)) (by omega)
      refine ⟨K, f6, f10, f15, fun n => ?_⟩
      have fe : finP (csP r) (m + 1) F k = finP (csP r) m (adds F (newsP (csP r) F[k])) (k + 1) := by
        show (match F[k]? with | some p => _ | none => _) = _
        rw [hg]
      rw [fe, ← Nat.add_assoc]
      refine (while_nx (by rw [lw_c, decide_eq_true hlt]) (e2 := lwE r x0 x1 x2 x7 x8 x9 x13 x14 (adds F (newsP (csP r) F[k])) (k + 1) d6 d10 d15) ?_).trans (e2 n)
      refine seq_nx (e' := lwE r x0 x1 x2 x7 x8 x9 x13 x14 (adds F (newsP (csP r) F[k])) k d6 d10 d15) ?_ (by simp)
      rw [sFor_at, show dSeq (dVar 5) (lwE r x0 x1 x2 x7 x8 x9 x13 x14 F k c6 c10 c15) = some (.ok ((rgI (2 ^ r.ns.length)).map .int) (lwE r x0 x1 x2 x7 x8 x9 x13 x14 F k c6 c10 c15)) from rfl]
      exact e1
    · have ek : k = F.length := by omega
      have hg : F[k]? = none := List.getElem?_eq_none (by omega)
      refine ⟨k, c6, c10, c15, fun n => ?_⟩
      have fe : finP (csP r) (m + 1) F k = F := by
        show (match F[k]? with | some p => _ | none => _) = _
        rw [hg]
      rw [fe]
      exact fin F k c6 c10 c15 (n + (m + 1)) ek
noncomputable abbrev allP (r : S6) (p : Prg) : List Prg := finP (csP r) (clP p).length [p] 0
theorem st8_ok (r : S6) (p : Prg) (hp : small p) (op : pover r.ns r.ss p) (x0 x1 x2 x7 x8 x9 x13 x14 x6 x10 x15 : Cell) : ∃ (K : Nat) (d6 d10 d15 : Cell), st8 (lwE r x0 x1 x2 x7 x8 x9 x13 x14 [p] 0 x6 x10 x15) = some (.nx (lwE r x0 x1 x2 x7 x8 x9 x13 x14 (allP r p) K d6 d10 d15)) := by
  have len := cl_len hp
  obtain ⟨K, d6, d10, d15, e⟩ := lw_walk r x0 x1 x2 x7 x8 x9 x13 x14 (clP p) (by omega) (cl_ok hp op) (fun q hq v s => cl_rests v s hq) (clP p).length [p] 0 x6 x10 x15 ⟨by simp, fun q hq => by rw [List.mem_singleton.mp hq]; exact List.mem_cons_self⟩ (Nat.zero_le _) (by omega)
  have w := e (99999 - (clP p).length)
  rw [show 99999 - (clP p).length + (clP p).length + 1 = 100000 by omega] at w
  exact ⟨K, d6, d10, d15, w⟩
theorem all_in (r : S6) (p : Prg) (hp : small p) (op : pover r.ns r.ss p) : ∀ (m : Nat) (F : List Prg) (k : Nat), InC (clP p) F → InC (clP p) (finP (csP r) m F k)
  | 0, F, k, i => i
  | m + 1, F, k, i => by
    unfold finP
    cases hg : F[k]? with
    | none => exact i
    | some h =>
      have hh := i.mem h (List.mem_of_getElem? hg)
      exact all_in r p hp op m _ _ (i.adds fun q hq => by
        obtain ⟨c, _, hq⟩ := mem_news hq
        exact cl_rests _ _ hh q hq)
theorem st9_ok (r : S6) (p : Prg) (hp : small p) (op : pover r.ns r.ss p) (x0 x1 x2 x3 x5 x6 x7 x9 x10 x12 x13 x14 x15 : Cell) : st9 [x0, x1, x2, x3, .v (sceneV r.ns r.ss), x5, x6, x7, .v p.pv, x9, x10, .m true (PPs (allP r p)), x12, x13, x14, x15] = some (.nx [x0, x1, x2, x3, .v (sceneV r.ns r.ss), x5, x6, x7, .v p.pv, x9, x10, .v (.lst (PPs (allP r p))), x12, x13, x14, x15]) := by
  have i : InC (clP p) (allP r p) := all_in r p hp op (clP p).length [p] 0 ⟨by simp, fun q hq => by rw [List.mem_singleton.mp hq]; exact List.mem_cons_self⟩
  have e1 : F_all_left [sceneV r.ns r.ss, p.pv] = some (.ok (.tup (PPs (allP r p)))) := all_left_ok r p hp op
  have e2 := same_tup (allP r p) (fun q hq => (cl_ok hp op q (i.mem q hq)).1) (by have := i.len; have := cl_len hp; omega)
  generalize allP r p = A at i e1 e2 ⊢
  simp [st9, e1, e2]
def bd1 : SDen := (sTryIs "BadProgram" 14 (sSeq (sIf (dOp qEq (dVar 13) (Den.ret (.int 0))) (sDrop (dCall F_left_behind [] (dCons (dVar 4) (dCons (dVar 7) (dCons (Den.ret (.int 0)) (dCons (Den.ret (.str "p")) dNil)))))) (sDrop (dCall F_all_left [] (dCons (dVar 4) (dCons (dVar 7) dNil))))) (sRet (Den.ret (.bl false)))))
def bd2 : SDen := sFor (dRg (Den.ret (.int 2))) (gxN 13) bd1
theorem bad_fits (r : S6) : ∀ b ∈ ([.non, .tup [.str "step", .str "r"], .tup [.str "loop"], .tup [.str "test", .tup [.str "is", .str "d"]]] : List PV), F_fits [sceneV r.ns r.ss, b] = some (.ok (.bl false)) := at_each (by cases r <;> kernel_rfl)
theorem bad_turn (r : S6) (b : PV) (hb : F_fits [sceneV r.ns r.ss, b] = some (.ok (.bl false))) (x0 x1 x2 x3 x5 x6 x7 x8 x9 x10 x11 x12 x13 x14 x15 : Cell) : sTurn (gxN 12) sNext b [x0, x1, x2, x3, .v (sceneV r.ns r.ss), x5, x6, x7, x8, x9, x10, x11, x12, x13, x14, x15] = some (.nx [x0, x1, x2, x3, .v (sceneV r.ns r.ss), x5, x6, x7, x8, x9, x10, x11, .v b, x13, x14, x15]) := rfl
theorem bd_turn (r : S6) (b : PV) (hb : F_fits [sceneV r.ns r.ss, b] = some (.ok (.bl false))) (x0 x1 x2 x3 x5 x6 x7 x8 x9 x10 x11 x12 x13 x14 x15 : Cell) : sTurn (gxN 7) bd2 b [x0, x1, x2, x3, .v (sceneV r.ns r.ss), x5, x6, x7, x8, x9, x10, x11, x12, x13, x14, x15] = some (.nx [x0, x1, x2, x3, .v (sceneV r.ns r.ss), x5, x6, .v b, x8, x9, x10, x11, x12, .v (.int 1), .un, x15]) := by
  have k := look_one _ _ false hb
  have k1 : F_left_behind [sceneV r.ns r.ss, b, .int 0, .str "p"] = some (.error ⟨"BadProgram", [], []⟩) := by simp [F_left_behind, fnDen, d_left_behind, dCallV, callV, k]
  have k2 : F_all_left [sceneV r.ns r.ss, b] = some (.error ⟨"BadProgram", [], []⟩) := by simp [F_all_left, fnDen, d_all_left, dCallV, callV, k]
  have rg : rgP 2 = [.int 0, .int 1] := rfl
  simp [sTurn, bd2, bd1, rg, loop_cons, loop_nil, k1, k2]
theorem bd_loop (r : S6) (x0 x1 x2 x3 x5 x6 x8 x9 x10 x11 x12 x15 : Cell) : ∀ (bs : List PV) (x7 x13 x14 : Cell), (∀ b ∈ bs, F_fits [sceneV r.ns r.ss, b] = some (.ok (.bl false))) → ∃ c7 c13 c14, sLoop (gxN 7) bd2 bs [x0, x1, x2, x3, .v (sceneV r.ns r.ss), x5, x6, x7, x8, x9, x10, x11, x12, x13, x14, x15] = some (.nx [x0, x1, x2, x3, .v (sceneV r.ns r.ss), x5, x6, c7, x8, x9, x10, x11, x12, c13, c14, x15])
  | [], x7, x13, x14, _ => ⟨x7, x13, x14, rfl⟩
  | b :: bs, x7, x13, x14, h => by
    obtain ⟨c7, c13, c14, e⟩ := bd_loop r x0 x1 x2 x3 x5 x6 x8 x9 x10 x11 x12 x15 bs (.v b) (.v (.int 1)) .un fun y hy => h y (List.mem_cons_of_mem _ hy)
    refine ⟨c7, c13, c14, ?_⟩
    rw [loop_cons, bd_turn r b (h b List.mem_cons_self)]
    exact e
theorem st10_ok (r : S6) (x0 x1 x2 x3 x5 x6 x7 x8 x9 x10 x11 x12 x13 x14 x15 : Cell) : ∃ c7 c13 c14, st10 [x0, x1, x2, x3, .v (sceneV r.ns r.ss), x5, x6, x7, x8, x9, x10, x11, x12, x13, x14, x15] = some (.nx [x0, x1, x2, x3, .v (sceneV r.ns r.ss), x5, x6, c7, x8, x9, x10, x11, x12, c13, c14, x15]) := by
  obtain ⟨c7, c13, c14, e⟩ := bd_loop r x0 x1 x2 x3 x5 x6 x8 x9 x10 x11 x12 x15 [.non, .tup [.str "step", .str "r"], .tup [.str "loop"], .tup [.str "test", .tup [.str "is", .str "d"]]] x7 x13 x14 (bad_fits r)
  refine ⟨c7, c13, c14, ?_⟩
  show sFor _ (gxN 7) bd2 _ = _
  rw [sFor_at, show (dSeq (dLstOf (dShort (dCons (Den.ret (.non)) (dCons (dTup (dCons (Den.ret (.str "step")) (dCons (Den.ret (.str "r")) dNil))) (dCons (dTup (dCons (Den.ret (.str "loop")) dNil)) (dCons (dTup (dCons (Den.ret (.str "test")) (dCons (dTup (dCons (Den.ret (.str "is")) (dCons (Den.ret (.str "d")) dNil))) dNil))) dNil))))))) [x0, x1, x2, x3, .v (sceneV r.ns r.ss), x5, x6, x7, x8, x9, x10, x11, x12, x13, x14, x15] = some (.ok [.non, .tup [.str "step", .str "r"], .tup [.str "loop"], .tup [.str "test", .tup [.str "is", .str "d"]]] [x0, x1, x2, x3, .v (sceneV r.ns r.ss), x5, x6, x7, x8, x9, x10, x11, x12, x13, x14, x15]) from by simp]
  exact e
end Lk01
set_option Elab.async false
set_option linter.all false
set_option maxRecDepth 100000
set_option maxHeartbeats 4000000
namespace Lk01
open PySem L2 Pu
def Shape (sc : List PV) (s0 : Cell) (e : Cells) : Prop := ∃ (ds : List PV) (c2 c3 c4 c5 c6 c7 c8 c9 c10 c11 c12 c13 c14 c15 : Cell), DrOk sc ds ∧ e = [s0, .m true ds, c2, c3, c4, c5, c6, c7, c8, c9, c10, c11, c12, c13, c14, c15]
theorem body_ok {sc : List PV} {s0 : Cell} (hs : ∀ x ∈ sc, ∃ i, x = .int i) {e : Cells} (h : Shape sc s0 e) : ∃ e', bodyL e = some (.nx e') ∧ Shape sc s0 e' := by
  obtain ⟨ds, c2, c3, c4, c5, c6, c7, c8, c9, c10, c11, c12, c13, c14, c15, hd, rfl⟩ := h
  obtain ⟨r, ds1, e1, d1⟩ := scene_ok hs hd
  obtain ⟨p, ds2, e2, d2, l2, w2, op⟩ := prog_draw hs r 4 64 ds1 (by omega) d1
  obtain ⟨q, ds3, e3, d3, l3, w3, oq⟩ := prog_draw hs r 2 64 ds2 (by omega) d2
  have hp : small p := ⟨w2, l2⟩
  have hq : small q := ⟨w3, by omega⟩
  obtain ⟨b6, b10, E6⟩ := st6_ok r p hp op (s0) (.m true ds3) c2 c6 c7 (.v q.pv) c10 c11 c12 c13 c14 c15
  obtain ⟨K, g6, g10, g15, E8⟩ := st8_ok r p hp op (s0) (.m true ds3) c2 c7 (.v p.pv) (.v q.pv) c13 c14 (b6) (b10) c15
  obtain ⟨h7, h13, h14, E10⟩ := st10_ok r (s0) (.m true ds3) c2 (.v r.pv) (.v (.lst ((rgI (2 ^ r.ns.length)).map .int))) (g6) c7 (.v p.pv) (.v q.pv) (g10) (.v (.lst (PPs (allP r p)))) (.v (.int (K : Nat))) c13 c14 (g15)
  refine ⟨_, ?_, ds3, c2, .v r.pv, .v (sceneV r.ns r.ss), .v (.lst ((rgI (2 ^ r.ns.length)).map .int)), g6, h7, .v p.pv, .v q.pv, g10, .v (.lst (PPs (allP r p))), .v (.int (K : Nat)), h13, h14, g15, d3, rfl⟩
  unfold bodyL
  refine seq_nx (st1_ok e1 _ _ _ _ _ _ _ _ _ _ _ _ _ _ _) ?_
  refine seq_nx (st2_ok r _ _ _ _ _ _ _ _ _ _ _ _ _ _ _) ?_
  refine seq_nx (st3_ok e2 e3 _ _ _ _ _ _ _ _ _ _ _ _ _ _) ?_
  refine seq_nx (st4_ok p q hp hq _ _ _ _ _ _ _ _ _ _ _ _ _ _) ?_
  refine seq_nx (st5_ok r _ _ _ _ _ _ _ _ _ _ _ _ _ _ _) ?_
  refine seq_nx E6 ?_
  refine seq_nx (st7_ok p _ _ _ _ _ _ _ _ _ _ _ _ _ _ _) ?_
  refine seq_nx E8 ?_
  refine seq_nx (st9_ok r p hp op _ _ _ _ _ _ _ _ _ _ _ _ _) ?_
  exact E10
def rtOf : Option SOut → Option PV
  | some (.rt v _) => some v
  | _ => none
theorem rtOf_ex {o : Option SOut} {v : PV} (h : rtOf o = some v) : ∃ e', o = some (.rt v e') := by
  unfold rtOf at h
  split at h
  · cases h; exact ⟨_, rfl⟩
  · cases h
theorem end_ok (x0 x1 x2 x3 x4 x5 x6 x7 x8 x9 x10 x11 x12 x13 x14 x15 : Cell) : ∃ e', en1 [x0, x1, x2, x3, x4, x5, x6, x7, x8, x9, x10, x11, x12, x13, x14, x15] = some (.rt (.bl true) e') := rtOf_ex (by kernel_rfl)
theorem truthP : ∀ ns : List Int, ns.length ≤ 63 → F_law [.lst (ns.map .int)] = some (.ok (.bl true)) := by
  intro ns _
  have hs : ∀ x ∈ ns.map PV.int, ∃ i, x = PV.int i := fun x hx => by
    obtain ⟨i, _, rfl⟩ := List.mem_map.mp hx
    exact ⟨i, rfl⟩
  generalize ns.map PV.int = sc at hs
  obtain ⟨e', l1, ⟨ds, c2, c3, c4, c5, c6, c7, c8, c9, c10, c11, c12, c13, c14, c15, hd, rfl⟩⟩ := loop_inv (gx := gxN 2) (body := bodyL) (fun _ e => Shape sc (.v (.lst sc)) e) (rgP 5) [.v (.lst sc), .m true [.lst sc, .int 0, .int 0, .int 1], .un, .un, .un, .un, .un, .un, .un, .un, .un, .un, .un, .un, .un, .un] ⟨_, _, _, _, _, _, _, _, _, _, _, _, _, _, _, ⟨⟨0, 0, 1, rfl⟩⟩, rfl⟩ fun x xs e h => by
    obtain ⟨ds, k2, k3, k4, k5, k6, k7, k8, k9, k10, k11, k12, k13, k14, k15, hd, rfl⟩ := h
    obtain ⟨e', h1, h2⟩ := body_ok (s0 := .v (.lst sc)) hs ⟨ds, .v x, k3, k4, k5, k6, k7, k8, k9, k10, k11, k12, k13, k14, k15, hd, rfl⟩
    refine ⟨e', .inl ?_, h2⟩
    have : sTurn (gxN 2) bodyL x [.v (.lst sc), .m true ds, k2, k3, k4, k5, k6, k7, k8, k9, k10, k11, k12, k13, k14, k15] = bodyL [.v (.lst sc), .m true ds, .v x, k3, k4, k5, k6, k7, k8, k9, k10, k11, k12, k13, k14, k15] := by simp [sTurn]
    rw [this]
    exact h1
  obtain ⟨e2, h2⟩ := end_ok (.v (.lst sc)) (.m true ds) c2 c3 c4 c5 c6 c7 c8 c9 c10 c11 c12 c13 c14 c15
  rw [F_law_eq]
  refine fn_rt (c := [.v (.lst sc), .un, .un, .un, .un, .un, .un, .un, .un, .un, .un, .un, .un, .un, .un, .un]) (e' := e2) rfl ?_
  refine seq_nx (e' := [.v (.lst sc), .m true [.lst sc, .int 0, .int 0, .int 1], .un, .un, .un, .un, .un, .un, .un, .un, .un, .un, .un, .un, .un, .un]) (by simp [draws_at]) ?_
  refine seq_nx (e' := [.v (.lst sc), .m true ds, c2, c3, c4, c5, c6, c7, c8, c9, c10, c11, c12, c13, c14, c15]) ?_ h2
  rw [sFor_at]
  have hi : dRg (Den.ret (.int 5)) [.v (.lst sc), .m true [.lst sc, .int 0, .int 0, .int 1], .un, .un, .un, .un, .un, .un, .un, .un, .un, .un, .un, .un, .un, .un] = some (.ok (rgP 5) [.v (.lst sc), .m true [.lst sc, .int 0, .int 0, .int 1], .un, .un, .un, .un, .un, .un, .un, .un, .un, .un, .un, .un, .un, .un]) := by simp
  rw [hi]
  exact l1
end Lk01
set_option Elab.async false
set_option linter.all false
set_option maxRecDepth 100000
set_option maxHeartbeats 8000000
namespace Lk01
open PySem PySem.Spec PyProof.Rows L2 Pu
/-! ### the end -/
def Truth : Prop := ∀ ns : List Int, ns.length ≤ 63 → F_law [.lst (ns.map .int)] = some (.ok (.bl true))
theorem all_mk (tr : Truth) {P : Program} {w : World} {K : PySem.W.Frag} {h : Heap} {mg : Str → Option Value} {fa : Addr} (X : K.In h) (G : h.Ns mainGlobals mg) (hfa : mg "law" = some (.ref fa)) {X_BadProgram : Addr}
    {X_Scene : Addr}
    {f__law_draws : Addr} {od__law_draws an__law_draws : Option Addr} {sl__law_draws : Array (Option Value)} {oc__law_draws kV__law_draws dc__law_draws pm__law_draws cd__law_draws ct__law_draws : Value}
    {f__law_draw : Addr} {od__law_draw an__law_draw : Option Addr} {sl__law_draw : Array (Option Value)} {oc__law_draw kV__law_draw dc__law_draw pm__law_draw cd__law_draw ct__law_draw : Value}
    {f__law_scene : Addr} {od__law_scene an__law_scene : Option Addr} {sl__law_scene : Array (Option Value)} {oc__law_scene kV__law_scene dc__law_scene pm__law_scene cd__law_scene ct__law_scene : Value}
    {f_is_name : Addr} {od_is_name an_is_name : Option Addr} {sl_is_name : Array (Option Value)} {oc_is_name kV_is_name dc_is_name pm_is_name cd_is_name ct_is_name : Value}
    {f_is_names : Addr} {od_is_names an_is_names : Option Addr} {sl_is_names : Array (Option Value)} {oc_is_names kV_is_names dc_is_names pm_is_names cd_is_names ct_is_names : Value}
    {f_Scene____init__ : Addr} {od_Scene____init__ an_Scene____init__ : Option Addr} {sl_Scene____init__ : Array (Option Value)} {oc_Scene____init__ kV_Scene____init__ dc_Scene____init__ pm_Scene____init__ cd_Scene____init__ ct_Scene____init__ : Value}
    {f__law_test : Addr} {od__law_test an__law_test : Option Addr} {sl__law_test : Array (Option Value)} {oc__law_test kV__law_test dc__law_test pm__law_test cd__law_test ct__law_test : Value}
    {f__law_program : Addr} {od__law_program an__law_program : Option Addr} {sl__law_program : Array (Option Value)} {oc__law_program kV__law_program dc__law_program pm__law_program cd__law_program ct__law_program : Value}
    {f__law_same : Addr} {od__law_same an__law_same : Option Addr} {sl__law_same : Array (Option Value)} {oc__law_same kV__law_same dc__law_same pm__law_same cd__law_same ct__law_same : Value}
    {f_is_test : Addr} {od_is_test an_is_test : Option Addr} {sl_is_test : Array (Option Value)} {oc_is_test kV_is_test dc_is_test pm_is_test cd_is_test ct_is_test : Value}
    {T_is_test : Addr} {tn_is_test : Nat} {ts_is_test : Array (Option Value)} {td_is_test : Option Addr} {tk_is_test_0 : Tok}
    {f_is_program : Addr} {od_is_program an_is_program : Option Addr} {sl_is_program : Array (Option Value)} {oc_is_program kV_is_program dc_is_program pm_is_program cd_is_program ct_is_program : Value}
    {T_is_program : Addr} {tn_is_program : Nat} {ts_is_program : Array (Option Value)} {td_is_program : Option Addr} {tk_is_program_0 : Tok}
    {f_key_of : Addr} {od_key_of an_key_of : Option Addr} {sl_key_of : Array (Option Value)} {oc_key_of kV_key_of dc_key_of pm_key_of cd_key_of ct_key_of : Value}
    {f_parts_of : Addr} {od_parts_of an_parts_of : Option Addr} {sl_parts_of : Array (Option Value)} {oc_parts_of kV_parts_of dc_parts_of pm_parts_of cd_parts_of ct_parts_of : Value}
    {f_within : Addr} {od_within an_within : Option Addr} {sl_within : Array (Option Value)} {oc_within kV_within dc_within pm_within cd_within ct_within : Value}
    {f_steps_in : Addr} {od_steps_in an_steps_in : Option Addr} {sl_steps_in : Array (Option Value)} {oc_steps_in kV_steps_in dc_steps_in pm_steps_in cd_steps_in ct_steps_in : Value}
    {f_names_in : Addr} {od_names_in an_names_in : Option Addr} {sl_names_in : Array (Option Value)} {oc_names_in kV_names_in dc_names_in pm_names_in cd_names_in ct_names_in : Value}
    {f_tests_in : Addr} {od_tests_in an_tests_in : Option Addr} {sl_tests_in : Array (Option Value)} {oc_tests_in kV_tests_in dc_tests_in pm_tests_in cd_tests_in ct_tests_in : Value}
    {f_fits : Addr} {od_fits an_fits : Option Addr} {sl_fits : Array (Option Value)} {oc_fits kV_fits dc_fits pm_fits cd_fits ct_fits : Value}
    {f_look_at : Addr} {od_look_at an_look_at : Option Addr} {sl_look_at : Array (Option Value)} {oc_look_at kV_look_at dc_look_at pm_look_at cd_look_at ct_look_at : Value}
    {f_distinct : Addr} {od_distinct an_distinct : Option Addr} {sl_distinct : Array (Option Value)} {oc_distinct kV_distinct dc_distinct pm_distinct cd_distinct ct_distinct : Value}
    {f_then : Addr} {od_then an_then : Option Addr} {sl_then : Array (Option Value)} {oc_then kV_then dc_then pm_then cd_then ct_then : Value}
    {f_behind : Addr} {od_behind an_behind : Option Addr} {sl_behind : Array (Option Value)} {oc_behind kV_behind dc_behind pm_behind cd_behind ct_behind : Value}
    {f_has : Addr} {od_has an_has : Option Addr} {sl_has : Array (Option Value)} {oc_has kV_has dc_has pm_has cd_has ct_has : Value}
    {f_holds : Addr} {od_holds an_holds : Option Addr} {sl_holds : Array (Option Value)} {oc_holds kV_holds dc_holds pm_holds cd_holds ct_holds : Value}
    {f_may_end : Addr} {od_may_end an_may_end : Option Addr} {sl_may_end : Array (Option Value)} {oc_may_end kV_may_end dc_may_end pm_may_end cd_may_end ct_may_end : Value}
    {f_rests : Addr} {od_rests an_rests : Option Addr} {sl_rests : Array (Option Value)} {oc_rests kV_rests dc_rests pm_rests cd_rests ct_rests : Value}
    {f_all_left : Addr} {od_all_left an_all_left : Option Addr} {sl_all_left : Array (Option Value)} {oc_all_left kV_all_left dc_all_left pm_all_left cd_all_left ct_all_left : Value}
    {f__law_then : Addr} {od__law_then an__law_then : Option Addr} {sl__law_then : Array (Option Value)} {oc__law_then kV__law_then dc__law_then pm__law_then cd__law_then ct__law_then : Value}
    {f__law_holds : Addr} {od__law_holds an__law_holds : Option Addr} {sl__law_holds : Array (Option Value)} {oc__law_holds kV__law_holds dc__law_holds pm__law_holds cd__law_holds ct__law_holds : Value}
    {f__law_ends : Addr} {od__law_ends an__law_ends : Option Addr} {sl__law_ends : Array (Option Value)} {oc__law_ends kV__law_ends dc__law_ends pm__law_ends cd__law_ends ct__law_ends : Value}
    {f__law_different : Addr} {od__law_different an__law_different : Option Addr} {sl__law_different : Array (Option Value)} {oc__law_different kV__law_different dc__law_different pm__law_different cd__law_different ct__law_different : Value}
    {f_left_behind : Addr} {od_left_behind an_left_behind : Option Addr} {sl_left_behind : Array (Option Value)} {oc_left_behind kV_left_behind dc_left_behind pm_left_behind cd_left_behind ct_left_behind : Value}
    {f__law_left : Addr} {od__law_left an__law_left : Option Addr} {sl__law_left : Array (Option Value)} {oc__law_left kV__law_left dc__law_left pm__law_left cd__law_left ct__law_left : Value}
    {f_law : Addr} {od_law an_law : Option Addr} {sl_law : Array (Option Value)} {oc_law kV_law dc_law pm_law cd_law ct_law : Value}
    {gt_FAIL_0 : Tok}
    {gt_FAIL_2 : Tok}
    {ga_FAIL_1 : Addr} {gn_FAIL_1 : Nat} {gs_FAIL_1 : Array (Option Value)}
    {ga_FAIL : Addr} {gn_FAIL : Nat} {gs_FAIL : Array (Option Value)}
    {gt_LETTERS : Tok}
    {gt_MOST_NAMES : Tok}
    {gt_MOST_STEPS : Tok}
    {gt_SKIP_0 : Tok}
    {gt_SKIP_2 : Tok}
    {ga_SKIP_1 : Addr} {gn_SKIP_1 : Nat} {gs_SKIP_1 : Array (Option Value)}
    {ga_SKIP : Addr} {gn_SKIP : Nat} {gs_SKIP : Array (Option Value)}
    (ca_Scene : PySem.W.nsIn K mainGlobals "Scene" = some (some (.ref X_Scene)))
    (cg_Scene : PySem.W.plainGet K X_Scene Str.empty = true)
    (cd_Scene : PySem.W.hasDictIn K X_Scene = true)
    (co_Scene : PySem.W.plainOver K X_Scene = true)
    (cs_Scene : PySem.W.findIn K (.ref X_Scene) "__setattr__" = some (some (.builtin "object.__setattr__")))
    (cn_Scene_atoms : PySem.W.findIn K (.ref X_Scene) "atoms" = some none)
    (cn_Scene_names : PySem.W.findIn K (.ref X_Scene) "names" = some none)
    (cn_Scene_steps : PySem.W.findIn K (.ref X_Scene) "steps" = some none)
    (cm_Scene : PySem.W.makesIn K X_Scene = true)
    (ck_Scene : PySem.W.keepIn K (.ref X_Scene) = true)
    (a__law_draws : PySem.W.nsIn K mainGlobals "_law_draws" = some (some (.ref f__law_draws)))
    (l__law_draws : K.lookup f__law_draws = some ⟨oc__law_draws, od__law_draws, .func (PySem.W.fnOf "_law_draws" "_law_draws" (defArgs s__law_draws) (defBody s__law_draws) (defScope s__law_draws) .none kV__law_draws dc__law_draws pm__law_draws an__law_draws cd__law_draws ct__law_draws), sl__law_draws⟩)
    (c__law_draws : PySem.W.codeIn K cd__law_draws "_law_draws" = true)
    (k__law_draws : PySem.W.keepIn K (.ref f__law_draws) = true)
    (a__law_draw : PySem.W.nsIn K mainGlobals "_law_draw" = some (some (.ref f__law_draw)))
    (l__law_draw : K.lookup f__law_draw = some ⟨oc__law_draw, od__law_draw, .func (PySem.W.fnOf "_law_draw" "_law_draw" (defArgs s__law_draw) (defBody s__law_draw) (defScope s__law_draw) .none kV__law_draw dc__law_draw pm__law_draw an__law_draw cd__law_draw ct__law_draw), sl__law_draw⟩)
    (c__law_draw : PySem.W.codeIn K cd__law_draw "_law_draw" = true)
    (k__law_draw : PySem.W.keepIn K (.ref f__law_draw) = true)
    (a__law_scene : PySem.W.nsIn K mainGlobals "_law_scene" = some (some (.ref f__law_scene)))
    (l__law_scene : K.lookup f__law_scene = some ⟨oc__law_scene, od__law_scene, .func (PySem.W.fnOf "_law_scene" "_law_scene" (defArgs s__law_scene) (defBody s__law_scene) (defScope s__law_scene) .none kV__law_scene dc__law_scene pm__law_scene an__law_scene cd__law_scene ct__law_scene), sl__law_scene⟩)
    (c__law_scene : PySem.W.codeIn K cd__law_scene "_law_scene" = true)
    (k__law_scene : PySem.W.keepIn K (.ref f__law_scene) = true)
    (a_is_name : PySem.W.nsIn K mainGlobals "is_name" = some (some (.ref f_is_name)))
    (l_is_name : K.lookup f_is_name = some ⟨oc_is_name, od_is_name, .func (PySem.W.fnOf "is_name" "is_name" (defArgs s_is_name) (defBody s_is_name) (defScope s_is_name) .none kV_is_name dc_is_name pm_is_name an_is_name cd_is_name ct_is_name), sl_is_name⟩)
    (c_is_name : PySem.W.codeIn K cd_is_name "is_name" = true)
    (k_is_name : PySem.W.keepIn K (.ref f_is_name) = true)
    (a_is_names : PySem.W.nsIn K mainGlobals "is_names" = some (some (.ref f_is_names)))
    (l_is_names : K.lookup f_is_names = some ⟨oc_is_names, od_is_names, .func (PySem.W.fnOf "is_names" "is_names" (defArgs s_is_names) (defBody s_is_names) (defScope s_is_names) .none kV_is_names dc_is_names pm_is_names an_is_names cd_is_names ct_is_names), sl_is_names⟩)
    (c_is_names : PySem.W.codeIn K cd_is_names "is_names" = true)
    (k_is_names : PySem.W.keepIn K (.ref f_is_names) = true)
    (a_Scene____init__ : PySem.W.findIn K (.ref X_Scene) "__init__" = some (some (.ref f_Scene____init__)))
    (ai_Scene____init__ : PySem.W.isFn K (.ref f_Scene____init__) = true)
    (l_Scene____init__ : K.lookup f_Scene____init__ = some ⟨oc_Scene____init__, od_Scene____init__, .func (PySem.W.fnOf "__init__" "Scene.__init__" (defArgs s_Scene____init__) (defBody s_Scene____init__) (defScope s_Scene____init__) .none kV_Scene____init__ dc_Scene____init__ pm_Scene____init__ an_Scene____init__ cd_Scene____init__ ct_Scene____init__), sl_Scene____init__⟩)
    (c_Scene____init__ : PySem.W.codeIn K cd_Scene____init__ "Scene.__init__" = true)
    (k_Scene____init__ : PySem.W.keepIn K (.ref f_Scene____init__) = true)
    (a__law_test : PySem.W.nsIn K mainGlobals "_law_test" = some (some (.ref f__law_test)))
    (l__law_test : K.lookup f__law_test = some ⟨oc__law_test, od__law_test, .func (PySem.W.fnOf "_law_test" "_law_test" (defArgs s__law_test) (defBody s__law_test) (defScope s__law_test) .none kV__law_test dc__law_test pm__law_test an__law_test cd__law_test ct__law_test), sl__law_test⟩)
    (c__law_test : PySem.W.codeIn K cd__law_test "_law_test" = true)
    (k__law_test : PySem.W.keepIn K (.ref f__law_test) = true)
    (a__law_program : PySem.W.nsIn K mainGlobals "_law_program" = some (some (.ref f__law_program)))
    (l__law_program : K.lookup f__law_program = some ⟨oc__law_program, od__law_program, .func (PySem.W.fnOf "_law_program" "_law_program" (defArgs s__law_program) (defBody s__law_program) (defScope s__law_program) .none kV__law_program dc__law_program pm__law_program an__law_program cd__law_program ct__law_program), sl__law_program⟩)
    (c__law_program : PySem.W.codeIn K cd__law_program "_law_program" = true)
    (k__law_program : PySem.W.keepIn K (.ref f__law_program) = true)
    (a__law_same : PySem.W.nsIn K mainGlobals "_law_same" = some (some (.ref f__law_same)))
    (l__law_same : K.lookup f__law_same = some ⟨oc__law_same, od__law_same, .func (PySem.W.fnOf "_law_same" "_law_same" (defArgs s__law_same) (defBody s__law_same) (defScope s__law_same) .none kV__law_same dc__law_same pm__law_same an__law_same cd__law_same ct__law_same), sl__law_same⟩)
    (c__law_same : PySem.W.codeIn K cd__law_same "_law_same" = true)
    (k__law_same : PySem.W.keepIn K (.ref f__law_same) = true)
    (a_is_test : PySem.W.nsIn K mainGlobals "is_test" = some (some (.ref f_is_test)))
    (l_is_test : K.lookup f_is_test = some ⟨oc_is_test, od_is_test, .func (PySem.W.fnOf "is_test" "is_test" (defArgs s_is_test) (defBody s_is_test) (defScope s_is_test) (.ref T_is_test) kV_is_test dc_is_test pm_is_test an_is_test cd_is_test ct_is_test), sl_is_test⟩)
    (c_is_test : PySem.W.codeIn K cd_is_test "is_test" = true)
    (k_is_test : PySem.W.keepIn K (.ref f_is_test) = true)
    (t_is_test : K.lookup T_is_test = some ⟨.type "tuple", td_is_test, .seq #[.int 40 tk_is_test_0] tn_is_test, ts_is_test⟩)
    (a_is_program : PySem.W.nsIn K mainGlobals "is_program" = some (some (.ref f_is_program)))
    (l_is_program : K.lookup f_is_program = some ⟨oc_is_program, od_is_program, .func (PySem.W.fnOf "is_program" "is_program" (defArgs s_is_program) (defBody s_is_program) (defScope s_is_program) (.ref T_is_program) kV_is_program dc_is_program pm_is_program an_is_program cd_is_program ct_is_program), sl_is_program⟩)
    (c_is_program : PySem.W.codeIn K cd_is_program "is_program" = true)
    (k_is_program : PySem.W.keepIn K (.ref f_is_program) = true)
    (t_is_program : K.lookup T_is_program = some ⟨.type "tuple", td_is_program, .seq #[.int 60 tk_is_program_0] tn_is_program, ts_is_program⟩)
    (a_key_of : PySem.W.nsIn K mainGlobals "key_of" = some (some (.ref f_key_of)))
    (l_key_of : K.lookup f_key_of = some ⟨oc_key_of, od_key_of, .func (PySem.W.fnOf "key_of" "key_of" (defArgs s_key_of) (defBody s_key_of) (defScope s_key_of) .none kV_key_of dc_key_of pm_key_of an_key_of cd_key_of ct_key_of), sl_key_of⟩)
    (c_key_of : PySem.W.codeIn K cd_key_of "key_of" = true)
    (k_key_of : PySem.W.keepIn K (.ref f_key_of) = true)
    (a_parts_of : PySem.W.nsIn K mainGlobals "parts_of" = some (some (.ref f_parts_of)))
    (l_parts_of : K.lookup f_parts_of = some ⟨oc_parts_of, od_parts_of, .func (PySem.W.fnOf "parts_of" "parts_of" (defArgs s_parts_of) (defBody s_parts_of) (defScope s_parts_of) .none kV_parts_of dc_parts_of pm_parts_of an_parts_of cd_parts_of ct_parts_of), sl_parts_of⟩)
    (c_parts_of : PySem.W.codeIn K cd_parts_of "parts_of" = true)
    (k_parts_of : PySem.W.keepIn K (.ref f_parts_of) = true)
    (a_within : PySem.W.nsIn K mainGlobals "within" = some (some (.ref f_within)))
    (l_within : K.lookup f_within = some ⟨oc_within, od_within, .func (PySem.W.fnOf "within" "within" (defArgs s_within) (defBody s_within) (defScope s_within) .none kV_within dc_within pm_within an_within cd_within ct_within), sl_within⟩)
    (c_within : PySem.W.codeIn K cd_within "within" = true)
    (k_within : PySem.W.keepIn K (.ref f_within) = true)
    (a_steps_in : PySem.W.nsIn K mainGlobals "steps_in" = some (some (.ref f_steps_in)))
    (l_steps_in : K.lookup f_steps_in = some ⟨oc_steps_in, od_steps_in, .func (PySem.W.fnOf "steps_in" "steps_in" (defArgs s_steps_in) (defBody s_steps_in) (defScope s_steps_in) .none kV_steps_in dc_steps_in pm_steps_in an_steps_in cd_steps_in ct_steps_in), sl_steps_in⟩)
    (c_steps_in : PySem.W.codeIn K cd_steps_in "steps_in" = true)
    (k_steps_in : PySem.W.keepIn K (.ref f_steps_in) = true)
    (a_names_in : PySem.W.nsIn K mainGlobals "names_in" = some (some (.ref f_names_in)))
    (l_names_in : K.lookup f_names_in = some ⟨oc_names_in, od_names_in, .func (PySem.W.fnOf "names_in" "names_in" (defArgs s_names_in) (defBody s_names_in) (defScope s_names_in) .none kV_names_in dc_names_in pm_names_in an_names_in cd_names_in ct_names_in), sl_names_in⟩)
    (c_names_in : PySem.W.codeIn K cd_names_in "names_in" = true)
    (k_names_in : PySem.W.keepIn K (.ref f_names_in) = true)
    (a_tests_in : PySem.W.nsIn K mainGlobals "tests_in" = some (some (.ref f_tests_in)))
    (l_tests_in : K.lookup f_tests_in = some ⟨oc_tests_in, od_tests_in, .func (PySem.W.fnOf "tests_in" "tests_in" (defArgs s_tests_in) (defBody s_tests_in) (defScope s_tests_in) .none kV_tests_in dc_tests_in pm_tests_in an_tests_in cd_tests_in ct_tests_in), sl_tests_in⟩)
    (c_tests_in : PySem.W.codeIn K cd_tests_in "tests_in" = true)
    (k_tests_in : PySem.W.keepIn K (.ref f_tests_in) = true)
    (a_fits : PySem.W.nsIn K mainGlobals "fits" = some (some (.ref f_fits)))
    (l_fits : K.lookup f_fits = some ⟨oc_fits, od_fits, .func (PySem.W.fnOf "fits" "fits" (defArgs s_fits) (defBody s_fits) (defScope s_fits) .none kV_fits dc_fits pm_fits an_fits cd_fits ct_fits), sl_fits⟩)
    (c_fits : PySem.W.codeIn K cd_fits "fits" = true)
    (k_fits : PySem.W.keepIn K (.ref f_fits) = true)
    (a_look_at : PySem.W.nsIn K mainGlobals "look_at" = some (some (.ref f_look_at)))
    (l_look_at : K.lookup f_look_at = some ⟨oc_look_at, od_look_at, .func (PySem.W.fnOf "look_at" "look_at" (defArgs s_look_at) (defBody s_look_at) (defScope s_look_at) .none kV_look_at dc_look_at pm_look_at an_look_at cd_look_at ct_look_at), sl_look_at⟩)
    (c_look_at : PySem.W.codeIn K cd_look_at "look_at" = true)
    (k_look_at : PySem.W.keepIn K (.ref f_look_at) = true)
    (a_distinct : PySem.W.nsIn K mainGlobals "distinct" = some (some (.ref f_distinct)))
    (l_distinct : K.lookup f_distinct = some ⟨oc_distinct, od_distinct, .func (PySem.W.fnOf "distinct" "distinct" (defArgs s_distinct) (defBody s_distinct) (defScope s_distinct) .none kV_distinct dc_distinct pm_distinct an_distinct cd_distinct ct_distinct), sl_distinct⟩)
    (c_distinct : PySem.W.codeIn K cd_distinct "distinct" = true)
    (k_distinct : PySem.W.keepIn K (.ref f_distinct) = true)
    (a_then : PySem.W.nsIn K mainGlobals "then" = some (some (.ref f_then)))
    (l_then : K.lookup f_then = some ⟨oc_then, od_then, .func (PySem.W.fnOf "then" "then" (defArgs s_then) (defBody s_then) (defScope s_then) .none kV_then dc_then pm_then an_then cd_then ct_then), sl_then⟩)
    (c_then : PySem.W.codeIn K cd_then "then" = true)
    (k_then : PySem.W.keepIn K (.ref f_then) = true)
    (a_behind : PySem.W.nsIn K mainGlobals "behind" = some (some (.ref f_behind)))
    (l_behind : K.lookup f_behind = some ⟨oc_behind, od_behind, .func (PySem.W.fnOf "behind" "behind" (defArgs s_behind) (defBody s_behind) (defScope s_behind) .none kV_behind dc_behind pm_behind an_behind cd_behind ct_behind), sl_behind⟩)
    (c_behind : PySem.W.codeIn K cd_behind "behind" = true)
    (k_behind : PySem.W.keepIn K (.ref f_behind) = true)
    (a_has : PySem.W.nsIn K mainGlobals "has" = some (some (.ref f_has)))
    (l_has : K.lookup f_has = some ⟨oc_has, od_has, .func (PySem.W.fnOf "has" "has" (defArgs s_has) (defBody s_has) (defScope s_has) .none kV_has dc_has pm_has an_has cd_has ct_has), sl_has⟩)
    (c_has : PySem.W.codeIn K cd_has "has" = true)
    (k_has : PySem.W.keepIn K (.ref f_has) = true)
    (a_holds : PySem.W.nsIn K mainGlobals "holds" = some (some (.ref f_holds)))
    (l_holds : K.lookup f_holds = some ⟨oc_holds, od_holds, .func (PySem.W.fnOf "holds" "holds" (defArgs s_holds) (defBody s_holds) (defScope s_holds) .none kV_holds dc_holds pm_holds an_holds cd_holds ct_holds), sl_holds⟩)
    (c_holds : PySem.W.codeIn K cd_holds "holds" = true)
    (k_holds : PySem.W.keepIn K (.ref f_holds) = true)
    (a_may_end : PySem.W.nsIn K mainGlobals "may_end" = some (some (.ref f_may_end)))
    (l_may_end : K.lookup f_may_end = some ⟨oc_may_end, od_may_end, .func (PySem.W.fnOf "may_end" "may_end" (defArgs s_may_end) (defBody s_may_end) (defScope s_may_end) .none kV_may_end dc_may_end pm_may_end an_may_end cd_may_end ct_may_end), sl_may_end⟩)
    (c_may_end : PySem.W.codeIn K cd_may_end "may_end" = true)
    (k_may_end : PySem.W.keepIn K (.ref f_may_end) = true)
    (a_rests : PySem.W.nsIn K mainGlobals "rests" = some (some (.ref f_rests)))
    (l_rests : K.lookup f_rests = some ⟨oc_rests, od_rests, .func (PySem.W.fnOf "rests" "rests" (defArgs s_rests) (defBody s_rests) (defScope s_rests) .none kV_rests dc_rests pm_rests an_rests cd_rests ct_rests), sl_rests⟩)
    (c_rests : PySem.W.codeIn K cd_rests "rests" = true)
    (k_rests : PySem.W.keepIn K (.ref f_rests) = true)
    (a_all_left : PySem.W.nsIn K mainGlobals "all_left" = some (some (.ref f_all_left)))
    (l_all_left : K.lookup f_all_left = some ⟨oc_all_left, od_all_left, .func (PySem.W.fnOf "all_left" "all_left" (defArgs s_all_left) (defBody s_all_left) (defScope s_all_left) .none kV_all_left dc_all_left pm_all_left an_all_left cd_all_left ct_all_left), sl_all_left⟩)
    (c_all_left : PySem.W.codeIn K cd_all_left "all_left" = true)
    (k_all_left : PySem.W.keepIn K (.ref f_all_left) = true)
    (a__law_then : PySem.W.nsIn K mainGlobals "_law_then" = some (some (.ref f__law_then)))
    (l__law_then : K.lookup f__law_then = some ⟨oc__law_then, od__law_then, .func (PySem.W.fnOf "_law_then" "_law_then" (defArgs s__law_then) (defBody s__law_then) (defScope s__law_then) .none kV__law_then dc__law_then pm__law_then an__law_then cd__law_then ct__law_then), sl__law_then⟩)
    (c__law_then : PySem.W.codeIn K cd__law_then "_law_then" = true)
    (k__law_then : PySem.W.keepIn K (.ref f__law_then) = true)
    (a__law_holds : PySem.W.nsIn K mainGlobals "_law_holds" = some (some (.ref f__law_holds)))
    (l__law_holds : K.lookup f__law_holds = some ⟨oc__law_holds, od__law_holds, .func (PySem.W.fnOf "_law_holds" "_law_holds" (defArgs s__law_holds) (defBody s__law_holds) (defScope s__law_holds) .none kV__law_holds dc__law_holds pm__law_holds an__law_holds cd__law_holds ct__law_holds), sl__law_holds⟩)
    (c__law_holds : PySem.W.codeIn K cd__law_holds "_law_holds" = true)
    (k__law_holds : PySem.W.keepIn K (.ref f__law_holds) = true)
    (a__law_ends : PySem.W.nsIn K mainGlobals "_law_ends" = some (some (.ref f__law_ends)))
    (l__law_ends : K.lookup f__law_ends = some ⟨oc__law_ends, od__law_ends, .func (PySem.W.fnOf "_law_ends" "_law_ends" (defArgs s__law_ends) (defBody s__law_ends) (defScope s__law_ends) .none kV__law_ends dc__law_ends pm__law_ends an__law_ends cd__law_ends ct__law_ends), sl__law_ends⟩)
    (c__law_ends : PySem.W.codeIn K cd__law_ends "_law_ends" = true)
    (k__law_ends : PySem.W.keepIn K (.ref f__law_ends) = true)
    (a__law_different : PySem.W.nsIn K mainGlobals "_law_different" = some (some (.ref f__law_different)))
    (l__law_different : K.lookup f__law_different = some ⟨oc__law_different, od__law_different, .func (PySem.W.fnOf "_law_different" "_law_different" (defArgs s__law_different) (defBody s__law_different) (defScope s__law_different) .none kV__law_different dc__law_different pm__law_different an__law_different cd__law_different ct__law_different), sl__law_different⟩)
    (c__law_different : PySem.W.codeIn K cd__law_different "_law_different" = true)
    (k__law_different : PySem.W.keepIn K (.ref f__law_different) = true)
    (a_left_behind : PySem.W.nsIn K mainGlobals "left_behind" = some (some (.ref f_left_behind)))
    (l_left_behind : K.lookup f_left_behind = some ⟨oc_left_behind, od_left_behind, .func (PySem.W.fnOf "left_behind" "left_behind" (defArgs s_left_behind) (defBody s_left_behind) (defScope s_left_behind) .none kV_left_behind dc_left_behind pm_left_behind an_left_behind cd_left_behind ct_left_behind), sl_left_behind⟩)
    (c_left_behind : PySem.W.codeIn K cd_left_behind "left_behind" = true)
    (k_left_behind : PySem.W.keepIn K (.ref f_left_behind) = true)
    (a__law_left : PySem.W.nsIn K mainGlobals "_law_left" = some (some (.ref f__law_left)))
    (l__law_left : K.lookup f__law_left = some ⟨oc__law_left, od__law_left, .func (PySem.W.fnOf "_law_left" "_law_left" (defArgs s__law_left) (defBody s__law_left) (defScope s__law_left) .none kV__law_left dc__law_left pm__law_left an__law_left cd__law_left ct__law_left), sl__law_left⟩)
    (c__law_left : PySem.W.codeIn K cd__law_left "_law_left" = true)
    (k__law_left : PySem.W.keepIn K (.ref f__law_left) = true)
    (a_law : PySem.W.nsIn K mainGlobals "law" = some (some (.ref f_law)))
    (l_law : K.lookup f_law = some ⟨oc_law, od_law, .func (PySem.W.fnOf "law" "law" (defArgs s_law) (defBody s_law) (defScope s_law) .none kV_law dc_law pm_law an_law cd_law ct_law), sl_law⟩)
    (c_law : PySem.W.codeIn K cd_law "law" = true)
    (k_law : PySem.W.keepIn K (.ref f_law) = true)
    (z_ValueError : PySem.W.nsIn K mainGlobals "ValueError" = some none)
    (z_all : PySem.W.nsIn K mainGlobals "all" = some none)
    (z_bool : PySem.W.nsIn K mainGlobals "bool" = some none)
    (z_int : PySem.W.nsIn K mainGlobals "int" = some none)
    (z_isinstance : PySem.W.nsIn K mainGlobals "isinstance" = some none)
    (z_len : PySem.W.nsIn K mainGlobals "len" = some none)
    (z_list : PySem.W.nsIn K mainGlobals "list" = some none)
    (z_range : PySem.W.nsIn K mainGlobals "range" = some none)
    (z_repr : PySem.W.nsIn K mainGlobals "repr" = some none)
    (z_sorted : PySem.W.nsIn K mainGlobals "sorted" = some none)
    (z_str : PySem.W.nsIn K mainGlobals "str" = some none)
    (z_tuple : PySem.W.nsIn K mainGlobals "tuple" = some none)
    (g_FAIL : PySem.W.nsIn K mainGlobals "FAIL" = some (some (.ref ga_FAIL)))
    (h_FAIL : K.lookup ga_FAIL = some ⟨.type "tuple", none, .seq #[.str "test" gt_FAIL_0, .ref ga_FAIL_1] gn_FAIL, gs_FAIL⟩)
    (h_FAIL_1 : K.lookup ga_FAIL_1 = some ⟨.type "tuple", none, .seq #[.str "no" gt_FAIL_2] gn_FAIL_1, gs_FAIL_1⟩)
    (g_LETTERS : PySem.W.nsIn K mainGlobals "LETTERS" = some (some (.str "abcdefghijklmnopqrstuvwxyz" gt_LETTERS)))
    (g_MOST_NAMES : PySem.W.nsIn K mainGlobals "MOST_NAMES" = some (some (.int 5 gt_MOST_NAMES)))
    (g_MOST_STEPS : PySem.W.nsIn K mainGlobals "MOST_STEPS" = some (some (.int 6 gt_MOST_STEPS)))
    (g_SKIP : PySem.W.nsIn K mainGlobals "SKIP" = some (some (.ref ga_SKIP)))
    (h_SKIP : K.lookup ga_SKIP = some ⟨.type "tuple", none, .seq #[.str "test" gt_SKIP_0, .ref ga_SKIP_1] gn_SKIP, gs_SKIP⟩)
    (h_SKIP_1 : K.lookup ga_SKIP_1 = some ⟨.type "tuple", none, .seq #[.str "yes" gt_SKIP_2] gn_SKIP_1, gs_SKIP_1⟩)
    (x_BadProgram : PySem.W.nsIn K mainGlobals "BadProgram" = some (some (.ref X_BadProgram)))
    (xq_BadProgram : PySem.W.excIn K X_BadProgram [.type "ValueError", .type "Exception", .type "BaseException", .type "object"] "ValueError.__new__" = true)
    (xk_BadProgram : PySem.W.keepIn K (.ref X_BadProgram) = true)
    (xs_BadProgram : PySem.W.subIn K (.ref X_BadProgram) (.type "BaseException") = some true)
    (xt_BadProgram : PySem.W.typeIn K (.ref X_BadProgram) = some (.type "type"))
    (xm_BadProgram : PySem.W.exmOne K (.ref X_BadProgram) (.ref X_BadProgram) = some true)
    (x1_BadProgram : PySem.W.findIn K (.ref X_BadProgram) "__getattribute__" = some (some (.builtin "BaseException.__getattribute__")))
    (x2_BadProgram : PySem.W.findIn K (.ref X_BadProgram) "__getattr__" = some none)
    (x3_BadProgram : PySem.W.hasDictIn K X_BadProgram = true)
    (x4_BadProgram : PySem.W.findIn K (.ref X_BadProgram) "__class__" = some (some (.builtin "object.__class__")))
    (x5_BadProgram : PySem.W.specialIn K (.builtin "object.__class__") "__get__" = some (some (.builtin "getset_descriptor.__get__")))
    (x6_BadProgram : PySem.W.takesIn K (.builtin "object.__class__") = some true)
    (x7_BadProgram : PySem.W.mroIn K X_BadProgram (.type "object") = some true)
    (x8_BadProgram : PySem.W.kitOne K (.ref X_BadProgram) (.type "ValueError") = some true)
    : ∃ fd : FuncData, (∀ (s : Shared) (v : Value), BindsTo s fd ⟨[v], []⟩ [("script", v)]) ∧ ∀ base : Heap, K.In base → base.Ns mainGlobals mg → FnG P w K mg base (L2.CX P w) 195 fa fd ["script"] (spLaw K) := by
  have e := hfa.symm.trans (PySem.W.mg_of X G a_law)
  obtain rfl : f_law = fa := by cases e; rfl
  refine ⟨PySem.W.fnOf "law" "law" (defArgs s_law) (defBody s_law) (defScope s_law) .none kV_law dc_law pm_law an_law cd_law ct_law, fun s v => .of_eq rfl, fun base _ _ => ?_⟩
  have T : Top K mg X_BadProgram := ⟨PySem.W.mg_none_of X G z_ValueError, PySem.W.mg_none_of X G z_all, PySem.W.mg_none_of X G z_bool, PySem.W.mg_none_of X G z_int, PySem.W.mg_none_of X G z_isinstance, PySem.W.mg_none_of X G z_len, PySem.W.mg_none_of X G z_list, PySem.W.mg_none_of X G z_range, PySem.W.mg_none_of X G z_repr, PySem.W.mg_none_of X G z_sorted, PySem.W.mg_none_of X G z_str, PySem.W.mg_none_of X G z_tuple, gc_tup (vs := [.str "test", .ref ga_FAIL_1]) (xs := [.str "test", .tup [.str "no"]]) (PySem.W.mg_of X G g_FAIL) h_FAIL (by show 2 ≤ sizeLine; decide) (.cons ⟨_, rfl⟩ (.cons rfl .nil)) (fun _ => (.cons (.str _ (by decide +kernel)) (.cons (rk_tup (vs := [.str "no"]) (xs := [.str "no"]) h_FAIL_1 (by show 1 ≤ sizeLine; decide) (.cons ⟨_, rfl⟩ .nil) (fun _ => (.cons (.str _ (by decide +kernel)) .nil)) _) .nil))), ⟨_, .str "abcdefghijklmnopqrstuvwxyz", PySem.W.mg_of X G g_LETTERS, ⟨_, rfl⟩, fun _ => .str _ (by decide +kernel)⟩, ⟨_, .int 5, PySem.W.mg_of X G g_MOST_NAMES, ⟨_, rfl⟩, fun _ => .int _⟩, ⟨_, .int 6, PySem.W.mg_of X G g_MOST_STEPS, ⟨_, rfl⟩, fun _ => .int _⟩, gc_tup (vs := [.str "test", .ref ga_SKIP_1]) (xs := [.str "test", .tup [.str "yes"]]) (PySem.W.mg_of X G g_SKIP) h_SKIP (by show 2 ≤ sizeLine; decide) (.cons ⟨_, rfl⟩ (.cons rfl .nil)) (fun _ => (.cons (.str _ (by decide +kernel)) (.cons (rk_tup (vs := [.str "yes"]) (xs := [.str "yes"]) h_SKIP_1 (by show 1 ≤ sizeLine; decide) (.cons ⟨_, rfl⟩ .nil) (fun _ => (.cons (.str _ (by decide +kernel)) .nil)) _) .nil))), ⟨xq_BadProgram, PySem.W.mg_of X G x_BadProgram, xk_BadProgram, xs_BadProgram, xt_BadProgram, xm_BadProgram, ⟨x1_BadProgram, x2_BadProgram, xs_BadProgram, x3_BadProgram, x4_BadProgram, x5_BadProgram, x6_BadProgram, x7_BadProgram⟩, x8_BadProgram⟩, (cls_cons (clsF_all (PySem.W.mg_of X G ca_Scene) ⟨cg_Scene, cd_Scene, co_Scene, cs_Scene⟩ cn_Scene_atoms) cls_nil), (cls_cons (clsF_all (PySem.W.mg_of X G ca_Scene) ⟨cg_Scene, cd_Scene, co_Scene, cs_Scene⟩ cn_Scene_names) cls_nil), (cls_cons (clsF_all (PySem.W.mg_of X G ca_Scene) ⟨cg_Scene, cd_Scene, co_Scene, cs_Scene⟩ cn_Scene_steps) cls_nil)⟩
  have FD__law_draws : FunD K "_law_draws" "_law_draws" (defArgs s__law_draws) (defBody s__law_draws) (defScope s__law_draws) [] [] f__law_draws _ := ⟨⟨_, _, _, _, _, _, _, _, _, _, rfl, l__law_draws, c__law_draws, .inl ⟨rfl, rfl⟩, .inl rfl⟩, k__law_draws⟩
  have B__law_draws : Binds K _ P__law_draws [] := .all (fd := PySem.W.fnOf "_law_draws" "_law_draws" (defArgs s__law_draws) (defBody s__law_draws) (defScope s__law_draws) .none kV__law_draws dc__law_draws pm__law_draws an__law_draws cd__law_draws ct__law_draws) fun us hl => match us, hl with | [_], _ => rfl
  have O__law_draws : FnG P w K mg base (L2.CX P w) 1 f__law_draws _ P__law_draws (SpO ⟨K, mg⟩ P__law_draws.length F__law_draws) := (show FnG P w K mg base (L2.CX P w) (0 + 1) f__law_draws _ P__law_draws _ from fnO FD__law_draws sc__law_draws fun cdv A outer s H E hr tk => b__law_draws T  f__law_draws cdv A outer s H E hr tk)
  have D__law_draws : DefOK P w K mg base "_law_draws" P__law_draws 1 F__law_draws := ⟨f__law_draws, _, PySem.W.mg_of X G a__law_draws, k__law_draws, B__law_draws, O__law_draws⟩
  have FD__law_draw : FunD K "_law_draw" "_law_draw" (defArgs s__law_draw) (defBody s__law_draw) (defScope s__law_draw) [] [] f__law_draw _ := ⟨⟨_, _, _, _, _, _, _, _, _, _, rfl, l__law_draw, c__law_draw, .inl ⟨rfl, rfl⟩, .inl rfl⟩, k__law_draw⟩
  have B__law_draw : Binds K _ P__law_draw [] := .all (fd := PySem.W.fnOf "_law_draw" "_law_draw" (defArgs s__law_draw) (defBody s__law_draw) (defScope s__law_draw) .none kV__law_draw dc__law_draw pm__law_draw an__law_draw cd__law_draw ct__law_draw) fun us hl => match us, hl with | [_, _], _ => rfl
  have O__law_draw : FnG P w K mg base (L2.CX P w) 1 f__law_draw _ P__law_draw (SpM ⟨K, mg⟩ P__law_draw.length F__law_draw) := (show FnG P w K mg base (L2.CX P w) (0 + 1) f__law_draw _ P__law_draw _ from fnM FD__law_draw sc__law_draw fun cdv A outer s H E hr tk => b__law_draw T  f__law_draw cdv A outer s H E hr tk)
  have D__law_draw : DefMK P w K mg base "_law_draw" P__law_draw 1 F__law_draw := ⟨f__law_draw, _, PySem.W.mg_of X G a__law_draw, k__law_draw, B__law_draw, O__law_draw⟩
  have FD__law_scene : FunD K "_law_scene" "_law_scene" (defArgs s__law_scene) (defBody s__law_scene) (defScope s__law_scene) [] [] f__law_scene _ := ⟨⟨_, _, _, _, _, _, _, _, _, _, rfl, l__law_scene, c__law_scene, .inl ⟨rfl, rfl⟩, .inl rfl⟩, k__law_scene⟩
  have B__law_scene : Binds K _ P__law_scene [] := .all (fd := PySem.W.fnOf "_law_scene" "_law_scene" (defArgs s__law_scene) (defBody s__law_scene) (defScope s__law_scene) .none kV__law_scene dc__law_scene pm__law_scene an__law_scene cd__law_scene ct__law_scene) fun us hl => match us, hl with | [_], _ => rfl
  have O__law_scene : FnG P w K mg base (L2.CX P w) 2 f__law_scene _ P__law_scene (SpM ⟨K, mg⟩ P__law_scene.length F__law_scene) := (show FnG P w K mg base (L2.CX P w) (1 + 1) f__law_scene _ P__law_scene _ from fnM FD__law_scene sc__law_scene fun cdv A outer s H E hr tk => b__law_scene T (defMK_mono D__law_draw (by omega)) f__law_scene cdv A outer s H E hr tk)
  have D__law_scene : DefMK P w K mg base "_law_scene" P__law_scene 2 F__law_scene := ⟨f__law_scene, _, PySem.W.mg_of X G a__law_scene, k__law_scene, B__law_scene, O__law_scene⟩
  have FD_is_name : FunD K "is_name" "is_name" (defArgs s_is_name) (defBody s_is_name) (defScope s_is_name) [] [] f_is_name _ := ⟨⟨_, _, _, _, _, _, _, _, _, _, rfl, l_is_name, c_is_name, .inl ⟨rfl, rfl⟩, .inl rfl⟩, k_is_name⟩
  have B_is_name : Binds K _ P_is_name [] := .all (fd := PySem.W.fnOf "is_name" "is_name" (defArgs s_is_name) (defBody s_is_name) (defScope s_is_name) .none kV_is_name dc_is_name pm_is_name an_is_name cd_is_name ct_is_name) fun us hl => match us, hl with | [_], _ => rfl
  have O_is_name : FnG P w K mg base (L2.CX P w) 1 f_is_name _ P_is_name (SpP ⟨K, mg⟩ P_is_name.length F_is_name) := (show FnG P w K mg base (L2.CX P w) (0 + 1) f_is_name _ P_is_name _ from fnP FD_is_name sc_is_name fun cdv A outer s H E hr tk => b_is_name T  f_is_name cdv A outer s H E hr tk)
  have D_is_name : DefK P w K mg base "is_name" P_is_name [] 1 F_is_name := ⟨f_is_name, _, _, _, PySem.W.mg_of X G a_is_name, k_is_name, B_is_name, .nil, fun _ =>  .nil, O_is_name⟩
  have FD_is_names : FunD K "is_names" "is_names" (defArgs s_is_names) (defBody s_is_names) (defScope s_is_names) [] [] f_is_names _ := ⟨⟨_, _, _, _, _, _, _, _, _, _, rfl, l_is_names, c_is_names, .inl ⟨rfl, rfl⟩, .inl rfl⟩, k_is_names⟩
  have B_is_names : Binds K _ P_is_names [] := .all (fd := PySem.W.fnOf "is_names" "is_names" (defArgs s_is_names) (defBody s_is_names) (defScope s_is_names) .none kV_is_names dc_is_names pm_is_names an_is_names cd_is_names ct_is_names) fun us hl => match us, hl with | [_, _], _ => rfl
  have O_is_names : FnG P w K mg base (L2.CX P w) 2 f_is_names _ P_is_names (SpP ⟨K, mg⟩ P_is_names.length F_is_names) := (show FnG P w K mg base (L2.CX P w) (1 + 1) f_is_names _ P_is_names _ from fnP FD_is_names sc_is_names fun cdv A outer s H E hr tk => b_is_names T (defK_mono D_is_name (by omega)) f_is_names cdv A outer s H E hr tk)
  have D_is_names : DefK P w K mg base "is_names" P_is_names [] 2 F_is_names := ⟨f_is_names, _, _, _, PySem.W.mg_of X G a_is_names, k_is_names, B_is_names, .nil, fun _ =>  .nil, O_is_names⟩
  have FD_Scene____init__ : FunD K "__init__" "Scene.__init__" (defArgs s_Scene____init__) (defBody s_Scene____init__) (defScope s_Scene____init__) [] [] f_Scene____init__ _ := ⟨⟨_, _, _, _, _, _, _, _, _, _, rfl, l_Scene____init__, c_Scene____init__, .inl ⟨rfl, rfl⟩, .inl rfl⟩, k_Scene____init__⟩
  have B_Scene____init__ : Binds K _ P_Scene____init__ [] := .all (fd := PySem.W.fnOf "__init__" "Scene.__init__" (defArgs s_Scene____init__) (defBody s_Scene____init__) (defScope s_Scene____init__) .none kV_Scene____init__ dc_Scene____init__ pm_Scene____init__ an_Scene____init__ cd_Scene____init__ ct_Scene____init__) fun us hl => match us, hl with | [_, _, _], _ => rfl
  have O_Scene____init__ : FnG P w K mg base (L2.CX P w) 3 f_Scene____init__ _ P_Scene____init__ (SpI ⟨K, mg⟩ "Scene" P_Scene____init__.length F_Scene____init__) := (show FnG P w K mg base (L2.CX P w) (2 + 1) f_Scene____init__ _ P_Scene____init__ _ from fnI FD_Scene____init__ sc_Scene____init__ fun cdv A outer s H E hr tk => b_Scene____init__ T (defK_mono D_is_names (by omega)) f_Scene____init__ cdv A outer s H E hr tk)
  have D_Scene____init__ : DefIK P w K mg base "Scene" P_Scene____init__ 4 F_Scene____init__ := ⟨3, Nat.le_refl _, X_Scene, f_Scene____init__, _, PySem.W.mg_of X G ca_Scene, ⟨cm_Scene, a_Scene____init__, ai_Scene____init__, ck_Scene⟩, B_Scene____init__, O_Scene____init__⟩
  have FD__law_test : FunD K "_law_test" "_law_test" (defArgs s__law_test) (defBody s__law_test) (defScope s__law_test) [] [] f__law_test _ := ⟨⟨_, _, _, _, _, _, _, _, _, _, rfl, l__law_test, c__law_test, .inl ⟨rfl, rfl⟩, .inl rfl⟩, k__law_test⟩
  have B__law_test : Binds K _ P__law_test [] := .all (fd := PySem.W.fnOf "_law_test" "_law_test" (defArgs s__law_test) (defBody s__law_test) (defScope s__law_test) .none kV__law_test dc__law_test pm__law_test an__law_test cd__law_test ct__law_test) fun us hl => match us, hl with | [_, _, _], _ => rfl
  have O__law_test : ∀ m : Nat, FnG P w K mg base (L2.CX P w) (1 + m) f__law_test _ P__law_test (SpM ⟨K, mg⟩ P__law_test.length (F__law_test m)) := fun m => by
    induction m with
    | zero => exact fn_noneM
    | succ m ih => exact fnM FD__law_test sc__law_test fun cdv A outer s H E hr tk => b__law_test T (defMK_mono D__law_draw (by omega)) ⟨f__law_test, _, PySem.W.mg_of X G a__law_test, k__law_test, B__law_test, ih⟩ f__law_test cdv A outer s H E hr tk
  have D__law_test : DefMK P w K mg base "_law_test" P__law_test 65 (F__law_test 64) := ⟨f__law_test, _, PySem.W.mg_of X G a__law_test, k__law_test, B__law_test, O__law_test 64⟩
  have FD__law_program : FunD K "_law_program" "_law_program" (defArgs s__law_program) (defBody s__law_program) (defScope s__law_program) [] [] f__law_program _ := ⟨⟨_, _, _, _, _, _, _, _, _, _, rfl, l__law_program, c__law_program, .inl ⟨rfl, rfl⟩, .inl rfl⟩, k__law_program⟩
  have B__law_program : Binds K _ P__law_program [] := .all (fd := PySem.W.fnOf "_law_program" "_law_program" (defArgs s__law_program) (defBody s__law_program) (defScope s__law_program) .none kV__law_program dc__law_program pm__law_program an__law_program cd__law_program ct__law_program) fun us hl => match us, hl with | [_, _, _], _ => rfl
  have O__law_program : ∀ m : Nat, FnG P w K mg base (L2.CX P w) (65 + m) f__law_program _ P__law_program (SpM ⟨K, mg⟩ P__law_program.length (F__law_program m)) := fun m => by
    induction m with
    | zero => exact fn_noneM
    | succ m ih => exact fnM FD__law_program sc__law_program fun cdv A outer s H E hr tk => b__law_program T (defMK_mono D__law_draw (by omega)) ⟨f__law_program, _, PySem.W.mg_of X G a__law_program, k__law_program, B__law_program, ih⟩ (defMK_mono D__law_test (by omega)) f__law_program cdv A outer s H E hr tk
  have D__law_program : DefMK P w K mg base "_law_program" P__law_program 129 (F__law_program 64) := ⟨f__law_program, _, PySem.W.mg_of X G a__law_program, k__law_program, B__law_program, O__law_program 64⟩
  have FD__law_same : FunD K "_law_same" "_law_same" (defArgs s__law_same) (defBody s__law_same) (defScope s__law_same) [] [] f__law_same _ := ⟨⟨_, _, _, _, _, _, _, _, _, _, rfl, l__law_same, c__law_same, .inl ⟨rfl, rfl⟩, .inl rfl⟩, k__law_same⟩
  have B__law_same : Binds K _ P__law_same [] := .all (fd := PySem.W.fnOf "_law_same" "_law_same" (defArgs s__law_same) (defBody s__law_same) (defScope s__law_same) .none kV__law_same dc__law_same pm__law_same an__law_same cd__law_same ct__law_same) fun us hl => match us, hl with | [_, _], _ => rfl
  have O__law_same : ∀ m : Nat, FnG P w K mg base (L2.CX P w) (0 + m) f__law_same _ P__law_same (SpP ⟨K, mg⟩ P__law_same.length (F__law_same m)) := fun m => by
    induction m with
    | zero => exact fn_none
    | succ m ih => exact fnP FD__law_same sc__law_same fun cdv A outer s H E hr tk => b__law_same T ⟨f__law_same, _, _, _, PySem.W.mg_of X G a__law_same, k__law_same, B__law_same, .nil, (fun _ => .nil), ih⟩ f__law_same cdv A outer s H E hr tk
  have D__law_same : DefK P w K mg base "_law_same" P__law_same [] 64 (F__law_same 64) := ⟨f__law_same, _, _, _, PySem.W.mg_of X G a__law_same, k__law_same, B__law_same, .nil, fun _ =>  .nil, O__law_same 64⟩
  have FD_is_test : FunD K "is_test" "is_test" (defArgs s_is_test) (defBody s_is_test) (defScope s_is_test) [.int 40] [] f_is_test _ := ⟨⟨_, _, _, _, _, _, _, _, _, _, rfl, l_is_test, c_is_test, .inr ⟨by simp, T_is_test, _, [.int 40 tk_is_test_0], tn_is_test, rfl, t_is_test, rfl, (.cons ⟨_, rfl⟩ .nil)⟩, .inl rfl⟩, k_is_test⟩
  obtain ⟨ds_is_test_0, dr_is_test_0, B_is_test_0⟩ := FD_is_test.binds1 (ps := P_is_test) 2 1 (by simp) rfl fun _ _ _ _ _ _ _ us its h1 h2 => match us, its, h1, h2 with | [_, _], [_], _, _ => ⟨_, rfl, rfl⟩
  obtain ⟨ds_is_test_1, dr_is_test_1, B_is_test_1⟩ := FD_is_test.binds1 (ps := P_is_test) 1 0 (by simp) rfl fun _ _ _ _ _ _ _ us its h1 h2 => match us, its, h1, h2 with | [_], [_], _, _ => ⟨_, rfl, rfl⟩
  have O_is_test : ∀ m : Nat, FnG P w K mg base (L2.CX P w) (1 + m) f_is_test _ P_is_test (SpP ⟨K, mg⟩ P_is_test.length (F_is_test m)) := fun m => by
    induction m with
    | zero => exact fn_none
    | succ m ih => exact fnP FD_is_test sc_is_test fun cdv A outer s H E hr tk => b_is_test T (defK_mono D_is_name (by omega)) ⟨f_is_test, _, _, _, PySem.W.mg_of X G a_is_test, k_is_test, B_is_test_0, dr_is_test_0, (fun _ => .nil), ih⟩ f_is_test cdv A outer s H E hr tk
  have D_is_test_0 : DefK P w K mg base "is_test" P_is_test [] 65 (F_is_test 64) := ⟨f_is_test, _, _, _, PySem.W.mg_of X G a_is_test, k_is_test, B_is_test_0, dr_is_test_0, fun _ =>  .nil, O_is_test 64⟩
  have D_is_test_1 : DefK P w K mg base "is_test" P_is_test [.int 40] 65 (F_is_test 64) := ⟨f_is_test, _, _, _, PySem.W.mg_of X G a_is_test, k_is_test, B_is_test_1, dr_is_test_1, fun _ => (.cons (.int _) .nil), O_is_test 64⟩
  have FD_is_program : FunD K "is_program" "is_program" (defArgs s_is_program) (defBody s_is_program) (defScope s_is_program) [.int 60] [] f_is_program _ := ⟨⟨_, _, _, _, _, _, _, _, _, _, rfl, l_is_program, c_is_program, .inr ⟨by simp, T_is_program, _, [.int 60 tk_is_program_0], tn_is_program, rfl, t_is_program, rfl, (.cons ⟨_, rfl⟩ .nil)⟩, .inl rfl⟩, k_is_program⟩
  obtain ⟨ds_is_program_0, dr_is_program_0, B_is_program_0⟩ := FD_is_program.binds1 (ps := P_is_program) 2 1 (by simp) rfl fun _ _ _ _ _ _ _ us its h1 h2 => match us, its, h1, h2 with | [_, _], [_], _, _ => ⟨_, rfl, rfl⟩
  obtain ⟨ds_is_program_1, dr_is_program_1, B_is_program_1⟩ := FD_is_program.binds1 (ps := P_is_program) 1 0 (by simp) rfl fun _ _ _ _ _ _ _ us its h1 h2 => match us, its, h1, h2 with | [_], [_], _, _ => ⟨_, rfl, rfl⟩
  have O_is_program : ∀ m : Nat, FnG P w K mg base (L2.CX P w) (65 + m) f_is_program _ P_is_program (SpP ⟨K, mg⟩ P_is_program.length (F_is_program m)) := fun m => by
    induction m with
    | zero => exact fn_none
    | succ m ih => exact fnP FD_is_program sc_is_program fun cdv A outer s H E hr tk => b_is_program T (defK_mono D_is_name (by omega)) (defK_mono D_is_test_1 (by omega)) ⟨f_is_program, _, _, _, PySem.W.mg_of X G a_is_program, k_is_program, B_is_program_0, dr_is_program_0, (fun _ => .nil), ih⟩ f_is_program cdv A outer s H E hr tk
  have D_is_program_0 : DefK P w K mg base "is_program" P_is_program [] 129 (F_is_program 64) := ⟨f_is_program, _, _, _, PySem.W.mg_of X G a_is_program, k_is_program, B_is_program_0, dr_is_program_0, fun _ =>  .nil, O_is_program 64⟩
  have D_is_program_1 : DefK P w K mg base "is_program" P_is_program [.int 60] 129 (F_is_program 64) := ⟨f_is_program, _, _, _, PySem.W.mg_of X G a_is_program, k_is_program, B_is_program_1, dr_is_program_1, fun _ => (.cons (.int _) .nil), O_is_program 64⟩
  have FD_key_of : FunD K "key_of" "key_of" (defArgs s_key_of) (defBody s_key_of) (defScope s_key_of) [] [] f_key_of _ := ⟨⟨_, _, _, _, _, _, _, _, _, _, rfl, l_key_of, c_key_of, .inl ⟨rfl, rfl⟩, .inl rfl⟩, k_key_of⟩
  have B_key_of : Binds K _ P_key_of [] := .all (fd := PySem.W.fnOf "key_of" "key_of" (defArgs s_key_of) (defBody s_key_of) (defScope s_key_of) .none kV_key_of dc_key_of pm_key_of an_key_of cd_key_of ct_key_of) fun us hl => match us, hl with | [_], _ => rfl
  have O_key_of : FnG P w K mg base (L2.CX P w) 1 f_key_of _ P_key_of (SpP ⟨K, mg⟩ P_key_of.length F_key_of) := (show FnG P w K mg base (L2.CX P w) (0 + 1) f_key_of _ P_key_of _ from fnP FD_key_of sc_key_of fun cdv A outer s H E hr tk => b_key_of T  f_key_of cdv A outer s H E hr tk)
  have D_key_of : DefK P w K mg base "key_of" P_key_of [] 1 F_key_of := ⟨f_key_of, _, _, _, PySem.W.mg_of X G a_key_of, k_key_of, B_key_of, .nil, fun _ =>  .nil, O_key_of⟩
  have FD_parts_of : FunD K "parts_of" "parts_of" (defArgs s_parts_of) (defBody s_parts_of) (defScope s_parts_of) [] [] f_parts_of _ := ⟨⟨_, _, _, _, _, _, _, _, _, _, rfl, l_parts_of, c_parts_of, .inl ⟨rfl, rfl⟩, .inl rfl⟩, k_parts_of⟩
  have B_parts_of : Binds K _ P_parts_of [] := .all (fd := PySem.W.fnOf "parts_of" "parts_of" (defArgs s_parts_of) (defBody s_parts_of) (defScope s_parts_of) .none kV_parts_of dc_parts_of pm_parts_of an_parts_of cd_parts_of ct_parts_of) fun us hl => match us, hl with | [_], _ => rfl
  have O_parts_of : FnG P w K mg base (L2.CX P w) 1 f_parts_of _ P_parts_of (SpP ⟨K, mg⟩ P_parts_of.length F_parts_of) := (show FnG P w K mg base (L2.CX P w) (0 + 1) f_parts_of _ P_parts_of _ from fnP FD_parts_of sc_parts_of fun cdv A outer s H E hr tk => b_parts_of T  f_parts_of cdv A outer s H E hr tk)
  have D_parts_of : DefK P w K mg base "parts_of" P_parts_of [] 1 F_parts_of := ⟨f_parts_of, _, _, _, PySem.W.mg_of X G a_parts_of, k_parts_of, B_parts_of, .nil, fun _ =>  .nil, O_parts_of⟩
  have FD_within : FunD K "within" "within" (defArgs s_within) (defBody s_within) (defScope s_within) [] [] f_within _ := ⟨⟨_, _, _, _, _, _, _, _, _, _, rfl, l_within, c_within, .inl ⟨rfl, rfl⟩, .inl rfl⟩, k_within⟩
  have B_within : Binds K _ P_within [] := .all (fd := PySem.W.fnOf "within" "within" (defArgs s_within) (defBody s_within) (defScope s_within) .none kV_within dc_within pm_within an_within cd_within ct_within) fun us hl => match us, hl with | [_], _ => rfl
  have O_within : FnG P w K mg base (L2.CX P w) 2 f_within _ P_within (SpP ⟨K, mg⟩ P_within.length F_within) := (show FnG P w K mg base (L2.CX P w) (1 + 1) f_within _ P_within _ from fnP FD_within sc_within fun cdv A outer s H E hr tk => b_within T (defK_mono D_key_of (by omega)) (defK_mono D_parts_of (by omega)) f_within cdv A outer s H E hr tk)
  have D_within : DefK P w K mg base "within" P_within [] 2 F_within := ⟨f_within, _, _, _, PySem.W.mg_of X G a_within, k_within, B_within, .nil, fun _ =>  .nil, O_within⟩
  have FD_steps_in : FunD K "steps_in" "steps_in" (defArgs s_steps_in) (defBody s_steps_in) (defScope s_steps_in) [] [] f_steps_in _ := ⟨⟨_, _, _, _, _, _, _, _, _, _, rfl, l_steps_in, c_steps_in, .inl ⟨rfl, rfl⟩, .inl rfl⟩, k_steps_in⟩
  have B_steps_in : Binds K _ P_steps_in [] := .all (fd := PySem.W.fnOf "steps_in" "steps_in" (defArgs s_steps_in) (defBody s_steps_in) (defScope s_steps_in) .none kV_steps_in dc_steps_in pm_steps_in an_steps_in cd_steps_in ct_steps_in) fun us hl => match us, hl with | [_], _ => rfl
  have O_steps_in : FnG P w K mg base (L2.CX P w) 3 f_steps_in _ P_steps_in (SpP ⟨K, mg⟩ P_steps_in.length F_steps_in) := (show FnG P w K mg base (L2.CX P w) (2 + 1) f_steps_in _ P_steps_in _ from fnP FD_steps_in sc_steps_in fun cdv A outer s H E hr tk => b_steps_in T (defK_mono D_within (by omega)) f_steps_in cdv A outer s H E hr tk)
  have D_steps_in : DefK P w K mg base "steps_in" P_steps_in [] 3 F_steps_in := ⟨f_steps_in, _, _, _, PySem.W.mg_of X G a_steps_in, k_steps_in, B_steps_in, .nil, fun _ =>  .nil, O_steps_in⟩
  have FD_names_in : FunD K "names_in" "names_in" (defArgs s_names_in) (defBody s_names_in) (defScope s_names_in) [] [] f_names_in _ := ⟨⟨_, _, _, _, _, _, _, _, _, _, rfl, l_names_in, c_names_in, .inl ⟨rfl, rfl⟩, .inl rfl⟩, k_names_in⟩
  have B_names_in : Binds K _ P_names_in [] := .all (fd := PySem.W.fnOf "names_in" "names_in" (defArgs s_names_in) (defBody s_names_in) (defScope s_names_in) .none kV_names_in dc_names_in pm_names_in an_names_in cd_names_in ct_names_in) fun us hl => match us, hl with | [_], _ => rfl
  have O_names_in : ∀ m : Nat, FnG P w K mg base (L2.CX P w) (0 + m) f_names_in _ P_names_in (SpP ⟨K, mg⟩ P_names_in.length (F_names_in m)) := fun m => by
    induction m with
    | zero => exact fn_none
    | succ m ih => exact fnP FD_names_in sc_names_in fun cdv A outer s H E hr tk => b_names_in T ⟨f_names_in, _, _, _, PySem.W.mg_of X G a_names_in, k_names_in, B_names_in, .nil, (fun _ => .nil), ih⟩ f_names_in cdv A outer s H E hr tk
  have D_names_in : DefK P w K mg base "names_in" P_names_in [] 64 (F_names_in 64) := ⟨f_names_in, _, _, _, PySem.W.mg_of X G a_names_in, k_names_in, B_names_in, .nil, fun _ =>  .nil, O_names_in 64⟩
  have FD_tests_in : FunD K "tests_in" "tests_in" (defArgs s_tests_in) (defBody s_tests_in) (defScope s_tests_in) [] [] f_tests_in _ := ⟨⟨_, _, _, _, _, _, _, _, _, _, rfl, l_tests_in, c_tests_in, .inl ⟨rfl, rfl⟩, .inl rfl⟩, k_tests_in⟩
  have B_tests_in : Binds K _ P_tests_in [] := .all (fd := PySem.W.fnOf "tests_in" "tests_in" (defArgs s_tests_in) (defBody s_tests_in) (defScope s_tests_in) .none kV_tests_in dc_tests_in pm_tests_in an_tests_in cd_tests_in ct_tests_in) fun us hl => match us, hl with | [_], _ => rfl
  have O_tests_in : FnG P w K mg base (L2.CX P w) 65 f_tests_in _ P_tests_in (SpP ⟨K, mg⟩ P_tests_in.length F_tests_in) := (show FnG P w K mg base (L2.CX P w) (64 + 1) f_tests_in _ P_tests_in _ from fnP FD_tests_in sc_tests_in fun cdv A outer s H E hr tk => b_tests_in T (defK_mono D_within (by omega)) (defK_mono D_names_in (by omega)) f_tests_in cdv A outer s H E hr tk)
  have D_tests_in : DefK P w K mg base "tests_in" P_tests_in [] 65 F_tests_in := ⟨f_tests_in, _, _, _, PySem.W.mg_of X G a_tests_in, k_tests_in, B_tests_in, .nil, fun _ =>  .nil, O_tests_in⟩
  have FD_fits : FunD K "fits" "fits" (defArgs s_fits) (defBody s_fits) (defScope s_fits) [] [] f_fits _ := ⟨⟨_, _, _, _, _, _, _, _, _, _, rfl, l_fits, c_fits, .inl ⟨rfl, rfl⟩, .inl rfl⟩, k_fits⟩
  have B_fits : Binds K _ P_fits [] := .all (fd := PySem.W.fnOf "fits" "fits" (defArgs s_fits) (defBody s_fits) (defScope s_fits) .none kV_fits dc_fits pm_fits an_fits cd_fits ct_fits) fun us hl => match us, hl with | [_, _], _ => rfl
  have O_fits : FnG P w K mg base (L2.CX P w) 130 f_fits _ P_fits (SpP ⟨K, mg⟩ P_fits.length F_fits) := (show FnG P w K mg base (L2.CX P w) (129 + 1) f_fits _ P_fits _ from fnP FD_fits sc_fits fun cdv A outer s H E hr tk => b_fits T (defK_mono D_is_program_1 (by omega)) (defK_mono D_steps_in (by omega)) (defK_mono D_tests_in (by omega)) f_fits cdv A outer s H E hr tk)
  have D_fits : DefK P w K mg base "fits" P_fits [] 130 F_fits := ⟨f_fits, _, _, _, PySem.W.mg_of X G a_fits, k_fits, B_fits, .nil, fun _ =>  .nil, O_fits⟩
  have B_look_at : BindV (PySem.W.fnOf "look_at" "look_at" (defArgs s_look_at) (defBody s_look_at) (defScope s_look_at) .none kV_look_at dc_look_at pm_look_at an_look_at cd_look_at ct_look_at) P_look_at 1 4 := fun us h1 h2 => match us, h1, h2 with
    | [], h1, _ => absurd h1 (by decide)
    | [_], _, _ => rfl
    | [_, _], _, _ => rfl
    | [_, _, _], _, _ => rfl
    | [_, _, _, _], _, _ => rfl
    | [_, _, _, _, _], _, _ => rfl
    | _ :: _ :: _ :: _ :: _ :: _ :: r, _, h2 => absurd h2 (by simp only [List.length_cons]; omega)
  have FD_look_at : FunD K "look_at" "look_at" (defArgs s_look_at) (defBody s_look_at) (defScope s_look_at) [] [] f_look_at _ := ⟨⟨_, _, _, _, _, _, _, _, _, _, rfl, l_look_at, c_look_at, .inl ⟨rfl, rfl⟩, .inl rfl⟩, k_look_at⟩
  have D_look_at : DefVK P w K mg base "look_at" 1 4 131 F_look_at := ⟨f_look_at, PySem.W.mg_of X G a_look_at, k_look_at, (show FnGV P w K mg base (130 + 1) f_look_at _ from fnV FD_look_at sc_look_at rfl (by decide) B_look_at fun cdv A outer s H E hr tk => b_look_at T (defK_mono D_fits (by omega)) f_look_at cdv A outer s H E hr tk)⟩
  have FD_distinct : FunD K "distinct" "distinct" (defArgs s_distinct) (defBody s_distinct) (defScope s_distinct) [] [] f_distinct _ := ⟨⟨_, _, _, _, _, _, _, _, _, _, rfl, l_distinct, c_distinct, .inl ⟨rfl, rfl⟩, .inl rfl⟩, k_distinct⟩
  have B_distinct : Binds K _ P_distinct [] := .all (fd := PySem.W.fnOf "distinct" "distinct" (defArgs s_distinct) (defBody s_distinct) (defScope s_distinct) .none kV_distinct dc_distinct pm_distinct an_distinct cd_distinct ct_distinct) fun us hl => match us, hl with | [_], _ => rfl
  have O_distinct : FnG P w K mg base (L2.CX P w) 2 f_distinct _ P_distinct (SpP ⟨K, mg⟩ P_distinct.length F_distinct) := (show FnG P w K mg base (L2.CX P w) (1 + 1) f_distinct _ P_distinct _ from fnP FD_distinct sc_distinct fun cdv A outer s H E hr tk => b_distinct T (defK_mono D_key_of (by omega)) f_distinct cdv A outer s H E hr tk)
  have D_distinct : DefK P w K mg base "distinct" P_distinct [] 2 F_distinct := ⟨f_distinct, _, _, _, PySem.W.mg_of X G a_distinct, k_distinct, B_distinct, .nil, fun _ =>  .nil, O_distinct⟩
  have FD_then : FunD K "then" "then" (defArgs s_then) (defBody s_then) (defScope s_then) [] [] f_then _ := ⟨⟨_, _, _, _, _, _, _, _, _, _, rfl, l_then, c_then, .inl ⟨rfl, rfl⟩, .inl rfl⟩, k_then⟩
  have B_then : Binds K _ P_then [] := .all (fd := PySem.W.fnOf "then" "then" (defArgs s_then) (defBody s_then) (defScope s_then) .none kV_then dc_then pm_then an_then cd_then ct_then) fun us hl => match us, hl with | [_, _], _ => rfl
  have O_then : FnG P w K mg base (L2.CX P w) 1 f_then _ P_then (SpP ⟨K, mg⟩ P_then.length F_then) := (show FnG P w K mg base (L2.CX P w) (0 + 1) f_then _ P_then _ from fnP FD_then sc_then fun cdv A outer s H E hr tk => b_then T  f_then cdv A outer s H E hr tk)
  have D_then : DefK P w K mg base "then" P_then [] 1 F_then := ⟨f_then, _, _, _, PySem.W.mg_of X G a_then, k_then, B_then, .nil, fun _ =>  .nil, O_then⟩
  have FD_behind : FunD K "behind" "behind" (defArgs s_behind) (defBody s_behind) (defScope s_behind) [] [] f_behind _ := ⟨⟨_, _, _, _, _, _, _, _, _, _, rfl, l_behind, c_behind, .inl ⟨rfl, rfl⟩, .inl rfl⟩, k_behind⟩
  have B_behind : Binds K _ P_behind [] := .all (fd := PySem.W.fnOf "behind" "behind" (defArgs s_behind) (defBody s_behind) (defScope s_behind) .none kV_behind dc_behind pm_behind an_behind cd_behind ct_behind) fun us hl => match us, hl with | [_, _], _ => rfl
  have O_behind : FnG P w K mg base (L2.CX P w) 2 f_behind _ P_behind (SpP ⟨K, mg⟩ P_behind.length F_behind) := (show FnG P w K mg base (L2.CX P w) (1 + 1) f_behind _ P_behind _ from fnP FD_behind sc_behind fun cdv A outer s H E hr tk => b_behind T (defK_mono D_then (by omega)) f_behind cdv A outer s H E hr tk)
  have D_behind : DefK P w K mg base "behind" P_behind [] 2 F_behind := ⟨f_behind, _, _, _, PySem.W.mg_of X G a_behind, k_behind, B_behind, .nil, fun _ =>  .nil, O_behind⟩
  have FD_has : FunD K "has" "has" (defArgs s_has) (defBody s_has) (defScope s_has) [] [] f_has _ := ⟨⟨_, _, _, _, _, _, _, _, _, _, rfl, l_has, c_has, .inl ⟨rfl, rfl⟩, .inl rfl⟩, k_has⟩
  have B_has : Binds K _ P_has [] := .all (fd := PySem.W.fnOf "has" "has" (defArgs s_has) (defBody s_has) (defScope s_has) .none kV_has dc_has pm_has an_has cd_has ct_has) fun us hl => match us, hl with | [_, _], _ => rfl
  have O_has : FnG P w K mg base (L2.CX P w) 1 f_has _ P_has (SpP ⟨K, mg⟩ P_has.length F_has) := (show FnG P w K mg base (L2.CX P w) (0 + 1) f_has _ P_has _ from fnP FD_has sc_has fun cdv A outer s H E hr tk => b_has T  f_has cdv A outer s H E hr tk)
  have D_has : DefK P w K mg base "has" P_has [] 1 F_has := ⟨f_has, _, _, _, PySem.W.mg_of X G a_has, k_has, B_has, .nil, fun _ =>  .nil, O_has⟩
  have FD_holds : FunD K "holds" "holds" (defArgs s_holds) (defBody s_holds) (defScope s_holds) [] [] f_holds _ := ⟨⟨_, _, _, _, _, _, _, _, _, _, rfl, l_holds, c_holds, .inl ⟨rfl, rfl⟩, .inl rfl⟩, k_holds⟩
  have B_holds : Binds K _ P_holds [] := .all (fd := PySem.W.fnOf "holds" "holds" (defArgs s_holds) (defBody s_holds) (defScope s_holds) .none kV_holds dc_holds pm_holds an_holds cd_holds ct_holds) fun us hl => match us, hl with | [_, _, _], _ => rfl
  have O_holds : ∀ m : Nat, FnG P w K mg base (L2.CX P w) (1 + m) f_holds _ P_holds (SpP ⟨K, mg⟩ P_holds.length (F_holds m)) := fun m => by
    induction m with
    | zero => exact fn_none
    | succ m ih => exact fnP FD_holds sc_holds fun cdv A outer s H E hr tk => b_holds T (defK_mono D_has (by omega)) ⟨f_holds, _, _, _, PySem.W.mg_of X G a_holds, k_holds, B_holds, .nil, (fun _ => .nil), ih⟩ f_holds cdv A outer s H E hr tk
  have D_holds : DefK P w K mg base "holds" P_holds [] 65 (F_holds 64) := ⟨f_holds, _, _, _, PySem.W.mg_of X G a_holds, k_holds, B_holds, .nil, fun _ =>  .nil, O_holds 64⟩
  have FD_may_end : FunD K "may_end" "may_end" (defArgs s_may_end) (defBody s_may_end) (defScope s_may_end) [] [] f_may_end _ := ⟨⟨_, _, _, _, _, _, _, _, _, _, rfl, l_may_end, c_may_end, .inl ⟨rfl, rfl⟩, .inl rfl⟩, k_may_end⟩
  have B_may_end : Binds K _ P_may_end [] := .all (fd := PySem.W.fnOf "may_end" "may_end" (defArgs s_may_end) (defBody s_may_end) (defScope s_may_end) .none kV_may_end dc_may_end pm_may_end an_may_end cd_may_end ct_may_end) fun us hl => match us, hl with | [_, _, _], _ => rfl
  have O_may_end : ∀ m : Nat, FnG P w K mg base (L2.CX P w) (65 + m) f_may_end _ P_may_end (SpP ⟨K, mg⟩ P_may_end.length (F_may_end m)) := fun m => by
    induction m with
    | zero => exact fn_none
    | succ m ih => exact fnP FD_may_end sc_may_end fun cdv A outer s H E hr tk => b_may_end T (defK_mono D_holds (by omega)) ⟨f_may_end, _, _, _, PySem.W.mg_of X G a_may_end, k_may_end, B_may_end, .nil, (fun _ => .nil), ih⟩ f_may_end cdv A outer s H E hr tk
  have D_may_end : DefK P w K mg base "may_end" P_may_end [] 129 (F_may_end 64) := ⟨f_may_end, _, _, _, PySem.W.mg_of X G a_may_end, k_may_end, B_may_end, .nil, fun _ =>  .nil, O_may_end 64⟩
  have FD_rests : FunD K "rests" "rests" (defArgs s_rests) (defBody s_rests) (defScope s_rests) [] [] f_rests _ := ⟨⟨_, _, _, _, _, _, _, _, _, _, rfl, l_rests, c_rests, .inl ⟨rfl, rfl⟩, .inl rfl⟩, k_rests⟩
  have B_rests : Binds K _ P_rests [] := .all (fd := PySem.W.fnOf "rests" "rests" (defArgs s_rests) (defBody s_rests) (defScope s_rests) .none kV_rests dc_rests pm_rests an_rests cd_rests ct_rests) fun us hl => match us, hl with | [_, _, _, _], _ => rfl
  have O_rests : ∀ m : Nat, FnG P w K mg base (L2.CX P w) (129 + m) f_rests _ P_rests (SpP ⟨K, mg⟩ P_rests.length (F_rests m)) := fun m => by
    induction m with
    | zero => exact fn_none
    | succ m ih => exact fnP FD_rests sc_rests fun cdv A outer s H E hr tk => b_rests T (defK_mono D_behind (by omega)) (defK_mono D_may_end (by omega)) ⟨f_rests, _, _, _, PySem.W.mg_of X G a_rests, k_rests, B_rests, .nil, (fun _ => .nil), ih⟩ f_rests cdv A outer s H E hr tk
  have D_rests : DefK P w K mg base "rests" P_rests [] 193 (F_rests 64) := ⟨f_rests, _, _, _, PySem.W.mg_of X G a_rests, k_rests, B_rests, .nil, fun _ =>  .nil, O_rests 64⟩
  have FD_all_left : FunD K "all_left" "all_left" (defArgs s_all_left) (defBody s_all_left) (defScope s_all_left) [] [] f_all_left _ := ⟨⟨_, _, _, _, _, _, _, _, _, _, rfl, l_all_left, c_all_left, .inl ⟨rfl, rfl⟩, .inl rfl⟩, k_all_left⟩
  have B_all_left : Binds K _ P_all_left [] := .all (fd := PySem.W.fnOf "all_left" "all_left" (defArgs s_all_left) (defBody s_all_left) (defScope s_all_left) .none kV_all_left dc_all_left pm_all_left an_all_left cd_all_left ct_all_left) fun us hl => match us, hl with | [_, _], _ => rfl
  have O_all_left : FnG P w K mg base (L2.CX P w) 194 f_all_left _ P_all_left (SpP ⟨K, mg⟩ P_all_left.length F_all_left) := (show FnG P w K mg base (L2.CX P w) (193 + 1) f_all_left _ P_all_left _ from fnP FD_all_left sc_all_left fun cdv A outer s H E hr tk => b_all_left T (defVK_mono D_look_at (by omega)) (defK_mono D_key_of (by omega)) (defK_mono D_distinct (by omega)) (defK_mono D_rests (by omega)) f_all_left cdv A outer s H E hr tk)
  have D_all_left : DefK P w K mg base "all_left" P_all_left [] 194 F_all_left := ⟨f_all_left, _, _, _, PySem.W.mg_of X G a_all_left, k_all_left, B_all_left, .nil, fun _ =>  .nil, O_all_left⟩
  have FD__law_then : FunD K "_law_then" "_law_then" (defArgs s__law_then) (defBody s__law_then) (defScope s__law_then) [] [] f__law_then _ := ⟨⟨_, _, _, _, _, _, _, _, _, _, rfl, l__law_then, c__law_then, .inl ⟨rfl, rfl⟩, .inl rfl⟩, k__law_then⟩
  have B__law_then : Binds K _ P__law_then [] := .all (fd := PySem.W.fnOf "_law_then" "_law_then" (defArgs s__law_then) (defBody s__law_then) (defScope s__law_then) .none kV__law_then dc__law_then pm__law_then an__law_then cd__law_then ct__law_then) fun us hl => match us, hl with | [_, _], _ => rfl
  have O__law_then : FnG P w K mg base (L2.CX P w) 1 f__law_then _ P__law_then (SpP ⟨K, mg⟩ P__law_then.length F__law_then) := (show FnG P w K mg base (L2.CX P w) (0 + 1) f__law_then _ P__law_then _ from fnP FD__law_then sc__law_then fun cdv A outer s H E hr tk => b__law_then T  f__law_then cdv A outer s H E hr tk)
  have D__law_then : DefK P w K mg base "_law_then" P__law_then [] 1 F__law_then := ⟨f__law_then, _, _, _, PySem.W.mg_of X G a__law_then, k__law_then, B__law_then, .nil, fun _ =>  .nil, O__law_then⟩
  have FD__law_holds : FunD K "_law_holds" "_law_holds" (defArgs s__law_holds) (defBody s__law_holds) (defScope s__law_holds) [] [] f__law_holds _ := ⟨⟨_, _, _, _, _, _, _, _, _, _, rfl, l__law_holds, c__law_holds, .inl ⟨rfl, rfl⟩, .inl rfl⟩, k__law_holds⟩
  have B__law_holds : Binds K _ P__law_holds [] := .all (fd := PySem.W.fnOf "_law_holds" "_law_holds" (defArgs s__law_holds) (defBody s__law_holds) (defScope s__law_holds) .none kV__law_holds dc__law_holds pm__law_holds an__law_holds cd__law_holds ct__law_holds) fun us hl => match us, hl with | [_, _, _], _ => rfl
  have O__law_holds : ∀ m : Nat, FnG P w K mg base (L2.CX P w) (0 + m) f__law_holds _ P__law_holds (SpP ⟨K, mg⟩ P__law_holds.length (F__law_holds m)) := fun m => by
    induction m with
    | zero => exact fn_none
    | succ m ih => exact fnP FD__law_holds sc__law_holds fun cdv A outer s H E hr tk => b__law_holds T ⟨f__law_holds, _, _, _, PySem.W.mg_of X G a__law_holds, k__law_holds, B__law_holds, .nil, (fun _ => .nil), ih⟩ f__law_holds cdv A outer s H E hr tk
  have D__law_holds : DefK P w K mg base "_law_holds" P__law_holds [] 64 (F__law_holds 64) := ⟨f__law_holds, _, _, _, PySem.W.mg_of X G a__law_holds, k__law_holds, B__law_holds, .nil, fun _ =>  .nil, O__law_holds 64⟩
  have FD__law_ends : FunD K "_law_ends" "_law_ends" (defArgs s__law_ends) (defBody s__law_ends) (defScope s__law_ends) [] [] f__law_ends _ := ⟨⟨_, _, _, _, _, _, _, _, _, _, rfl, l__law_ends, c__law_ends, .inl ⟨rfl, rfl⟩, .inl rfl⟩, k__law_ends⟩
  have B__law_ends : Binds K _ P__law_ends [] := .all (fd := PySem.W.fnOf "_law_ends" "_law_ends" (defArgs s__law_ends) (defBody s__law_ends) (defScope s__law_ends) .none kV__law_ends dc__law_ends pm__law_ends an__law_ends cd__law_ends ct__law_ends) fun us hl => match us, hl with | [_, _, _], _ => rfl
  have O__law_ends : ∀ m : Nat, FnG P w K mg base (L2.CX P w) (64 + m) f__law_ends _ P__law_ends (SpP ⟨K, mg⟩ P__law_ends.length (F__law_ends m)) := fun m => by
    induction m with
    | zero => exact fn_none
    | succ m ih => exact fnP FD__law_ends sc__law_ends fun cdv A outer s H E hr tk => b__law_ends T ⟨f__law_ends, _, _, _, PySem.W.mg_of X G a__law_ends, k__law_ends, B__law_ends, .nil, (fun _ => .nil), ih⟩ (defK_mono D__law_holds (by omega)) f__law_ends cdv A outer s H E hr tk
  have D__law_ends : DefK P w K mg base "_law_ends" P__law_ends [] 128 (F__law_ends 64) := ⟨f__law_ends, _, _, _, PySem.W.mg_of X G a__law_ends, k__law_ends, B__law_ends, .nil, fun _ =>  .nil, O__law_ends 64⟩
  have FD__law_different : FunD K "_law_different" "_law_different" (defArgs s__law_different) (defBody s__law_different) (defScope s__law_different) [] [] f__law_different _ := ⟨⟨_, _, _, _, _, _, _, _, _, _, rfl, l__law_different, c__law_different, .inl ⟨rfl, rfl⟩, .inl rfl⟩, k__law_different⟩
  have B__law_different : Binds K _ P__law_different [] := .all (fd := PySem.W.fnOf "_law_different" "_law_different" (defArgs s__law_different) (defBody s__law_different) (defScope s__law_different) .none kV__law_different dc__law_different pm__law_different an__law_different cd__law_different ct__law_different) fun us hl => match us, hl with | [_], _ => rfl
  have O__law_different : FnG P w K mg base (L2.CX P w) 1 f__law_different _ P__law_different (SpP ⟨K, mg⟩ P__law_different.length F__law_different) := (show FnG P w K mg base (L2.CX P w) (0 + 1) f__law_different _ P__law_different _ from fnP FD__law_different sc__law_different fun cdv A outer s H E hr tk => b__law_different T  f__law_different cdv A outer s H E hr tk)
  have D__law_different : DefK P w K mg base "_law_different" P__law_different [] 1 F__law_different := ⟨f__law_different, _, _, _, PySem.W.mg_of X G a__law_different, k__law_different, B__law_different, .nil, fun _ =>  .nil, O__law_different⟩
  have FD_left_behind : FunD K "left_behind" "left_behind" (defArgs s_left_behind) (defBody s_left_behind) (defScope s_left_behind) [] [] f_left_behind _ := ⟨⟨_, _, _, _, _, _, _, _, _, _, rfl, l_left_behind, c_left_behind, .inl ⟨rfl, rfl⟩, .inl rfl⟩, k_left_behind⟩
  have B_left_behind : Binds K _ P_left_behind [] := .all (fd := PySem.W.fnOf "left_behind" "left_behind" (defArgs s_left_behind) (defBody s_left_behind) (defScope s_left_behind) .none kV_left_behind dc_left_behind pm_left_behind an_left_behind cd_left_behind ct_left_behind) fun us hl => match us, hl with | [_, _, _, _], _ => rfl
  have O_left_behind : FnG P w K mg base (L2.CX P w) 194 f_left_behind _ P_left_behind (SpP ⟨K, mg⟩ P_left_behind.length F_left_behind) := (show FnG P w K mg base (L2.CX P w) (193 + 1) f_left_behind _ P_left_behind _ from fnP FD_left_behind sc_left_behind fun cdv A outer s H E hr tk => b_left_behind T (defVK_mono D_look_at (by omega)) (defK_mono D_distinct (by omega)) (defK_mono D_rests (by omega)) f_left_behind cdv A outer s H E hr tk)
  have D_left_behind : DefK P w K mg base "left_behind" P_left_behind [] 194 F_left_behind := ⟨f_left_behind, _, _, _, PySem.W.mg_of X G a_left_behind, k_left_behind, B_left_behind, .nil, fun _ =>  .nil, O_left_behind⟩
  have FD__law_left : FunD K "_law_left" "_law_left" (defArgs s__law_left) (defBody s__law_left) (defScope s__law_left) [] [] f__law_left _ := ⟨⟨_, _, _, _, _, _, _, _, _, _, rfl, l__law_left, c__law_left, .inl ⟨rfl, rfl⟩, .inl rfl⟩, k__law_left⟩
  have B__law_left : Binds K _ P__law_left [] := .all (fd := PySem.W.fnOf "_law_left" "_law_left" (defArgs s__law_left) (defBody s__law_left) (defScope s__law_left) .none kV__law_left dc__law_left pm__law_left an__law_left cd__law_left ct__law_left) fun us hl => match us, hl with | [_, _, _, _], _ => rfl
  have O__law_left : ∀ m : Nat, FnG P w K mg base (L2.CX P w) (128 + m) f__law_left _ P__law_left (SpP ⟨K, mg⟩ P__law_left.length (F__law_left m)) := fun m => by
    induction m with
    | zero => exact fn_none
    | succ m ih => exact fnP FD__law_left sc__law_left fun cdv A outer s H E hr tk => b__law_left T (defK_mono D__law_then (by omega)) (defK_mono D__law_ends (by omega)) ⟨f__law_left, _, _, _, PySem.W.mg_of X G a__law_left, k__law_left, B__law_left, .nil, (fun _ => .nil), ih⟩ f__law_left cdv A outer s H E hr tk
  have D__law_left : DefK P w K mg base "_law_left" P__law_left [] 192 (F__law_left 64) := ⟨f__law_left, _, _, _, PySem.W.mg_of X G a__law_left, k__law_left, B__law_left, .nil, fun _ =>  .nil, O__law_left 64⟩
  have FD_law : FunD K "law" "law" (defArgs s_law) (defBody s_law) (defScope s_law) [] [] f_law _ := ⟨⟨_, _, _, _, _, _, _, _, _, _, rfl, l_law, c_law, .inl ⟨rfl, rfl⟩, .inl rfl⟩, k_law⟩
  have B_law : Binds K _ P_law [] := .all (fd := PySem.W.fnOf "law" "law" (defArgs s_law) (defBody s_law) (defScope s_law) .none kV_law dc_law pm_law an_law cd_law ct_law) fun us hl => match us, hl with | [_], _ => rfl
  have O_law : FnG P w K mg base (L2.CX P w) 195 f_law _ P_law (SpP ⟨K, mg⟩ P_law.length F_law) := (show FnG P w K mg base (L2.CX P w) (194 + 1) f_law _ P_law _ from fnP FD_law sc_law fun cdv A outer s H E hr tk => b_law T (defOK_mono D__law_draws (by omega)) (defMK_mono D__law_scene (by omega)) (defIK_mono D_Scene____init__ (by omega)) (defMK_mono D__law_program (by omega)) (defK_mono D__law_same (by omega)) (defK_mono D_all_left (by omega)) (defK_mono D_then (by omega)) (defK_mono D__law_then (by omega)) (defK_mono D_may_end (by omega)) (defK_mono D__law_ends (by omega)) (defK_mono D__law_different (by omega)) (defK_mono D_left_behind (by omega)) (defK_mono D__law_left (by omega)) f_law cdv A outer s H E hr tk)
  exact O_law.imp fun vs H Q E h => law_imp tr vs H Q E h
theorem truth : Truth := truthP
end Lk01

open PySem PySem.W PyProof.Rows in
set_option maxRecDepth 100000 in
set_option maxHeartbeats 0 in
theorem PySem.Challenge.cw_guardedways_k05_what_is_left_of_programs_holds : PySem.Challenge.rw_guardedways_k05_what_is_left_of_programs.Holds := by
  w_on; o_law; k_head; (case hw => w_witness2)
  k_fill
  refine Pu.walkP (l := PySem.Challenge.rw_guardedways_k05_what_is_left_of_programs) (k := 195) rfl rfl ⟨⟨rfl, by decide, by decide⟩, rfl⟩ (fun w h Y => PySem.W.kIn_of Y) ?F
  case F =>
    intro w mg fa h KX G hmg
    refine' Lk01.all_mk Lk01.truth KX G hmg ?ca_Scene ?cg_Scene ?cd_Scene ?co_Scene ?cs_Scene ?cn_Scene_atoms ?cn_Scene_names ?cn_Scene_steps ?cm_Scene ?ck_Scene ?a__law_draws ?l__law_draws ?c__law_draws ?k__law_draws ?a__law_draw ?l__law_draw ?c__law_draw ?k__law_draw ?a__law_scene ?l__law_scene ?c__law_scene ?k__law_scene ?a_is_name ?l_is_name ?c_is_name ?k_is_name ?a_is_names ?l_is_names ?c_is_names ?k_is_names ?a_Scene____init__ ?ai_Scene____init__ ?l_Scene____init__ ?c_Scene____init__ ?k_Scene____init__ ?a__law_test ?l__law_test ?c__law_test ?k__law_test ?a__law_program ?l__law_program ?c__law_program ?k__law_program ?a__law_same ?l__law_same ?c__law_same ?k__law_same ?a_is_test ?l_is_test ?c_is_test ?k_is_test ?t_is_test ?a_is_program ?l_is_program ?c_is_program ?k_is_program ?t_is_program ?a_key_of ?l_key_of ?c_key_of ?k_key_of ?a_parts_of ?l_parts_of ?c_parts_of ?k_parts_of ?a_within ?l_within ?c_within ?k_within ?a_steps_in ?l_steps_in ?c_steps_in ?k_steps_in ?a_names_in ?l_names_in ?c_names_in ?k_names_in ?a_tests_in ?l_tests_in ?c_tests_in ?k_tests_in ?a_fits ?l_fits ?c_fits ?k_fits ?a_look_at ?l_look_at ?c_look_at ?k_look_at ?a_distinct ?l_distinct ?c_distinct ?k_distinct ?a_then ?l_then ?c_then ?k_then ?a_behind ?l_behind ?c_behind ?k_behind ?a_has ?l_has ?c_has ?k_has ?a_holds ?l_holds ?c_holds ?k_holds ?a_may_end ?l_may_end ?c_may_end ?k_may_end ?a_rests ?l_rests ?c_rests ?k_rests ?a_all_left ?l_all_left ?c_all_left ?k_all_left ?a__law_then ?l__law_then ?c__law_then ?k__law_then ?a__law_holds ?l__law_holds ?c__law_holds ?k__law_holds ?a__law_ends ?l__law_ends ?c__law_ends ?k__law_ends ?a__law_different ?l__law_different ?c__law_different ?k__law_different ?a_left_behind ?l_left_behind ?c_left_behind ?k_left_behind ?a__law_left ?l__law_left ?c__law_left ?k__law_left ?a_law ?l_law ?c_law ?k_law ?z_ValueError ?z_all ?z_bool ?z_int ?z_isinstance ?z_len ?z_list ?z_range ?z_repr ?z_sorted ?z_str ?z_tuple ?g_FAIL ?h_FAIL ?h_FAIL_1 ?g_LETTERS ?g_MOST_NAMES ?g_MOST_STEPS ?g_SKIP ?h_SKIP ?h_SKIP_1 ?x_BadProgram ?xq_BadProgram ?xk_BadProgram ?xs_BadProgram ?xt_BadProgram ?xm_BadProgram ?x1_BadProgram ?x2_BadProgram ?x3_BadProgram ?x4_BadProgram ?x5_BadProgram ?x6_BadProgram ?x7_BadProgram ?x8_BadProgram
    (case ca_Scene => first | k_is | kernel_rfl)
    (case cg_Scene => first | k_is | kernel_rfl)
    (case cd_Scene => first | k_is | kernel_rfl)
    (case co_Scene => first | k_is | kernel_rfl)
    (case cs_Scene => first | k_is | kernel_rfl)
    (case cn_Scene_atoms => first | k_is | kernel_rfl)
    (case cn_Scene_names => first | k_is | kernel_rfl)
    (case cn_Scene_steps => first | k_is | kernel_rfl)
    (case cm_Scene => first | k_is | kernel_rfl)
    (case ck_Scene => first | k_is | kernel_rfl)
    (case a__law_draws => k_is)
    (case l__law_draws => k_is)
    (case c__law_draws => k_is)
    (case k__law_draws => k_is)
    (case a__law_draw => k_is)
    (case l__law_draw => k_is)
    (case c__law_draw => k_is)
    (case k__law_draw => k_is)
    (case a__law_scene => k_is)
    (case l__law_scene => k_is)
    (case c__law_scene => k_is)
    (case k__law_scene => k_is)
    (case a_is_name => k_is)
    (case l_is_name => k_is)
    (case c_is_name => k_is)
    (case k_is_name => k_is)
    (case a_is_names => k_is)
    (case l_is_names => k_is)
    (case c_is_names => k_is)
    (case k_is_names => k_is)
    (case a_Scene____init__ => k_is)
    (case ai_Scene____init__ => first | k_is | kernel_rfl)
    (case l_Scene____init__ => k_is)
    (case c_Scene____init__ => k_is)
    (case k_Scene____init__ => k_is)
    (case a__law_test => k_is)
    (case l__law_test => k_is)
    (case c__law_test => k_is)
    (case k__law_test => k_is)
    (case a__law_program => k_is)
    (case l__law_program => k_is)
    (case c__law_program => k_is)
    (case k__law_program => k_is)
    (case a__law_same => k_is)
    (case l__law_same => k_is)
    (case c__law_same => k_is)
    (case k__law_same => k_is)
    (case a_is_test => k_is)
    (case l_is_test => k_is)
    (case c_is_test => k_is)
    (case k_is_test => k_is)
    (case t_is_test => k_is)
    (case a_is_program => k_is)
    (case l_is_program => k_is)
    (case c_is_program => k_is)
    (case k_is_program => k_is)
    (case t_is_program => k_is)
    (case a_key_of => k_is)
    (case l_key_of => k_is)
    (case c_key_of => k_is)
    (case k_key_of => k_is)
    (case a_parts_of => k_is)
    (case l_parts_of => k_is)
    (case c_parts_of => k_is)
    (case k_parts_of => k_is)
    (case a_within => k_is)
    (case l_within => k_is)
    (case c_within => k_is)
    (case k_within => k_is)
    (case a_steps_in => k_is)
    (case l_steps_in => k_is)
    (case c_steps_in => k_is)
    (case k_steps_in => k_is)
    (case a_names_in => k_is)
    (case l_names_in => k_is)
    (case c_names_in => k_is)
    (case k_names_in => k_is)
    (case a_tests_in => k_is)
    (case l_tests_in => k_is)
    (case c_tests_in => k_is)
    (case k_tests_in => k_is)
    (case a_fits => k_is)
    (case l_fits => k_is)
    (case c_fits => k_is)
    (case k_fits => k_is)
    (case a_look_at => k_is)
    (case l_look_at => k_is)
    (case c_look_at => k_is)
    (case k_look_at => k_is)
    (case a_distinct => k_is)
    (case l_distinct => k_is)
    (case c_distinct => k_is)
    (case k_distinct => k_is)
    (case a_then => k_is)
    (case l_then => k_is)
    (case c_then => k_is)
    (case k_then => k_is)
    (case a_behind => k_is)
    (case l_behind => k_is)
    (case c_behind => k_is)
    (case k_behind => k_is)
    (case a_has => k_is)
    (case l_has => k_is)
    (case c_has => k_is)
    (case k_has => k_is)
    (case a_holds => k_is)
    (case l_holds => k_is)
    (case c_holds => k_is)
    (case k_holds => k_is)
    (case a_may_end => k_is)
    (case l_may_end => k_is)
    (case c_may_end => k_is)
    (case k_may_end => k_is)
    (case a_rests => k_is)
    (case l_rests => k_is)
    (case c_rests => k_is)
    (case k_rests => k_is)
    (case a_all_left => k_is)
    (case l_all_left => k_is)
    (case c_all_left => k_is)
    (case k_all_left => k_is)
    (case a__law_then => k_is)
    (case l__law_then => k_is)
    (case c__law_then => k_is)
    (case k__law_then => k_is)
    (case a__law_holds => k_is)
    (case l__law_holds => k_is)
    (case c__law_holds => k_is)
    (case k__law_holds => k_is)
    (case a__law_ends => k_is)
    (case l__law_ends => k_is)
    (case c__law_ends => k_is)
    (case k__law_ends => k_is)
    (case a__law_different => k_is)
    (case l__law_different => k_is)
    (case c__law_different => k_is)
    (case k__law_different => k_is)
    (case a_left_behind => k_is)
    (case l_left_behind => k_is)
    (case c_left_behind => k_is)
    (case k_left_behind => k_is)
    (case a__law_left => k_is)
    (case l__law_left => k_is)
    (case c__law_left => k_is)
    (case k__law_left => k_is)
    (case a_law => k_is)
    (case l_law => k_is)
    (case c_law => k_is)
    (case k_law => k_is)
    (case z_ValueError => k_is)
    (case z_all => k_is)
    (case z_bool => k_is)
    (case z_int => k_is)
    (case z_isinstance => k_is)
    (case z_len => k_is)
    (case z_list => k_is)
    (case z_range => k_is)
    (case z_repr => k_is)
    (case z_sorted => k_is)
    (case z_str => k_is)
    (case z_tuple => k_is)
    (case g_FAIL => k_is)
    (case h_FAIL => k_is)
    (case h_FAIL_1 => k_is)
    (case g_LETTERS => k_is)
    (case g_MOST_NAMES => k_is)
    (case g_MOST_STEPS => k_is)
    (case g_SKIP => k_is)
    (case h_SKIP => k_is)
    (case h_SKIP_1 => k_is)
    (case x_BadProgram => k_is)
    (case xq_BadProgram => kernel_rfl)
    (case xk_BadProgram => k_is)
    (case xs_BadProgram => k_is)
    (case xt_BadProgram => k_is)
    (case xm_BadProgram => kernel_rfl)
    (case x1_BadProgram => k_is)
    (case x2_BadProgram => k_is)
    (case x3_BadProgram => k_is)
    (case x4_BadProgram => k_is)
    (case x5_BadProgram => k_is)
    (case x6_BadProgram => k_is)
    (case x7_BadProgram => k_is)
    (case x8_BadProgram => kernel_rfl)
#print axioms PySem.Challenge.cw_guardedways_k05_what_is_left_of_programs_holds
