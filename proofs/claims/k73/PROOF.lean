import PyProof.Rows.All
import Wide.All
import OpenK.AllK
import Wide.FinOn
import HandS.ForMost
import HandS.ForExc
import HandS.Deep
import HandS.DictComp
import HandS.IsInst
import HandS.Conv
import HandS.Defaults
import HandS.Wide
import HandS.SortInts
import HandS.More
import HandS.Style
import HandS.Strs
import HandS.Walk
import HandS.Zip
import HandS.TupAny
import HandS.TupLe
import KE.GoesEnum
import KE.GoesMore
import HandS.ExcIs
import HandS.TryOnly
import PyProof.DictUpdate
import PyProof.Rows.TmSorted
import HandS.WordsExc
import HandS.Ends
import HandS.Small
import PyProof.ReprRoads
import PyProof.Rows.SeqMore
import HandS.Words
import HandS.Text
import PySem.Challenge.RW_guardedways_k73_packets_and_looks
set_option Elab.async false
set_option linter.all false
set_option maxRecDepth 100000
set_option maxHeartbeats 4000000
/-! Pu, part A: data without addresses, how a frozen part of the heap bears them, the state of a body by cells. -/
namespace Pu
open PySem L2

/-- data: values, tuples, lists, dicts (keys and values side by side), instances (class, names, values) -/
inductive PV where
  | non | bl (b : Bool) | int (i : Int) | str (s : Str) | tup (xs : List PV) | ktup (xs : List PV) | lst (xs : List PV)
  | dic (ks : List Key) (vs : List PV) | ins (c : Str) (ns : List Str) (vs : List PV)

/-- a key that can be read as data -/
def keyOk : Key → Bool
  | .inl _ => true
  | .inr s => PyData.strOk s
structure G where
  K : PySem.W.Frag
  mg : Str → Option Value
abbrev gOf (X : Cx) : G := ⟨X.K, X.mg⟩
/-- a tuple whose object is known to have no dict of its own (its methods are the built-in type's) -/
def TupAt (K : PySem.W.Frag) (Z : Hp) (a : Addr) (vs : List V) : Prop :=
  (∃ o, Z a = some (.frz o (.tup vs)) ∧ o.dict = none) ∨
    ∃ (o : Obj) (its : Array Value) (n : Nat), K.lookup a = some o ∧ o.cls = .type "tuple" ∧ o.dict = none ∧ o.data = .seq its n ∧ its.size ≤ sizeLine ∧ Vals vs its.toList
theorem TupAt.sqt {K : PySem.W.Frag} {Z : Hp} {a : Addr} {vs : List V} (h : TupAt K Z a vs) : SqT K Z a vs := by
  rcases h with ⟨o, h, _⟩ | ⟨o, its, n, h1, h2, _, h3⟩
  · exact .inl (.inr ⟨o, h⟩)
  · exact .inr ⟨o, its, n, h1, h2, h3⟩
theorem TupAt.mono {K : PySem.W.Frag} {Z Z' : Hp} {a : Addr} {vs : List V} (h : TupAt K Z a vs) (e : Same Z Z') : TupAt K Z' a vs := by
  rcases h with ⟨o, h, d⟩ | h
  · exact .inl ⟨o, e _ _ h, d⟩
  · exact .inr h

mutual
/-- the frozen heap Z bears the data x at the value v -/
inductive Rep (g : G) (Z : Hp) : V → PV → Prop
  | non : Rep g Z .non .non
  | bl (b : Bool) : Rep g Z (.bl b) (.bl b)
  | int (i : Int) : Rep g Z (.int i) (.int i)
  | str (s : Str) : PyData.strOk s = true → Rep g Z (.str s) (.str s)
  | tup {a : Addr} {vs : List V} {xs : List PV} : TupAt g.K Z a vs → vs.length ≤ sizeLine → Reps g Z vs xs → Rep g Z (.ref a) (.tup xs)
  | ktup {a : Addr} {vs : List V} {xs : List PV} : Z a = some (.tup vs) → vs.length ≤ sizeLine → Reps g Z vs xs → Rep g Z (.ref a) (.ktup xs)
  | lst {a : Addr} {vs : List V} {xs : List PV} : SqL g.K Z a vs → vs.length ≤ sizeLine → Reps g Z vs xs → Rep g Z (.ref a) (.lst xs)
  | dic {a : Addr} {kvs : List (Key × V)} {vs : List PV} : Rd Z a (.dK kvs) → kvs.length ≤ sizeLine → (kvs.map (·.1)).all keyOk = true → Reps g Z (kvs.map (·.2)) vs → Rep g Z (.ref a) (.dic (kvs.map (·.1)) vs)
  | ins {a C dx : Addr} {c : Str} {fs : List (Str × V)} {vs : List PV} : Z a = some (.ins C dx fs) → g.mg c = some (.ref C) → Reps g Z (fs.map (·.2)) vs → Rep g Z (.ref a) (.ins c (fs.map (·.1)) vs)
inductive Reps (g : G) (Z : Hp) : List V → List PV → Prop
  | nil : Reps g Z [] []
  | cons {v : V} {vs : List V} {x : PV} {xs : List PV} : Rep g Z v x → Reps g Z vs xs → Reps g Z (v :: vs) (x :: xs)
end

theorem Same.rd {Z Z' : Hp} {a : Addr} {u : HO} (e : Same Z Z') (h : Rd Z a u) : Rd Z' a u := by
  rcases h with h | ⟨o, h⟩
  · exact .inl (e _ _ h)
  · exact .inr ⟨o, e _ _ h⟩
theorem Same.sqt {K : PySem.W.Frag} {H H' : Hp} {a : Addr} {xs : List V} (e : Same H H') (h : SqT K H a xs) : SqT K H' a xs := by
  rcases h with h | h
  · exact .inl (Same.rd e h)
  · exact .inr h
theorem Same.sql {K : PySem.W.Frag} {H H' : Hp} {a : Addr} {xs : List V} (e : Same H H') (h : SqL K H a xs) : SqL K H' a xs := by
  rcases h with h | h
  · exact .inl (Same.rd e h)
  · exact .inr h

section
variable {g : G} {Z Z' H : Hp}
mutual
theorem Rep.mono (e : Same Z Z') : ∀ {x : PV} {v : V}, Rep g Z v x → Rep g Z' v x
  | .non, _, h => by cases h; exact .non
  | .bl _, _, h => by cases h; exact .bl _
  | .int _, _, h => by cases h; exact .int _
  | .str _, _, h => by cases h with | str _ q => exact .str _ q
  | .tup _, _, h => by cases h with | tup h l r => exact .tup (h.mono e) l (Reps.mono e r)
  | .ktup _, _, h => by cases h with | ktup h l r => exact .ktup (e _ _ h) l (Reps.mono e r)
  | .lst _, _, h => by cases h with | lst h l r => exact .lst (Same.sql e h) l (Reps.mono e r)
  | .dic _ _, _, h => by cases h with | dic h l r q => exact .dic (Same.rd e h) l r (Reps.mono e q)
  | .ins _ _ _, _, h => by cases h with | ins h l r => exact .ins (e _ _ h) l (Reps.mono e r)
theorem Reps.mono (e : Same Z Z') : ∀ {xs : List PV} {vs : List V}, Reps g Z vs xs → Reps g Z' vs xs
  | [], _, h => by cases h; exact .nil
  | _ :: _, _, h => by cases h with | cons a b => exact .cons (Rep.mono e a) (Reps.mono e b)
end
theorem Reps.length : ∀ {vs : List V} {xs : List PV}, Reps g Z vs xs → vs.length = xs.length
  | _, _, .nil => rfl
  | _, _, .cons _ r => by rw [List.length_cons, List.length_cons, r.length]
theorem Reps.get : ∀ {vs : List V} {xs : List PV} {i : Nat} {v : V}, Reps g Z vs xs → vs[i]? = some v → ∃ x, xs[i]? = some x ∧ Rep g Z v x
  | _, _, _, _, .nil, e => by simp at e
  | _, _, 0, _, .cons r _, e => by simp at e; subst e; exact ⟨_, rfl, r⟩
  | _, _, i + 1, v, .cons _ t, e => by
    obtain ⟨u, h1, h2⟩ := Reps.get (i := i) (v := v) t (by simpa using e)
    exact ⟨u, by simpa using h1, h2⟩
theorem Reps.get' : ∀ {vs : List V} {xs : List PV} {i : Nat} {x : PV}, Reps g Z vs xs → xs[i]? = some x → ∃ v, vs[i]? = some v ∧ Rep g Z v x
  | _, _, _, _, .nil, e => by simp at e
  | _, _, 0, _, .cons r _, e => by simp at e; subst e; exact ⟨_, rfl, r⟩
  | _, _, i + 1, v, .cons _ t, e => by
    obtain ⟨u, h1, h2⟩ := Reps.get' (i := i) (x := v) t (by simpa using e)
    exact ⟨u, by simpa using h1, h2⟩
theorem Reps.append : ∀ {vs : List V} {xs : List PV} {us : List V} {ys : List PV}, Reps g Z vs xs → Reps g Z us ys → Reps g Z (vs ++ us) (xs ++ ys)
  | _, _, _, _, .nil, h => h
  | _, _, _, _, .cons a b, h => .cons a (b.append h)
theorem Reps.take : ∀ {vs : List V} {xs : List PV} (n : Nat), Reps g Z vs xs → Reps g Z (vs.take n) (xs.take n)
  | _, _, 0, _ => .nil
  | _, _, _ + 1, .nil => .nil
  | _, _, n + 1, .cons r t => .cons r (t.take n)
theorem Reps.drop : ∀ {vs : List V} {xs : List PV} (n : Nat), Reps g Z vs xs → Reps g Z (vs.drop n) (xs.drop n)
  | _, _, 0, r => r
  | _, _, _ + 1, .nil => .nil
  | _, _, n + 1, .cons _ t => t.drop n
theorem Reps.set {v : V} {x : PV} (r : Rep g Z v x) : ∀ {vs : List V} {xs : List PV} (i : Nat), Reps g Z vs xs → Reps g Z (vs.set i v) (xs.set i x)
  | _, _, _, .nil => .nil
  | _, _, 0, .cons _ t => .cons r t
  | _, _, i + 1, .cons q t => .cons q (Reps.set r i t)
theorem Reps.reverse {vs : List V} {xs : List PV} (h : Reps g Z vs xs) : Reps g Z vs.reverse xs.reverse := by
  induction vs generalizing xs with
  | nil => cases h; exact .nil
  | cons v vs ih =>
    cases h with
    | cons a b =>
      rw [List.reverse_cons, List.reverse_cons]
      exact (ih b).append (.cons a .nil)
end

/-! ### the cells of a body's names -/
/-- a name's content: not known, data, a list or dict that may be changed (the body's own: true; handed in: false) -/
inductive Cell where
  | un | v (x : PV) | m (own : Bool) (xs : List PV) | d (own : Bool) (ks : List Key) (vs : List PV) | o (own : Bool) (c : Str) (ns : List Str) (vs : List PV)
abbrev Cells := List Cell
/-- an exception: its class's name, the attributes of its own dict -/
structure Exn where
  c : Str
  ns : List Str := []
  vs : List PV := []

structure Frm where
  Z : Hp
  H : Hp
  M : Addr → Prop

def OwnM (f : Frm) (own : Bool) (a : Addr) : Prop := match own with
  | true => f.H a = none
  | false => f.M a
theorem OwnM.or {f : Frm} {own : Bool} {a : Addr} (h : OwnM f own a) : f.H a = none ∨ f.M a := by
  cases own with
  | true => exact .inl h
  | false => exact .inr h
def Slot (g : G) (f : Frm) (Z H : Hp) (σ : L2.St) (i : Nat) : Cell → Prop
  | .un => True
  | .v x => ∃ v, σ[i]? = some (some v) ∧ Rep g Z v x
  | .m own xs => ∃ a vs, σ[i]? = some (some (.ref a)) ∧ Z a = none ∧ H a = some (.lst vs) ∧ vs.length ≤ sizeLine ∧ Reps g Z vs xs ∧ OwnM f own a
  | .d own ks vs => ∃ a kvs, σ[i]? = some (some (.ref a)) ∧ Z a = none ∧ H a = some (.dK kvs) ∧ kvs.length ≤ sizeLine ∧ kvs.map (·.1) = ks ∧ ks.all keyOk = true ∧ Reps g Z (kvs.map (·.2)) vs ∧ OwnM f own a
  | .o own c ns vs => ∃ a fs, σ[i]? = some (some (.ref a)) ∧ Z a = none ∧ (∃ C dx, H a = some (.ins C dx fs) ∧ g.mg c = some (.ref C)) ∧ fs.map (·.1) = ns ∧ Reps g Z (fs.map (·.2)) vs ∧ OwnM f own a
def Cell.mut : Cell → Bool
  | .m _ _ => true
  | .d _ _ _ => true
  | .o _ _ _ _ => true
  | _ => false

structure StOk (g : G) (f : Frm) (Z H : Hp) (σ : L2.St) (env : Cells) : Prop where
  z0 : Same f.Z Z
  zh : Same Z H
  fr : ∀ a o, f.H a = some o → ¬ f.M a → H a = some o
  nz : ∀ a o, f.H a = some o → ¬ f.M a → f.Z a = none → Z a = none
  pr : ∀ a o, f.H a = some o → ∃ o', H a = some o'
  mh : ∀ a, f.M a → ∃ o, f.H a = some o
  ln : env.length = σ.length
  sl : ∀ (i : Nat) (c : Cell), env[i]? = some c → Slot g f Z H σ i c
  sep : ∀ (i j : Nat) (x y : Cell) (a : Addr), env[i]? = some x → env[j]? = some y → x.mut = true → y.mut = true → σ[i]? = some (some (.ref a)) → σ[j]? = some (some (.ref a)) → i = j

section
variable {g : G} {f : Frm} {Z H Z' H' : Hp} {σ : L2.St} {env : Cells}
/-- the addresses of the changing cells -/
def Muts (σ : L2.St) (env : Cells) (a : Addr) : Prop := ∃ (i : Nat) (c : Cell), env[i]? = some c ∧ c.mut = true ∧ σ[i]? = some (some (.ref a))
theorem StOk.muts (st : StOk g f Z H σ env) {a : Addr} (h : Muts σ env a) : Z a = none ∧ (∃ o, H a = some o) ∧ (f.H a = none ∨ f.M a) := by
  obtain ⟨i, c, e, m, s⟩ := h
  have q := st.sl i c e
  cases c with
  | un => cases m
  | v _ => cases m
  | m xs =>
    obtain ⟨b, vs, e1, e2, e3, _, _, e4⟩ := q
    rw [s] at e1; cases e1
    exact ⟨e2, ⟨_, e3⟩, e4.or⟩
  | d ks vs =>
    obtain ⟨b, kvs, e1, e2, e3, _, _, _, _, e4⟩ := q
    rw [s] at e1; cases e1
    exact ⟨e2, ⟨_, e3⟩, e4.or⟩
  | o own c ns vs =>
    obtain ⟨b, fs, e1, e2, ⟨C, dx, e3, _⟩, _, _, e4⟩ := q
    rw [s] at e1; cases e1
    exact ⟨e2, ⟨_, e3⟩, e4.or⟩
/-- the state goes on: the frozen part and the heap have grown, nothing that stood has changed -/
theorem StOk.grow (st : StOk g f Z H σ env) (zz : Same Z Z') (hh : Same H H') (zh : Same Z' H') (nz : ∀ a o, H a = some o → Z a = none → Z' a = none) : StOk g f Z' H' σ env where
  z0 := st.z0.trans zz
  zh := zh
  fr := fun a o e m => hh _ _ (st.fr a o e m)
  nz := fun a o e m z => nz a o (st.fr a o e m) (st.nz a o e m z)
  pr := fun a o e => by obtain ⟨o', q⟩ := st.pr a o e; exact ⟨o', hh _ _ q⟩
  mh := st.mh
  ln := st.ln
  sl := fun i c e => by
    have q := st.sl i c e
    cases c with
    | un => trivial
    | v x => obtain ⟨v, e1, r⟩ := q; exact ⟨v, e1, r.mono zz⟩
    | m own xs => obtain ⟨b, vs, e1, e2, e3, l, r, e4⟩ := q; exact ⟨b, vs, e1, nz _ _ e3 e2, hh _ _ e3, l, r.mono zz, e4⟩
    | d own ks vs => obtain ⟨b, kvs, e1, e2, e3, l, hk, ho, r, e4⟩ := q; exact ⟨b, kvs, e1, nz _ _ e3 e2, hh _ _ e3, l, hk, ho, r.mono zz, e4⟩
    | o own c ns vs => obtain ⟨b, fs, e1, e2, ⟨C, dx, e3, hc⟩, hk, r, e4⟩ := q; exact ⟨b, fs, e1, nz _ _ e3 e2, ⟨C, dx, hh _ _ e3, hc⟩, hk, r.mono zz, e4⟩
  sep := st.sep
theorem same_upd {p : Addr} {o : HO} (n : H p = none) : Same H (upd H p o) := fun b u e => by rw [upd_ne (ne_of_none e n)]; exact e
/-- a new thing, frozen at once -/
theorem StOk.lay (st : StOk g f Z H σ env) {p : Addr} {o : HO} (n : H p = none) : StOk g f (upd Z p o) (upd H p o) σ env := by
  have nZ : Z p = none := by
    cases e : Z p with
    | none => rfl
    | some u => rw [st.zh _ _ e] at n; cases n
  refine st.grow (same_upd nZ) (same_upd n) (fun b u e => ?_) fun a u e z => ?_
  · by_cases hb : b = p
    · subst hb; rw [upd_same] at e ⊢; exact e
    · rw [upd_ne hb] at e ⊢; exact st.zh _ _ e
  · rw [upd_ne (ne_of_none e n)]; exact z
/-- a new thing, not frozen -/
theorem StOk.new (st : StOk g f Z H σ env) {p : Addr} {o : HO} (n : H p = none) : StOk g f Z (upd H p o) σ env :=
  st.grow (Same.refl _) (same_upd n) (st.zh.trans (same_upd n)) fun _ _ _ z => z
theorem StOk.zn (st : StOk g f Z H σ env) {p : Addr} (n : H p = none) : Z p = none := by
  cases e : Z p with
  | none => rfl
  | some u => rw [st.zh _ _ e] at n; cases n
/-- a name is given data -/
theorem StOk.setV (st : StOk g f Z H σ env) {i : Nat} {v : V} {x : PV} (r : Rep g Z v x) (hi : i < σ.length) : StOk g f Z H (σ.set i (some v)) (env.set i (.v x)) where
  z0 := st.z0
  zh := st.zh
  fr := st.fr
  nz := st.nz
  pr := st.pr
  mh := st.mh
  ln := by rw [List.length_set, List.length_set]; exact st.ln
  sl := fun j c e => by
    by_cases hj : i = j
    · subst hj
      rw [List.getElem?_set_self (by rw [st.ln]; exact hi)] at e
      cases e
      exact ⟨v, List.getElem?_set_self hi, r⟩
    · rw [List.getElem?_set_ne hj] at e
      have q := st.sl j c e
      unfold Slot at q ⊢
      rw [List.getElem?_set_ne hj]
      exact q
  sep := fun j k c1 c2 a ej ek mx my sj sk => by
    have nj : ∀ {j : Nat} {c : Cell}, (env.set i (.v x))[j]? = some c → c.mut = true → i ≠ j := fun {j c} e m h => by
      subst h
      rw [List.getElem?_set_self (by rw [st.ln]; exact hi)] at e
      cases e
      cases m
    have h1 := nj ej mx
    have h2 := nj ek my
    rw [List.getElem?_set_ne h1] at ej sj
    rw [List.getElem?_set_ne h2] at ek sk
    exact st.sep j k c1 c2 a ej ek mx my sj sk
/-- a name forgotten -/
theorem StOk.wipe1 (st : StOk g f Z H σ env) {i : Nat} {v : Option V} : StOk g f Z H (σ.set i v) (env.set i .un) where
  z0 := st.z0
  zh := st.zh
  fr := st.fr
  nz := st.nz
  pr := st.pr
  mh := st.mh
  ln := by rw [List.length_set, List.length_set]; exact st.ln
  sl := fun j c e => by
    by_cases hj : i = j
    · subst hj
      by_cases hi : i < env.length
      · rw [List.getElem?_set_self hi] at e
        cases e
        trivial
      · rw [List.getElem?_eq_none (by rw [List.length_set]; omega)] at e; cases e
    · rw [List.getElem?_set_ne hj] at e
      have q := st.sl j c e
      unfold Slot at q ⊢
      rw [List.getElem?_set_ne hj]
      exact q
  sep := fun j k x y a ej ek mx my sj sk => by
    have nj : ∀ {j : Nat} {x : Cell}, (env.set i .un)[j]? = some x → x.mut = true → i ≠ j := fun {j x} e m h => by
      subst h
      by_cases hi : i < env.length
      · rw [List.getElem?_set_self hi] at e
        cases e
        cases m
      · rw [List.getElem?_eq_none (by rw [List.length_set]; omega)] at e; cases e
    have h1 := nj ej mx
    have h2 := nj ek my
    rw [List.getElem?_set_ne h1] at ej sj
    rw [List.getElem?_set_ne h2] at ek sk
    exact st.sep j k x y a ej ek mx my sj sk
/-- only the env forgets -/
theorem StOk.forget (st : StOk g f Z H σ env) {i : Nat} : StOk g f Z H σ (env.set i .un) where
  z0 := st.z0
  zh := st.zh
  fr := st.fr
  nz := st.nz
  pr := st.pr
  mh := st.mh
  ln := by rw [List.length_set]; exact st.ln
  sl := fun j c e => by
    by_cases hj : i = j
    · subst hj
      by_cases hi : i < env.length
      · rw [List.getElem?_set_self hi] at e
        cases e
        trivial
      · rw [List.getElem?_eq_none (by rw [List.length_set]; omega)] at e; cases e
    · rw [List.getElem?_set_ne hj] at e
      exact st.sl j c e
  sep := fun j k x y a ej ek mx my sj sk => by
    have nj : ∀ {j : Nat} {x : Cell}, (env.set i .un)[j]? = some x → x.mut = true → i ≠ j := fun {j x} e m h => by
      subst h
      by_cases hi : i < env.length
      · rw [List.getElem?_set_self hi] at e
        cases e
        cases m
      · rw [List.getElem?_eq_none (by rw [List.length_set]; omega)] at e; cases e
    rw [List.getElem?_set_ne (nj ej mx)] at ej
    rw [List.getElem?_set_ne (nj ek my)] at ek
    exact st.sep j k x y a ej ek mx my sj sk
/-- a changing list's name: its content is changed in place (the heap at a) -/
theorem StOk.putM (st : StOk g f Z H σ env) {i : Nat} {a : Addr} {us vs : List V} {own : Bool} {xs ys : List PV} (e : env[i]? = some (.m own xs)) (s : σ[i]? = some (some (.ref a))) (hH : H a = some (.lst us)) (l : vs.length ≤ sizeLine) (r : Reps g Z vs ys) :
    StOk g f Z (upd H a (.lst vs)) σ (env.set i (.m own ys)) := by
  have hm := st.muts (a := a) ⟨i, _, e, rfl, s⟩
  have hi : i < env.length := (List.getElem?_eq_some_iff.mp e).1
  refine ⟨st.z0, fun b u q => ?_, fun b o q m => ?_, st.nz, fun b o q => ?_, st.mh, by rw [List.length_set]; exact st.ln, fun j c ej => ?_, fun j k x y b ej ek mx my sj sk => ?_⟩
  · have : b ≠ a := fun z => by rw [z, hm.1] at q; cases q
    rw [upd_ne this]; exact st.zh _ _ q
  · have : b ≠ a := fun z => by
      subst z
      rcases hm.2.2 with z | z
      · rw [z] at q; cases q
      · exact m z
    rw [upd_ne this]; exact st.fr _ _ q m
  · by_cases hb : b = a
    · exact ⟨_, by rw [hb, upd_same]⟩
    · obtain ⟨o', z⟩ := st.pr b o q
      exact ⟨o', by rw [upd_ne hb]; exact z⟩
  · by_cases hj : i = j
    · subst hj
      rw [List.getElem?_set_self hi] at ej
      cases ej
      obtain ⟨a', _, s', _, _, _, _, ow⟩ := st.sl i _ e
      rw [s] at s'; cases s'
      exact ⟨a, vs, s, hm.1, upd_same, l, r, ow⟩
    · rw [List.getElem?_set_ne hj] at ej
      have q := st.sl j c ej
      cases c with
      | un => trivial
      | v x => exact q
      | m own' zs =>
        obtain ⟨b, ws, e1, e2, e3, l', r', e4⟩ := q
        have : b ≠ a := fun z => by subst z; exact hj (st.sep i j _ _ b e ej rfl rfl s e1)
        exact ⟨b, ws, e1, e2, by rw [upd_ne this]; exact e3, l', r', e4⟩
      | d own' ks ws =>
        obtain ⟨b, kvs, e1, e2, e3, l', hk, ho, r', e4⟩ := q
        have : b ≠ a := fun z => by subst z; exact hj (st.sep i j _ _ b e ej rfl rfl s e1)
        exact ⟨b, kvs, e1, e2, by rw [upd_ne this]; exact e3, l', hk, ho, r', e4⟩
      | o own' c ns ws =>
        obtain ⟨b, fs, e1, e2, ⟨C, dx, e3, hc⟩, hk, r', e4⟩ := q
        have : b ≠ a := fun z => by subst z; exact hj (st.sep i j _ _ b e ej rfl rfl s e1)
        exact ⟨b, fs, e1, e2, ⟨C, dx, by rw [upd_ne this]; exact e3, hc⟩, hk, r', e4⟩
  · have back : ∀ {j : Nat} {x : Cell}, (env.set i (.m own ys))[j]? = some x → x.mut = true → ∃ x', env[j]? = some x' ∧ x'.mut = true := fun {j x} ej mx => by
      by_cases hj : i = j
      · subst hj; exact ⟨_, e, rfl⟩
      · rw [List.getElem?_set_ne hj] at ej; exact ⟨x, ej, mx⟩
    obtain ⟨x', e1, m1⟩ := back ej mx
    obtain ⟨y', e2, m2⟩ := back ek my
    exact st.sep j k x' y' b e1 e2 m1 m2 sj sk
/-- a name is given a new changing list -/
theorem StOk.setM (st : StOk g f Z H σ env) {i : Nat} {a : Addr} {vs : List V} {xs : List PV} (n : Z a = none) (hH : H a = some (.lst vs)) (l : vs.length ≤ sizeLine) (r : Reps g Z vs xs) (hf : f.H a = none) (own : ¬ Muts σ env a) (hi : i < σ.length) :
    StOk g f Z H (σ.set i (some (.ref a))) (env.set i (.m true xs)) := by
  have hi' : i < env.length := by rw [st.ln]; exact hi
  refine ⟨st.z0, st.zh, st.fr, st.nz, st.pr, st.mh, by rw [List.length_set, List.length_set]; exact st.ln, fun j c ej => ?_, fun j k x y b ej ek mx my sj sk => ?_⟩
  · by_cases hj : i = j
    · subst hj
      rw [List.getElem?_set_self hi'] at ej
      cases ej
      exact ⟨a, vs, List.getElem?_set_self hi, n, hH, l, r, hf⟩
    · rw [List.getElem?_set_ne hj] at ej
      have q := st.sl j c ej
      unfold Slot at q ⊢
      rw [List.getElem?_set_ne hj]
      exact q
  · by_cases hj : i = j
    · by_cases hk : i = k
      · exact hj.symm.trans hk
      · subst hj
        rw [List.getElem?_set_self hi] at sj
        cases sj
        rw [List.getElem?_set_ne hk] at ek sk
        exact absurd ⟨k, y, ek, my, sk⟩ own
    · by_cases hk : i = k
      · subst hk
        rw [List.getElem?_set_self hi] at sk
        cases sk
        rw [List.getElem?_set_ne hj] at ej sj
        exact absurd ⟨j, x, ej, mx, sj⟩ own
      · rw [List.getElem?_set_ne hj] at ej sj
        rw [List.getElem?_set_ne hk] at ek sk
        exact st.sep j k x y b ej ek mx my sj sk
/-- a changing list is frozen (it is handed on as data) -/
theorem StOk.freeze (st : StOk g f Z H σ env) {i : Nat} {a : Addr} {vs : List V} {xs : List PV} (e : env[i]? = some (.m true xs)) (s : σ[i]? = some (some (.ref a))) (hH : H a = some (.lst vs)) (l : vs.length ≤ sizeLine) (r : Reps g Z vs xs) :
    StOk g f (upd Z a (.lst vs)) H σ (env.set i (.v (.lst xs))) ∧ Rep g (upd Z a (.lst vs)) (.ref a) (.lst xs) ∧ Same Z (upd Z a (.lst vs)) := by
  have hm := st.muts (a := a) ⟨i, _, e, rfl, s⟩
  have hi : i < env.length := (List.getElem?_eq_some_iff.mp e).1
  have zz : Same Z (upd Z a (.lst vs)) := same_upd hm.1
  have rp : Rep g (upd Z a (.lst vs)) (.ref a) (.lst xs) := .lst (.inl (.inl upd_same)) l (r.mono zz)
  refine ⟨⟨st.z0.trans zz, fun b u q => ?_, st.fr, fun b o q m z => ?_, st.pr, st.mh, by rw [List.length_set]; exact st.ln, fun j c ej => ?_, fun j k x y b ej ek mx my sj sk => ?_⟩, rp, zz⟩
  · by_cases hb : b = a
    · subst hb; rw [upd_same] at q; cases q; exact hH
    · rw [upd_ne hb] at q; exact st.zh _ _ q
  · have : b ≠ a := fun z => by
      subst z
      rcases hm.2.2 with z | z
      · rw [z] at q; cases q
      · exact m z
    rw [upd_ne this]; exact st.nz b o q m z
  · by_cases hj : i = j
    · subst hj
      rw [List.getElem?_set_self hi] at ej
      cases ej
      exact ⟨.ref a, s, rp⟩
    · rw [List.getElem?_set_ne hj] at ej
      have q := st.sl j c ej
      cases c with
      | un => trivial
      | v x => obtain ⟨v, e1, r1⟩ := q; exact ⟨v, e1, r1.mono zz⟩
      | m own' zs =>
        obtain ⟨b, ws, e1, e2, e3, l', r', e4⟩ := q
        have : b ≠ a := fun z => by subst z; exact hj (st.sep i j _ _ b e ej rfl rfl s e1)
        exact ⟨b, ws, e1, by rw [upd_ne this]; exact e2, e3, l', r'.mono zz, e4⟩
      | d own' ks ws =>
        obtain ⟨b, kvs, e1, e2, e3, l', hk, ho, r', e4⟩ := q
        have : b ≠ a := fun z => by subst z; exact hj (st.sep i j _ _ b e ej rfl rfl s e1)
        exact ⟨b, kvs, e1, by rw [upd_ne this]; exact e2, e3, l', hk, ho, r'.mono zz, e4⟩
      | o own' c ns ws =>
        obtain ⟨b, fs, e1, e2, ⟨C, dx, e3, hc⟩, hk, r', e4⟩ := q
        have : b ≠ a := fun z => by subst z; exact hj (st.sep i j _ _ b e ej rfl rfl s e1)
        exact ⟨b, fs, e1, by rw [upd_ne this]; exact e2, ⟨C, dx, e3, hc⟩, hk, r'.mono zz, e4⟩
  · have back : ∀ {j : Nat} {x : Cell}, (env.set i (.v (.lst xs)))[j]? = some x → x.mut = true → ∃ x', env[j]? = some x' ∧ x'.mut = true := fun {j x} ej mx => by
      by_cases hj : i = j
      · subst hj; exact ⟨_, e, rfl⟩
      · rw [List.getElem?_set_ne hj] at ej; exact ⟨x, ej, mx⟩
    obtain ⟨x', e1, m1⟩ := back ej mx
    obtain ⟨y', e2, m2⟩ := back ek my
    exact st.sep j k x' y' b e1 e2 m1 m2 sj sk
/-- the frame holds one more thing: what stands at D, outside of the frozen part and of all cells -/
def Frm.plus (f : Frm) (D : Addr) (o : HO) : Frm := ⟨f.Z, upd f.H D o, f.M⟩
theorem StOk.plus (st : StOk g f Z H σ env) {D : Addr} {o : HO} (n : f.H D = none) (hD : H D = some o) (zD : Z D = none) (nm : ¬ Muts σ env D) : StOk g (f.plus D o) Z H σ env where
  z0 := st.z0
  zh := st.zh
  fr := fun a u e m => by
    by_cases ha : a = D
    · subst ha; rw [show (f.plus a o).H a = some o from upd_same] at e; cases e; exact hD
    · rw [show (f.plus D o).H a = f.H a from upd_ne ha] at e; exact st.fr a u e m
  nz := fun a u e m z => by
    by_cases ha : a = D
    · subst ha; exact zD
    · rw [show (f.plus D o).H a = f.H a from upd_ne ha] at e; exact st.nz a u e m z
  pr := fun a u e => by
    by_cases ha : a = D
    · subst ha; exact ⟨_, hD⟩
    · rw [show (f.plus D o).H a = f.H a from upd_ne ha] at e; exact st.pr a u e
  mh := fun a m => by
    by_cases ha : a = D
    · subst ha; exact ⟨_, upd_same⟩
    · obtain ⟨u, e⟩ := st.mh a m; exact ⟨u, (upd_ne ha).trans e⟩
  ln := st.ln
  sl := fun i c e => by
    have q := st.sl i c e
    have ow : ∀ {own : Bool} {b : Addr}, b ≠ D → OwnM f own b → OwnM (f.plus D o) own b := fun {own b} hb h => by
      cases own with
      | true => exact (upd_ne hb).trans h
      | false => exact h
    cases c with
    | un => trivial
    | v x => exact q
    | m own xs =>
      obtain ⟨b, vs, e1, e2, e3, l, r, e4⟩ := q
      exact ⟨b, vs, e1, e2, e3, l, r, ow (fun z => by subst z; exact nm ⟨i, _, e, rfl, e1⟩) e4⟩
    | d own ks vs =>
      obtain ⟨b, kvs, e1, e2, e3, l, hk, ho, r, e4⟩ := q
      exact ⟨b, kvs, e1, e2, e3, l, hk, ho, r, ow (fun z => by subst z; exact nm ⟨i, _, e, rfl, e1⟩) e4⟩
    | o own c ns vs =>
      obtain ⟨b, fs, e1, e2, e3, hk, r, e4⟩ := q
      exact ⟨b, fs, e1, e2, e3, hk, r, ow (fun z => by subst z; exact nm ⟨i, _, e, rfl, e1⟩) e4⟩
  sep := st.sep
theorem StOk.minus {D : Addr} {o : HO} {env' : Cells} {σ' : L2.St} (mh : ∀ a, f.M a → ∃ o, f.H a = some o) (fZ : f.Z D = none) (st' : StOk g (f.plus D o) Z' H' σ' env') (n : f.H D = none) : StOk g f Z' H' σ' env' ∧ H' D = some o ∧ Z' D = none ∧ ¬ Muts σ' env' D := by
  have nM : ¬ f.M D := fun m => by obtain ⟨u, e⟩ := mh D m; rw [n] at e; cases e
  have ne : ∀ {a u}, f.H a = some u → a ≠ D := fun {a u} e z => by subst z; rw [n] at e; cases e
  have zD : Z' D = none := st'.nz D o upd_same nM fZ
  have hD : H' D = some o := st'.fr D o upd_same nM
  refine ⟨⟨st'.z0, st'.zh, fun a u e m => st'.fr a u ((upd_ne (ne e)).trans e) m, fun a u e m z => st'.nz a u ((upd_ne (ne e)).trans e) m z, fun a u e => st'.pr a u ((upd_ne (ne e)).trans e), mh, st'.ln, fun i c e => ?_, st'.sep⟩, hD, zD, fun m => ?_⟩
  · have q := st'.sl i c e
    have ow : ∀ {own : Bool} {b : Addr}, OwnM (f.plus D o) own b → OwnM f own b := fun {own b} h => by
      cases own with
      | true =>
        have h : upd f.H D o b = none := h
        by_cases hb : b = D
        · subst hb; exact n
        · exact (upd_ne hb).symm.trans h
      | false => exact h
    cases c with
    | un => trivial
    | v x => exact q
    | m own xs => obtain ⟨b, vs, e1, e2, e3, l, r, e4⟩ := q; exact ⟨b, vs, e1, e2, e3, l, r, ow e4⟩
    | d own ks vs => obtain ⟨b, kvs, e1, e2, e3, l, hk, ho, r, e4⟩ := q; exact ⟨b, kvs, e1, e2, e3, l, hk, ho, r, ow e4⟩
    | o own c ns vs => obtain ⟨b, fs, e1, e2, e3, hk, r, e4⟩ := q; exact ⟨b, fs, e1, e2, e3, hk, r, ow e4⟩
  · rcases (st'.muts m).2.2 with z | z
    · rw [show (f.plus D o).H D = some o from upd_same] at z; cases z
    · exact nM z
end
end Pu
set_option Elab.async false
set_option linter.all false
set_option maxRecDepth 100000
set_option maxHeartbeats 4000000
/-! Pu, part B: what an expression yields by data alone; the first rules. -/
namespace Pu
open PySem L2

/-- room, and no repr under way -/
structure RoomG (k : Nat) (A : Around) : Prop extends Room k A where
  gd : A.guards = some []
theorem RoomG.mono {j k : Nat} {A : Around} (r : RoomG k A) (h : j ≤ k) : RoomG j A := ⟨r.toRoom.mono h, r.gd⟩
theorem RoomG.deeper {k : Nat} {A : Around} (r : RoomG (k + 1) A) (env : PySem.Env) : RoomG k (A.deeper env) := ⟨r.toRoom.deeper env, r.gd⟩

inductive Out (α : Type) where
  | ok (a : α) (e : Cells) | ex (c : Exn) (e : Cells)
abbrev Den (α : Type) := Cells → Option (Out α)
def Den.bind {α β : Type} (d : Den α) (k : α → Den β) : Den β := fun e => match d e with
  | none => none
  | some (.ex c e') => some (.ex c e')
  | some (.ok a e') => k a e'
def Den.lift {α : Type} (o : Option α) : Den α := fun e => match o with
  | none => none
  | some a => some (.ok a e)
def Den.ret {α : Type} (a : α) : Den α := fun e => some (.ok a e)

def ExRep (g : G) (c : Exn) (cls : Value) (dd : Option Addr) (Z H : Hp) : Prop :=
  ∃ C, g.mg c.c = some (.ref C) ∧ cls = .ref C ∧ ((c.ns = [] ∧ c.vs = [] ∧ dd = none) ∨ ∃ d fs, c.ns ≠ [] ∧ dd = some d ∧ H d = some (.xd fs) ∧ fs.map (·.1) = c.ns ∧ Reps g Z (fs.map (·.2)) c.vs)

section
variable {α β : Type}
def Post (g : G) (W : WX) (f : Frm) (Z : Hp) (σ : L2.St) (R : Hp → Hp → Cells → β → α → Prop) (Q : β → Hp → Prop) : Out α → Prop
  | .ok a e => ∀ b Z' H', Same Z Z' → StOk g f Z' H' σ e → R Z' H' e b a → Q b H'
  | .ex c e => ∀ cls dd Z' H', Same Z Z' → StOk g f Z' H' σ e → ExRep g c cls dd Z' H' → W cls dd σ H'
structure At (g : G) (W : WX) (f : Frm) (Z : Hp) (env : Cells) (d : Den α) (R : Hp → Hp → Cells → β → α → Prop) (Q : β → Hp → Prop) (σ : L2.St) (H : Hp) : Prop where
  st : StOk g f Z H σ env
  to : ∃ o, d env = some o ∧ Post g W f Z σ R Q o
end

abbrev RV (g : G) : Hp → Hp → Cells → V → PV → Prop := fun Z _ _ v x => Rep g Z v x
abbrev RVs (g : G) : Hp → Hp → Cells → List V → List PV → Prop := fun Z _ _ v x => Reps g Z v x
def tP (g : G) (W : WX) (d : Den PV) : TE := fun σ H Q => ∃ f Z env, At g W f Z env d (RV g) Q σ H
def tPs (g : G) (W : WX) (d : Den (List PV)) : TA := fun σ H Q => ∃ f Z env, At g W f Z env d (RVs g) Q σ H
abbrev PX (X : Cx) (W : WX) (e : Expr) (d : Den PV) : Prop := PE X e (tP (gOf X) W d)
abbrev PTX (X : Cx) (W : WX) (e : Expr) (d : Den PV) : Prop := PT X e (tB (tP (gOf X) W d))
abbrev PWX (X : Cx) (W : WX) (e : Expr) (d : Den PV) : Prop := PW X e (tB (tP (gOf X) W d))
abbrev PAX (X : Cx) (W : WX) (es : List Expr) (d : Den (List PV)) : Prop := PA X es (tPs (gOf X) W d)

section
variable {α β γ δ : Type} {g : G} {W : WX} {f : Frm} {Z H : Hp} {σ : L2.St} {env : Cells}
theorem Post.imp {R R' : Hp → Hp → Cells → β → α → Prop} {Q Q' : β → Hp → Prop} {o : Out α} {Z1 : Hp} (p : Post g W f Z σ R Q o) (s : Same Z Z1) (hr : ∀ Z' H' e b a, R' Z' H' e b a → R Z' H' e b a) (h : ∀ b H', Q b H' → Q' b H') : Post g W f Z1 σ R' Q' o := by
  cases o with
  | ok a e => exact fun b Z' H' s' st r => h _ _ (p b Z' H' (s.trans s') st (hr _ _ _ _ _ r))
  | ex c e => exact fun cls dd Z' H' s' st r => p cls dd Z' H' (s.trans s') st r
theorem At.imp {d : Den α} {R : Hp → Hp → Cells → β → α → Prop} {Q Q' : β → Hp → Prop} (h : At g W f Z env d R Q σ H) (hq : ∀ b H', Q b H' → Q' b H') : At g W f Z env d R Q' σ H :=
  ⟨h.st, let ⟨o, e, p⟩ := h.to; ⟨o, e, p.imp (Same.refl _) (fun _ _ _ _ _ r => r) hq⟩⟩
/-- what comes first; what follows stands at its end -/
theorem At.bind {d : Den α} {k : α → Den γ} {R : Hp → Hp → Cells → β → α → Prop} {R2 : Hp → Hp → Cells → δ → γ → Prop} {Q : δ → Hp → Prop} (h : At g W f Z env (d.bind k) R2 Q σ H) :
    At g W f Z env d R (fun b H1 => ∃ Z1 env1 a, Same Z Z1 ∧ R Z1 H1 env1 b a ∧ At g W f Z1 env1 (k a) R2 Q σ H1) σ H := by
  obtain ⟨st, o, e, p⟩ := h
  refine ⟨st, ?_⟩
  unfold Den.bind at e
  cases hd : d env with
  | none => rw [hd] at e; cases e
  | some o1 =>
    rw [hd] at e
    cases o1 with
    | ex c e1 =>
      have e : some (Out.ex c e1) = some o := e
      cases e
      exact ⟨_, rfl, p⟩
    | ok a e1 =>
      have e : k a e1 = some o := e
      exact ⟨_, rfl, fun b Z1 H1 s1 st1 r1 => ⟨Z1, e1, a, s1, r1, st1, o, e, p.imp s1 (fun _ _ _ _ _ r => r) fun _ _ q => q⟩⟩
theorem At.lift {o : Option α} {R : Hp → Hp → Cells → β → α → Prop} {Q : β → Hp → Prop} (h : At g W f Z env (Den.lift o) R Q σ H) :
    ∃ a, o = some a ∧ ∀ b Z' H', Same Z Z' → StOk g f Z' H' σ env → R Z' H' env b a → Q b H' := by
  obtain ⟨st, o', e, p⟩ := h
  cases o with
  | none => cases e
  | some a => cases e; exact ⟨a, rfl, p⟩
theorem At.ret {a : α} {R : Hp → Hp → Cells → β → α → Prop} {Q : β → Hp → Prop} (h : At g W f Z env (Den.ret a) R Q σ H) :
    ∀ b Z' H', Same Z Z' → StOk g f Z' H' σ env → R Z' H' env b a → Q b H' := by
  obtain ⟨st, o', e, p⟩ := h
  cases e
  exact p
theorem At.here {d : Den PV} {Q : VK} (h : At g W f Z env d (RV g) Q σ H) : tP g W d σ H Q := ⟨f, Z, env, h⟩
theorem At.heres {d : Den (List PV)} {Q : List V → Hp → Prop} (h : At g W f Z env d (RVs g) Q σ H) : tPs g W d σ H Q := ⟨f, Z, env, h⟩
end

/-- a weaker reading -/
theorem peimp {X : Cx} {e : Expr} {t t' : TE} (h : PE X e t) (w : ∀ σ H Q, t' σ H Q → t σ H Q) : PE X e t' := ⟨fun pins s σ H Q I q => h.run pins s σ H Q I (w σ H Q q)⟩
theorem ptimp {X : Cx} {e : Expr} {t t' : TT} (h : PT X e t) (w : ∀ σ H Q, t' σ H Q → t σ H Q) : PT X e t' := ⟨fun pins s σ H Q I q => h.run pins s σ H Q I (w σ H Q q)⟩
theorem pwimp {X : Cx} {e : Expr} {t t' : TT} (h : PW X e t) (w : ∀ σ H Q, t' σ H Q → t σ H Q) : PW X e t' := ⟨fun wh pins s σ H Q I q => h.run wh pins s σ H Q I (w σ H Q q)⟩
theorem paimp {X : Cx} {e : List Expr} {t t' : TA} (h : PA X e t) (w : ∀ σ H Q, t' σ H Q → t σ H Q) : PA X e t' := ⟨fun p pins s σ H Q I q => h.run p pins s σ H Q I (w σ H Q q)⟩
theorem psimp {X : Cx} {st : Stmt} {t t' : TS} (h : PS X st t) (w : ∀ D σ H, t' D σ H → t D σ H) : PS X st t' := ⟨fun pins s σ H D I q => h.run pins s σ H D I (w D σ H q)⟩
theorem pssimp {X : Cx} {st : List Stmt} {t t' : TS} (h : PSs X st t) (w : ∀ D σ H, t' D σ H → t D σ H) : PSs X st t' := ⟨fun pins s σ H D I q => h.run pins s σ H D I (w D σ H q)⟩
theorem piimp {X : Cx} {tg it : Expr} {t t' : TI} (h : PI X tg it t) (w : ∀ σ H R, t' σ H R → t σ H R) : PI X tg it t' := ⟨fun pins s σ H R I q => h.run pins s σ H R I (w σ H R q)⟩

/-! ### names and constants -/
def dVar (i : Nat) : Den PV := fun e => match e[i]? with
  | some (.v x) => some (.ok x e)
  | _ => none
section
variable {X : Cx} {W : WX}
theorem px_var {i : Nat} {x : Str} {pos : Pos} (h : PE X (.Name x pos) (tVar i)) : PX X W (.Name x pos) (dVar i) := peimp h fun σ H Q ⟨f, Z, env, st, o, e, p⟩ => by
  unfold dVar at e
  split at e
  · rename_i x hx
    cases e
    obtain ⟨v, e1, r⟩ := st.sl i _ hx
    exact ⟨v, e1, p v Z H (Same.refl _) st r⟩
  · cases e
theorem px_c {e : Expr} {v : V} {x : PV} (h : PE X e (tC v)) (r : ∀ Z, Rep (gOf X) Z v x) : PX X W e (Den.ret x) := peimp h fun σ H Q ⟨f, Z, env, a⟩ => a.ret v Z H (Same.refl _) a.st (r Z)
theorem px_int {i j pos} : PX X W (.Constant (.int i) j pos) (Den.ret (.int i)) := px_c pe_int fun _ => .int _
theorem px_bl {b j pos} : PX X W (.Constant (.bool b) j pos) (Den.ret (.bl b)) := px_c pe_bl fun _ => .bl _
theorem px_non {j pos} : PX X W (.Constant .none j pos) (Den.ret .non) := px_c pe_non fun _ => .non
theorem px_str {x j pos} (h : PyData.strOk x = true := by decide +kernel) : PX X W (.Constant (.str x) j pos) (Den.ret (.str x)) := px_c pe_str fun _ => .str _ h

/-! ### operators -/
/-- what an operator yields of two data: nothing new is laid -/
def OpP (g : G) (r : R2) (q : PV → PV → Option PV) : Prop := ∀ (Z H : Hp) (u w : V) (x y v : PV) (Q : VK), Same Z H → Rep g Z u x → Rep g Z w y → q x y = some v → (∀ z, Rep g Z z v → Q z H) → r u w H Q
def dOp (q : PV → PV → Option PV) (da db : Den PV) : Den PV := da.bind fun x => db.bind fun y => Den.lift (q x y)
variable {a b : Expr} {da db : Den PV} {pos : Pos} {r : R2} {q : PV → PV → Option PV}
theorem t_op (hp : OpP (gOf X) r q) {σ : L2.St} {H : Hp} {Q : VK} (h : tP (gOf X) W (dOp q da db) σ H Q) : tOp r (tP (gOf X) W da) (tP (gOf X) W db) σ H Q := by
  obtain ⟨f, Z, env, a⟩ := h
  refine (a.bind.imp fun u H1 ⟨Z1, env1, x, s1, r1, a1⟩ => ?_).here
  refine (a1.bind.imp fun w H2 ⟨Z2, env2, y, s2, r2, a2⟩ => ?_).here
  obtain ⟨v, e, k⟩ := a2.lift
  exact hp Z2 H2 u w x y v Q a2.st.zh (r1.mono s2) r2 e fun z rz => k z Z2 H2 (Same.refl _) a2.st rz
theorem px_op {op : Operator} (ho : OpR X (binaryOp op) r) (hp : OpP (gOf X) r q) (ha : PX X W a da) (hb : PX X W b db) : PX X W (.BinOp a op b pos) (dOp q da db) := peimp (pe_op ho ha hb) fun _ _ _ h => t_op hp h
def qI (k : Int → Int → Option Int) : PV → PV → Option PV
  | .int i, .int j => (k i j).map .int
  | _, _ => none
theorem opP_I {g : G} {C : Int → Int → Prop} {k : Int → Int → Int} {k' : Int → Int → Option Int} (h : ∀ i j v, k' i j = some v → C i j ∧ v = k i j) : OpP g (rI C fun i j => .int (k i j)) (qI k') := fun Z H u w x y v Q _ r1 r2 e hq => by
  unfold qI at e
  split at e
  · cases r1
    cases r2
    rename_i i j
    cases hk : k' i j with
    | none => rw [hk] at e; cases e
    | some n =>
      rw [hk] at e
      cases e
      obtain ⟨c, rfl⟩ := h i j n hk
      exact ⟨i, j, rfl, rfl, c, hq _ (.int _)⟩
  · cases e
theorem opP_I0 {g : G} {k : Int → Int → Int} : OpP g (rI0 fun i j => .int (k i j)) (qI fun i j => some (k i j)) := fun Z H u w x y v Q _ r1 r2 e hq => by
  unfold qI at e
  split at e
  · cases r1
    cases r2
    cases e
    exact ⟨_, _, rfl, rfl, hq _ (.int _)⟩
  · cases e
abbrev qAdd := qI fun i j => some (i + j)
abbrev qSub := qI fun i j => some (i - j)
abbrev qMul := qI fun i j => if (-(2 ^ 64) < i ∧ i < 2 ^ 64) ∨ (-(2 ^ 64) < j ∧ j < 2 ^ 64) then some (i * j) else none
abbrev qDiv := qI fun i j => if 0 < j ∧ j < 1073741824 then some (i / j) else none
abbrev qMod := qI fun i j => if 0 < j then some (i % j) else none
abbrev qShl := qI fun i j => if 0 ≤ j ∧ j ≤ 1000000 ∧ i.natAbs < 2 ^ 64 then some (i * 2 ^ j.toNat) else none
abbrev qShr := qI fun i j => if 0 ≤ j then some (i / 2 ^ j.toNat) else none
abbrev qPow := qI fun i j => if 0 ≤ j ∧ j ≤ 1000000 ∧ i.natAbs < 2 ^ 64 then some (i ^ j.toNat) else none
abbrev qAnd := qI fun i j => some (Builtin.bitAnd i j)
abbrev qOr := qI fun i j => some (Builtin.bitOr i j)
abbrev qXor := qI fun i j => some (Builtin.bitXor i j)
theorem of_ite {α : Type} {c : Prop} [Decidable c] {x v : α} (h : (if c then some x else none) = some v) : c ∧ v = x := by
  split at h
  · cases h; exact ⟨by assumption, rfl⟩
  · cases h
theorem px_addI (ha : PX X W a da) (hb : PX X W b db) : PX X W (.BinOp a .Add b pos) (dOp qAdd da db) := px_op op_add opP_I0 ha hb
theorem px_sub (ha : PX X W a da) (hb : PX X W b db) : PX X W (.BinOp a .Sub b pos) (dOp qSub da db) := px_op op_sub opP_I0 ha hb
theorem px_mul (ha : PX X W a da) (hb : PX X W b db) : PX X W (.BinOp a .Mult b pos) (dOp qMul da db) := px_op op_mul (opP_I fun _ _ _ h => by have q := of_ite h; exact ⟨q.1, q.2⟩) ha hb
theorem px_div (ha : PX X W a da) (hb : PX X W b db) : PX X W (.BinOp a .FloorDiv b pos) (dOp qDiv da db) := px_op op_fdiv (opP_I fun _ _ _ h => by have q := of_ite h; exact ⟨q.1, q.2⟩) ha hb
theorem px_mod (ha : PX X W a da) (hb : PX X W b db) : PX X W (.BinOp a .Mod b pos) (dOp qMod da db) := px_op op_mod (opP_I fun _ _ _ h => by have q := of_ite h; exact ⟨q.1, q.2⟩) ha hb
theorem px_shl (ha : PX X W a da) (hb : PX X W b db) : PX X W (.BinOp a .LShift b pos) (dOp qShl da db) := px_op op_shl (opP_I fun _ _ _ h => by have q := of_ite h; exact ⟨q.1, q.2⟩) ha hb
theorem px_shr (ha : PX X W a da) (hb : PX X W b db) : PX X W (.BinOp a .RShift b pos) (dOp qShr da db) := px_op op_shr (opP_I fun _ _ _ h => by have q := of_ite h; exact ⟨q.1, q.2⟩) ha hb
theorem px_pow (ha : PX X W a da) (hb : PX X W b db) : PX X W (.BinOp a .Pow b pos) (dOp qPow da db) := px_op op_pow (opP_I fun _ _ _ h => by have q := of_ite h; exact ⟨q.1, q.2⟩) ha hb
theorem px_band (ha : PX X W a da) (hb : PX X W b db) : PX X W (.BinOp a .BitAnd b pos) (dOp qAnd da db) := px_op op_and opP_I0 ha hb
theorem px_bor (ha : PX X W a da) (hb : PX X W b db) : PX X W (.BinOp a .BitOr b pos) (dOp qOr da db) := px_op op_or opP_I0 ha hb
theorem px_bxor (ha : PX X W a da) (hb : PX X W b db) : PX X W (.BinOp a .BitXor b pos) (dOp qXor da db) := px_op op_xor opP_I0 ha hb
def qNeg : PV → Option PV
  | .int i => some (.int (-i))
  | _ => none
def dUn (q : PV → Option PV) (da : Den PV) : Den PV := da.bind fun x => Den.lift (q x)
theorem px_neg (ha : PX X W a da) : PX X W (.UnaryOp .USub a pos) (dUn qNeg da) := peimp (pe_un un_neg ha) fun σ H Q ⟨f, Z, env, a⟩ => by
  refine (a.bind.imp fun u H1 ⟨Z1, env1, x, s1, r1, a1⟩ => ?_).here
  obtain ⟨v, e, k⟩ := a1.lift
  cases x with
  | int i => cases e; cases r1; exact ⟨i, rfl, k _ Z1 H1 (Same.refl _) a1.st (.int _)⟩
  | _ => cases e
end

/-! ### equal data -/
mutual
def PV.toD : PV → PyData
  | .non => .none
  | .bl b => .bool b
  | .int i => .int i
  | .str s => .str s
  | .tup xs => .tuple (PV.toDs xs)
  | .ktup xs => .tuple (PV.toDs xs)
  | .lst xs => .list (PV.toDs xs)
  | .dic _ _ => .dict []
  | .ins _ _ _ => .dict []
def PV.toDs : List PV → List PyData
  | [] => []
  | x :: xs => x.toD :: PV.toDs xs
end
mutual
/-- no dict, no instance within -/
def PV.plain : PV → Bool
  | .tup xs => PV.plains xs
  | .ktup xs => PV.plains xs
  | .lst xs => PV.plains xs
  | .dic _ _ => false
  | .ins _ _ _ => false
  | _ => true
def PV.plains : List PV → Bool
  | [] => true
  | x :: xs => x.plain && PV.plains xs
end
mutual
def PV.depth : PV → Nat
  | .tup xs => PV.depths xs + 1
  | .ktup xs => PV.depths xs + 1
  | .lst xs => PV.depths xs + 1
  | _ => 0
def PV.depths : List PV → Nat
  | [] => 0
  | x :: xs => max x.depth (PV.depths xs)
end
/-- fit for a comparison -/
def PV.fit (x : PV) : Bool := x.plain && decide (x.depth ≤ 190)
abbrev pvEq (x y : PV) : Bool := PyData.eqv x.toD y.toD
mutual
theorem toD_depth : ∀ x : PV, x.plain = true → x.toD.depth = x.depth
  | .non, _ => rfl
  | .bl _, _ => rfl
  | .int _, _ => rfl
  | .str _, _ => rfl
  | .tup xs, h => by
    show PyData.depthAll (PV.toDs xs) + 1 = PV.depths xs + 1
    rw [toDs_depth xs h]
  | .ktup xs, h => by
    show PyData.depthAll (PV.toDs xs) + 1 = PV.depths xs + 1
    rw [toDs_depth xs h]
  | .lst xs, h => by
    show PyData.depthAll (PV.toDs xs) + 1 = PV.depths xs + 1
    rw [toDs_depth xs h]
  | .dic _ _, h => by cases h
  | .ins _ _ _, h => by cases h
theorem toDs_depth : ∀ xs : List PV, PV.plains xs = true → PyData.depthAll (PV.toDs xs) = PV.depths xs
  | [], _ => rfl
  | x :: xs, h => by
    have h := Bool.and_eq_true_iff.mp (show (x.plain && PV.plains xs) = true from h)
    show max x.toD.depth (PyData.depthAll (PV.toDs xs)) = max x.depth (PV.depths xs)
    rw [toD_depth x h.1, toDs_depth xs h.2]
end
section
variable {K : PySem.W.Frag} {g : G} {Z H : Hp}
mutual
theorem Rep.dp (e : Same Z H) : ∀ {x : PV} {v : V}, x.plain = true → Rep g Z v x → Dp g.K H v x.toD ∧ x.toD.canLay0 = true
  | .non, _, _, h => by cases h; exact ⟨.non, rfl⟩
  | .bl _, _, _, h => by cases h; exact ⟨.bl _, rfl⟩
  | .int _, _, _, h => by cases h; exact ⟨.int _, rfl⟩
  | .str _, _, _, h => by cases h with | str _ q => exact ⟨.str _, q⟩
  | .tup _, _, p, h => by cases h with | tup h l r => exact ⟨.tup (Same.sqt e h.sqt) (Reps.dp e p r).1, (Reps.dp e p r).2⟩
  | .ktup _, _, p, h => by cases h with | ktup h l r => exact ⟨.tup (.inl (.inl (e _ _ h))) (Reps.dp e p r).1, (Reps.dp e p r).2⟩
  | .lst _, _, p, h => by cases h with | lst h l r => exact ⟨.lst (Same.sql e h) (Reps.dp e p r).1, (Reps.dp e p r).2⟩
  | .dic _ _, _, p, h => by cases p
  | .ins _ _ _, _, p, h => by cases p
theorem Reps.dp (e : Same Z H) : ∀ {xs : List PV} {vs : List V}, PV.plains xs = true → Reps g Z vs xs → DpAll g.K H vs (PV.toDs xs) ∧ PyData.canLayAll0 (PV.toDs xs) = true
  | [], _, _, h => by cases h; exact ⟨.nil, rfl⟩
  | x :: xs, _, p, h => by
    have p := Bool.and_eq_true_iff.mp (show (x.plain && PV.plains xs) = true from p)
    cases h with
    | cons a b =>
      have h1 := Rep.dp e p.1 a
      have h2 := Reps.dp e p.2 b
      exact ⟨.cons h1.1 h2.1, Bool.and_eq_true_iff.mpr ⟨h1.2, h2.2⟩⟩
end
end
section
variable {X : Cx} {W : WX} {a b c : Expr} {da db dc : Den PV} {pos : Pos} {r : R2} {q : PV → PV → Option PV} {k : Nat}
/-- data under a comparison -/
def rDD (K : PySem.W.Frag) (n : Nat) (F : PyData → PyData → Bool) : R2 := fun x y H Q => ∃ d e, Dp K H x d ∧ Dp K H y e ∧ d.canLay0 = true ∧ e.canLay0 = true ∧ d.depth ≤ n ∧ e.depth ≤ n ∧ Q (.bl (F d e)) H
theorem op_eqP (hr : RoomG k X.A) : OpR X (compareOp .Eq) (rDD X.K 190 PyData.eqv) := by
  intro pins s σ H x y v u Q I rx ry h
  obtain ⟨d, e, hd, he, sd, se, l1, l2, q⟩ := h
  obtain ⟨as, r1⟩ := Dp.reads I d x v hd rx
  obtain ⟨bs, r2⟩ := Dp.reads I e y u he ry
  exact SeqAt.compareEq_reads r1 r2 sd se (by have := hr.un; have : min d.depth e.depth ≤ d.depth := Nat.min_le_left _ _; omega) ⟨.bl _, H, I, rfl, q⟩
theorem op_neP (hr : RoomG k X.A) : OpR X (compareOp .NotEq) (rDD X.K 190 fun d e => !PyData.eqv d e) := by
  intro pins s σ H x y v u Q I rx ry h
  obtain ⟨d, e, hd, he, sd, se, l1, l2, q⟩ := h
  obtain ⟨as, r1⟩ := Dp.reads I d x v hd rx
  obtain ⟨bs, r2⟩ := Dp.reads I e y u he ry
  exact SeqAt.compareNe_reads r1 r2 sd se (by have := hr.un; have : min d.depth e.depth ≤ d.depth := Nat.min_le_left _ _; omega) ⟨.bl _, H, I, rfl, q⟩
def qEq : PV → PV → Option PV := fun x y => if x.fit = true ∧ y.fit = true then some (.bl (pvEq x y)) else none
def qNe : PV → PV → Option PV := fun x y => if x.fit = true ∧ y.fit = true then some (.bl (!pvEq x y)) else none
theorem opP_DD {g : G} {F : PyData → PyData → Bool} : OpP g (rDD g.K 190 F) (fun x y => if x.fit = true ∧ y.fit = true then some (.bl (F x.toD y.toD)) else none) := fun Z H u w x y v Q s r1 r2 e hq => by
  obtain ⟨⟨f1, f2⟩, rfl⟩ := of_ite e
  obtain ⟨p1, l1⟩ := Bool.and_eq_true_iff.mp f1
  obtain ⟨p2, l2⟩ := Bool.and_eq_true_iff.mp f2
  obtain ⟨d1, c1⟩ := r1.dp s p1
  obtain ⟨d2, c2⟩ := r2.dp s p2
  exact ⟨_, _, d1, d2, c1, c2, by rw [toD_depth x p1]; exact of_decide_eq_true l1, by rw [toD_depth y p2]; exact of_decide_eq_true l2, hq _ (.bl _)⟩
theorem pe_cmpRx {op : CmpOp} {ta tb : TE} (ho : OpR X (compareOp op) r) (ha : PE X a ta) (hb : PE X b tb) (hm : behindInMarks op b = false) : PE X (.Compare a [op] [b] pos) (tOp r ta tb) := pe_cmpR ho ha hb hm
theorem px_cmp {op : CmpOp} (ho : OpR X (compareOp op) r) (hp : OpP (gOf X) r q) (ha : PX X W a da) (hb : PX X W b db) (hm : behindInMarks op b = false) : PX X W (.Compare a [op] [b] pos) (dOp q da db) := peimp (pe_cmpR ho ha hb hm) fun _ _ _ h => t_op hp h
/-- as a test -/
theorem tB_imp {t t' : TE} {σ : L2.St} {H : Hp} {Q : Bool → Hp → Prop} (w : ∀ Q, t' σ H Q → t σ H Q) (h : tB t' σ H Q) : tB t σ H Q := w _ h
theorem ptx_cmp {op : CmpOp} (ho : OpR X (compareOp op) r) (hp : OpP (gOf X) r q) (ha : PX X W a da) (hb : PX X W b db) (hm : behindInMarks op b = false) : PTX X W (.Compare a [op] [b] pos) (dOp q da db) :=
  ptimp (pt_cmpR ho ha hb hm) fun _ _ _ h => tB_imp (fun _ h => t_op hp h) h
theorem px_eq (hr : RoomG k X.A) (ha : PX X W a da) (hb : PX X W b db) : PX X W (.Compare a [.Eq] [b] pos) (dOp qEq da db) := px_cmp (op_eqP hr) opP_DD ha hb (nomark _)
theorem px_ne (hr : RoomG k X.A) (ha : PX X W a da) (hb : PX X W b db) : PX X W (.Compare a [.NotEq] [b] pos) (dOp qNe da db) := px_cmp (op_neP hr) opP_DD ha hb (nomark _)
theorem ptx_eq (hr : RoomG k X.A) (ha : PX X W a da) (hb : PX X W b db) : PTX X W (.Compare a [.Eq] [b] pos) (dOp qEq da db) := ptx_cmp (op_eqP hr) opP_DD ha hb (nomark _)
theorem ptx_ne (hr : RoomG k X.A) (ha : PX X W a da) (hb : PX X W b db) : PTX X W (.Compare a [.NotEq] [b] pos) (dOp qNe da db) := ptx_cmp (op_neP hr) opP_DD ha hb (nomark _)
end
end Pu
set_option Elab.async false
set_option linter.all false
set_option maxRecDepth 100000
set_option maxHeartbeats 4000000
/-! Pu, part C: tuples whose object is known; displays, items, slices, and, or, not, if. -/
namespace Pu
open PySem PySem.Spec PyProof.Rows L2

/-! ### tuples, laid as known objects -/
section
variable {X : Cx} {pins : List (Addr × Obj)} {σ : L2.St} {H : Hp} {s : Shared}
/-- a new tuple's object -/
theorem lay_tup {xs : List V} {us : List Value} {t' : Nat} (I : Inv X pins σ H s) (z : xs.length ≤ sizeLine) (r : Vals xs us) {Q : VK} (q : ∀ p o, H p = none → o.dict = none → Q (.ref p) (upd H p (.frz o (.tup xs)))) :
    EP X pins σ Q (.ref s.heap.objs.size) { s with heap := s.heap.push { cls := .type "tuple", data := .seq us.toArray }, toks := t' } := by
  have hf : H s.heap.objs.size = none := I.hok.fresh (Nat.le_refl _)
  refine ⟨.ref s.heap.objs.size, upd H s.heap.objs.size (.frz { cls := .type "tuple", data := .seq us.toArray } (.tup xs)), I.laid (t' := t') (fun b u e => Heap.get?_push_of_some _ e) (Nat.le_refl _) ?_, rfl, q _ _ hf rfl⟩
  exact ⟨Heap.get?_push_size _ rfl, z, us, r, ⟨_, Heap.get?_push_size _ rfl, rfl, _, rfl⟩⟩
def tTupF (t : TA) : TE := fun σ H Q => t σ H fun xs H1 => xs.length ≤ sizeLine ∧ ∀ p o, H1 p = none → o.dict = none → Q (.ref p) (upd H1 p (.frz o (.tup xs)))
theorem pe_tupF {es : List Expr} {t : TA} {pos : Pos} {x1} (h : PA X es t) : PE X (.Tuple es x1 pos) (tTupF t) := by
  refine ⟨fun pins s σ H Q I hq => ?_⟩
  refine wpAny_Tuple_spliced (thn (h.run pos pins s σ H _ I hq) fun us s1 ⟨xs, H1, I1, r, z, q⟩ => ⟨by rw [← r.length]; exact z, ?_⟩)
  exact lay_tup (t' := s1.toks) I1 z r q
def rSlF (K : PySem.W.Frag) : V → Option Int → Option Int → Hp → VK → Prop := fun x lo hi H Q => ∃ a xs, x = .ref a ∧ SqT K H a xs ∧
  (HT.sIx xs.length 0 lo = 0 ∧ HT.sIx xs.length xs.length hi = xs.length → Q (.ref a) H) ∧ (¬ (HT.sIx xs.length 0 lo = 0 ∧ HT.sIx xs.length xs.length hi = xs.length) → ∀ p o, H p = none → o.dict = none → Q (.ref p) (upd H p (.frz o (.tup (cutV xs lo hi)))))
theorem sl_tupF : SlR X (rSlF X.K) := by
  intro pins s σ H x v vl vu lo hi sl Q I rx hs pl pu h
  obtain ⟨a, xs, rfl, hx, q1, q2⟩ := h
  cases rx
  obtain ⟨its, r, ht, hz⟩ := I.tuple hx
  have hlen : its.toArray.size = xs.length := by rw [List.size_toArray]; exact r.length.symm
  refine ⟨"tuple", _, PyProof.Rows.slot_tuple_getitem.lookup, ht.typeIs, ?_⟩
  by_cases hw : HT.sIx xs.length 0 lo = 0 ∧ HT.sIx xs.length xs.length hi = xs.length
  · exact getItem_tuple_whole ht hs pl pu (by rw [hlen]; exact hw) ⟨.ref a, H, I, rfl, q1 hw⟩
  · refine HT.getItem_tuple_cut ht hs pl pu (by rw [hlen]; exact hw) ?_ (by rw [hlen]; exact hz)
    rw [hlen]
    exact lay_tup (t' := s.toks) I (Nat.le_trans (cutV_length xs lo hi) hz) ((r.drop (HT.sIx xs.length 0 lo)).take (HT.sIx xs.length xs.length hi - HT.sIx xs.length 0 lo)) (q2 hw)
def rCatF (K : PySem.W.Frag) : R2 := fun x y H Q => ∃ a b xs ys, x = .ref a ∧ y = .ref b ∧ SqT K H a xs ∧ SqT K H b ys ∧ xs.length + ys.length ≤ sizeLine ∧
  (xs = [] → Q (.ref b) H) ∧ (xs ≠ [] → ys = [] → Q (.ref a) H) ∧ (xs ≠ [] → ys ≠ [] → ∀ p o, H p = none → o.dict = none → Q (.ref p) (upd H p (.frz o (.tup (xs ++ ys)))))
theorem op_catF : OpR X (binaryOp .Add) (rCatF X.K) := by
  intro pins s σ H x y v u Q I rx ry h
  obtain ⟨a, b, xs, ys, rfl, rfl, ha, hb, hz, q0, q1, q2⟩ := h
  cases rx
  cases ry
  obtain ⟨its, r1, p1, _⟩ := I.tuple ha
  obtain ⟨its2, r2, p2, _⟩ := I.tuple hb
  by_cases hx : xs = []
  · subst hx
    cases r1
    exact cat_tup0 p1 p2 ⟨.ref b, H, I, rfl, q0 rfl⟩
  · refine HT.cat_tup p1 p2 (fun z => hx (r1.nil_iff.mp z)) (fun z => ⟨.ref a, H, I, rfl, q1 hx (r2.nil_iff.mp z)⟩) (fun z => ?_) (by rw [← r1.length, ← r2.length]; exact hz)
    exact lay_tup (t' := s.toks) I (by rw [List.length_append]; exact hz) (r1.append r2) (q2 hx fun w => z (r2.nil_iff.mpr w))
/-- tuple(list), tuple(tuple) -/
theorem call_tupF : CallR X (.type "tuple") (fun xs H Q => ∃ p ys, xs = [.ref p] ∧ ((SqL X.K H p ys ∧ ∀ l o, H l = none → o.dict = none → Q (.ref l) (upd H l (.frz o (.tup ys)))) ∨ (SqT X.K H p ys ∧ Q (.ref p) H))) := by
  intro pins s σ H xs us Q I r h
  obtain ⟨p, ys, rfl, h⟩ := h
  obtain ⟨u, rfl, rx⟩ := vals1 r
  cases rx
  rcases h with ⟨hq, q⟩ | ⟨hq, q⟩
  · obtain ⟨its, r', pl, hz⟩ := I.list hq
    have hlen := r'.length
    refine call_tuple_list pl.isList (fun h' kp => ?_) (by simp only [List.size_toArray] <;> omega)
    have I1 : Inv X pins σ H { s with heap := h' } := I.kept (t' := s.toks) kp
    exact lay_tup (s := { s with heap := h' }) (t' := s.toks) I1 hz r' q
  · obtain ⟨its, r', pl, hz⟩ := I.tuple hq
    exact call_tuple_same pl ⟨.ref p, H, I, rfl, q⟩
def tTupRgF (te : L2.St → Hp → (Int → Int → Hp → Prop) → Prop) : TE := fun σ H Q => te σ H fun a b H1 => RgOk a b ∧ ∀ q o, H1 q = none → o.dict = none → Q (.ref q) (upd H1 q (.frz o (.tup (rgV a b))))
theorem pe_tupRgF {e : Expr} {te : L2.St → Hp → (Int → Int → Hp → Prop) → Prop} {p pos : Pos} (hc : X.calm = true) (hg : Gl X "tuple") (hm : X.mg "tuple" = none) (he : PRg X e te) (na : starEach [e] X.env = (false, eval e X.env) :: starEach [] X.env := by rfl) : PE X (.Call (.Name "tuple" p) [e] [] pos) (tTupRgF te) := by
  refine ⟨fun pins s σ H Q I h => ?_⟩
  refine Call_ (ld_blt I hg hm boot_tuple (PyProof.Rows.callWith_type1 (args_cons (thn (he pins s σ H _ I h) fun x s1 ⟨r, a, b, t, u, v, H1, ex, hr, I1, ok, q⟩ => args_nil ?_) na) na))
  subst ex
  obtain ⟨b1, b2, b3, b4, b5⟩ := ok
  refine call_tuple_range (n := (b - a).toNat) (I1.ok.hd hc) hr (small_one b1 b2 b3 b4) (rangeSize_nat a b) b5 fun h' tk acc hk hi => ?_
  have I2 : Inv X pins σ H1 { s1 with heap := h', toks := tk } := I1.kept hk
  have z : (rgV a b).length ≤ sizeLine := by rw [rgV_length, sizeLine_eq]; omega
  have q := lay_tup (s := { s1 with heap := h', toks := tk }) (t' := tk) I2 z (vals_rg hi) q
  rw [Array.toArray_toList] at q
  exact q
end

/-! ### representing new tuples and lists -/
section
variable {g : G} {f : Frm} {Z H Z' H' : Hp} {σ : L2.St} {env : Cells}
/-- a new tuple of represented data is represented -/
theorem StOk.tupF (st : StOk g f Z H σ env) {p : Addr} {o : Obj} {vs : List V} {xs : List PV} (n : H p = none) (d : o.dict = none) (l : vs.length ≤ sizeLine) (r : Reps g Z vs xs) :
    ∃ Z', Same Z Z' ∧ StOk g f Z' (upd H p (.frz o (.tup vs))) σ env ∧ Rep g Z' (.ref p) (.tup xs) :=
  ⟨upd Z p (.frz o (.tup vs)), same_upd (st.zn n), st.lay n, .tup (.inl ⟨o, upd_same, d⟩) l (r.mono (same_upd (st.zn n)))⟩
/-- a new list, frozen at once -/
theorem StOk.lstF (st : StOk g f Z H σ env) {p : Addr} {vs : List V} {xs : List PV} (n : H p = none) (l : vs.length ≤ sizeLine) (r : Reps g Z vs xs) :
    ∃ Z', Same Z Z' ∧ StOk g f Z' (upd H p (.lst vs)) σ env ∧ Rep g Z' (.ref p) (.lst xs) :=
  ⟨upd Z p (.lst vs), same_upd (st.zn n), st.lay n, .lst (.inl (.inl upd_same)) l (r.mono (same_upd (st.zn n)))⟩
/-- an own list: not frozen, no cell's -/
def RO (g : G) (f : Frm) (σ : L2.St) : Hp → Hp → Cells → V → List PV → Prop := fun Z H e b xs =>
  ∃ p vs, b = .ref p ∧ Z p = none ∧ H p = some (.lst vs) ∧ vs.length ≤ sizeLine ∧ Reps g Z vs xs ∧ f.H p = none ∧ ¬ Muts σ e p
theorem StOk.fH (st : StOk g f Z H σ env) {p : Addr} (n : H p = none) : f.H p = none := by
  cases e : f.H p with
  | none => rfl
  | some o => obtain ⟨o', q⟩ := st.pr p o e; rw [n] at q; cases q
theorem StOk.own (st : StOk g f Z H σ env) {p : Addr} {vs : List V} {xs : List PV} (n : H p = none) (l : vs.length ≤ sizeLine) (r : Reps g Z vs xs) :
    StOk g f Z (upd H p (.lst vs)) σ env ∧ RO g f σ Z (upd H p (.lst vs)) env (.ref p) xs :=
  ⟨st.new n, p, vs, rfl, st.zn n, upd_same, l, r, st.fH n, fun m => by obtain ⟨_, ⟨o, q⟩, _⟩ := st.muts m; rw [n] at q; cases q⟩
/-- an own list is frozen -/
theorem StOk.ownF (st : StOk g f Z H σ env) {b : V} {xs : List PV} (r : RO g f σ Z H env b xs) : ∃ Z', Same Z Z' ∧ StOk g f Z' H σ env ∧ Rep g Z' b (.lst xs) := by
  obtain ⟨p, vs, rfl, n, hH, l, r, fn, nm⟩ := r
  have zz : Same Z (upd Z p (.lst vs)) := same_upd n
  refine ⟨upd Z p (.lst vs), zz, ⟨st.z0.trans zz, fun b u q => ?_, st.fr, fun b o q m z => ?_, st.pr, st.mh, st.ln, fun j c ej => ?_, st.sep⟩, .lst (.inl (.inl upd_same)) l (r.mono zz)⟩
  · by_cases hb : b = p
    · subst hb; rw [upd_same] at q; cases q; exact hH
    · rw [upd_ne hb] at q; exact st.zh _ _ q
  · have : b ≠ p := fun z => by subst z; rw [fn] at q; cases q
    rw [upd_ne this]; exact st.nz b o q m z
  · have q := st.sl j c ej
    cases c with
    | un => trivial
    | v x => obtain ⟨v, e1, r1⟩ := q; exact ⟨v, e1, r1.mono zz⟩
    | m own zs =>
      obtain ⟨b, ws, e1, e2, e3, l', r', e4⟩ := q
      have : b ≠ p := fun z => by subst z; exact nm ⟨j, _, ej, rfl, e1⟩
      exact ⟨b, ws, e1, by rw [upd_ne this]; exact e2, e3, l', r'.mono zz, e4⟩
    | d own ks ws =>
      obtain ⟨b, kvs, e1, e2, e3, l', hk, ho, r', e4⟩ := q
      have : b ≠ p := fun z => by subst z; exact nm ⟨j, _, ej, rfl, e1⟩
      exact ⟨b, kvs, e1, by rw [upd_ne this]; exact e2, e3, l', hk, ho, r'.mono zz, e4⟩
    | o own c ns ws =>
      obtain ⟨b, fs, e1, e2, e3, hk, r', e4⟩ := q
      have : b ≠ p := fun z => by subst z; exact nm ⟨j, _, ej, rfl, e1⟩
      exact ⟨b, fs, e1, by rw [upd_ne this]; exact e2, e3, hk, r'.mono zz, e4⟩
end

/-- an expression that makes a list of its own -/
def tO (g : G) (W : WX) (d : Den (List PV)) : TE := fun σ H Q => ∃ f Z env, At g W f Z env d (RO g f σ) Q σ H
abbrev PO' (X : Cx) (W : WX) (e : Expr) (d : Den (List PV)) : Prop := PE X e (tO (gOf X) W d)
def dLstOf (d : Den (List PV)) : Den PV := d.bind fun xs => Den.ret (.lst xs)
section
variable {X : Cx} {W : WX} {a b c e : Expr} {es : List Expr} {da db dc : Den PV} {ds : Den (List PV)} {pos : Pos} {k : Nat}
/-- .. handed on as data -/
theorem px_own {d : Den (List PV)} (h : PO' X W e d) : PX X W e (dLstOf d) := peimp h fun σ H Q ⟨f, Z, env, a⟩ =>
  ⟨f, Z, env, a.bind.imp fun u H1 ⟨Z1, env1, xs, s1, r1, a1⟩ => by
    obtain ⟨Z2, s2, st2, r2⟩ := a1.st.ownF r1
    exact a1.ret u Z2 H1 s2 st2 r2⟩

/-! ### arguments, displays -/
def dNil : Den (List PV) := Den.ret []
def dCons (d : Den PV) (ds : Den (List PV)) : Den (List PV) := d.bind fun x => ds.bind fun xs => Den.ret (x :: xs)
theorem pax_nil : PAX X W [] dNil := paimp pa_nil fun σ H Q ⟨f, Z, env, a⟩ => a.ret [] Z H (Same.refl _) a.st .nil
theorem pax_cons (ha : PX X W a da) (hr : PAX X W es ds) (hs : starEach (a :: es) X.env = (false, eval a X.env) :: starEach es X.env := by rfl) : PAX X W (a :: es) (dCons da ds) := paimp (pa_cons ha hr hs) fun σ H Q ⟨f, Z, env, a⟩ => by
  refine (a.bind.imp fun u H1 ⟨Z1, env1, x, s1, r1, a1⟩ => ?_).here
  refine (a1.bind.imp fun us H2 ⟨Z2, env2, xs, s2, r2, a2⟩ => ?_).heres
  exact a2.ret (u :: us) Z2 H2 (Same.refl _) a2.st (.cons (r1.mono s2) r2)
def dTup (d : Den (List PV)) : Den PV := d.bind fun xs => Den.lift (if xs.length ≤ 1000 then some (.tup xs) else none)
theorem le1000 {n : Nat} (h : n ≤ 1000) : n ≤ sizeLine := Nat.le_trans h (by decide)
theorem px_tup {x1} (h : PAX X W es ds) : PX X W (.Tuple es x1 pos) (dTup ds) := peimp (pe_tupF h) fun σ H Q ⟨f, Z, env, a⟩ => by
  refine (a.bind.imp fun us H1 ⟨Z1, env1, xs, s1, r1, a1⟩ => ?_).heres
  obtain ⟨v, e, k⟩ := a1.lift
  obtain ⟨l, rfl⟩ := of_ite e
  have l' : us.length ≤ sizeLine := le1000 (by rw [r1.length]; exact l)
  refine ⟨l', fun p o n d => ?_⟩
  obtain ⟨Z2, s2, st2, r2⟩ := a1.st.tupF n d l' r1
  exact k _ Z2 _ s2 st2 r2
def dShort (d : Den (List PV)) : Den (List PV) := d.bind fun xs => Den.lift (if xs.length ≤ 1000 then some xs else none)
theorem po_lst (h : PAX X W es ds) : PO' X W (.List es pos) (dShort ds) := peimp (pe_lst h) fun σ H Q ⟨f, Z, env, a⟩ => by
  refine (a.bind.imp fun us H1 ⟨Z1, env1, xs, s1, r1, a1⟩ => ?_).heres
  obtain ⟨v, e, k⟩ := a1.lift
  obtain ⟨l, rfl⟩ := of_ite e
  have l' : us.length ≤ sizeLine := le1000 (by rw [r1.length]; exact l)
  refine ⟨l', fun p n => ?_⟩
  obtain ⟨st2, r2⟩ := a1.st.own n l' r1
  exact k _ Z1 _ (Same.refl _) st2 r2

/-! ### and, or, not, if -/
def dBool {α : Type} (d : Den PV) (k : Bool → Den α) : Den α := d.bind fun x => match x with
  | .bl b => k b
  | _ => fun _ => none
def dAnd (da db : Den PV) : Den PV := dBool da fun b => if b then db else Den.ret (.bl false)
def dOr (da db : Den PV) : Den PV := dBool da fun b => if b then Den.ret (.bl true) else db
def dNot (da : Den PV) : Den PV := dBool da fun b => Den.ret (.bl (!b))
def dIf (dc da db : Den PV) : Den PV := dBool dc fun b => if b then da else db
theorem At.bool {α β : Type} {g : G} {f : Frm} {Z H : Hp} {σ : L2.St} {env : Cells} {d : Den PV} {k : Bool → Den α} {R2 : Hp → Hp → Cells → β → α → Prop} {Q : β → Hp → Prop} (h : At g W f Z env (dBool d k) R2 Q σ H) :
    At g W f Z env d (RV g) (fun u H1 => ∃ Z1 env1 b, Same Z Z1 ∧ u = .bl b ∧ At g W f Z1 env1 (k b) R2 Q σ H1) σ H :=
  h.bind.imp fun u H1 ⟨Z1, env1, x, s1, r1, a1⟩ => by
    cases x with
    | bl b => cases r1; exact ⟨Z1, env1, b, s1, rfl, a1⟩
    | _ => obtain ⟨_, _, e, _⟩ := a1; cases e
theorem At.tB {g : G} {f : Frm} {Z H : Hp} {σ : L2.St} {env : Cells} {d : Den PV} {Q : Bool → Hp → Prop} (h : At g W f Z env d (RV g) (fun x H1 => ∃ c, x = .bl c ∧ Q c H1) σ H) : L2.tB (tP g W d) σ H Q := ⟨f, Z, env, h⟩
theorem px_one {op} (h : PX X W a da) : PX X W (.BoolOp op [a] pos) da := pe_one h
theorem px_and {rest : List Expr} (ha : PX X W a da) (hb : PX X W (.BoolOp .And (b :: rest) pos) db) : PX X W (.BoolOp .And (a :: b :: rest) pos) (dAnd da db) := peimp (pe_and ha hb) fun σ H Q ⟨f, Z, env, a⟩ => by
  refine (a.bool.imp fun u H1 ⟨Z1, env1, c, s1, e, a1⟩ => ⟨c, e, ?_⟩).here
  cases c with
  | true => exact a1.here
  | false => exact a1.ret _ Z1 H1 (Same.refl _) a1.st (.bl _)
theorem px_or {rest : List Expr} (ha : PX X W a da) (hb : PX X W (.BoolOp .Or (b :: rest) pos) db) : PX X W (.BoolOp .Or (a :: b :: rest) pos) (dOr da db) := peimp (pe_or ha hb) fun σ H Q ⟨f, Z, env, a⟩ => by
  refine (a.bool.imp fun u H1 ⟨Z1, env1, c, s1, e, a1⟩ => ⟨c, e, ?_⟩).here
  cases c with
  | false => exact a1.here
  | true => exact a1.ret _ Z1 H1 (Same.refl _) a1.st (.bl _)
theorem px_not (ha : PX X W a da) : PX X W (.UnaryOp .Not a pos) (dNot da) := peimp (pe_not ha) fun σ H Q ⟨f, Z, env, a⟩ => by
  refine (a.bool.imp fun u H1 ⟨Z1, env1, c, s1, e, a1⟩ => ⟨c, e, ?_⟩).here
  exact a1.ret _ Z1 H1 (Same.refl _) a1.st (.bl _)
/-- tests -/
theorem ptx_val (h : PX X W e da) (he : ∀ whole, isTrue e X.env whole = (do let v ← whole; standAt e.pos; holding [v] (truthy v)) := by intro _; rfl) : PTX X W e da := pt_val h he
theorem ptx_not (ha : PTX X W a da) : PTX X W (.UnaryOp .Not a pos) (dNot da) := ptimp (pt_not ha) fun σ H Q ⟨f, Z, env, a⟩ => by
  refine (a.bool.imp fun u H1 ⟨Z1, env1, c, s1, e, a1⟩ => ⟨c, e, ?_⟩).tB
  obtain ⟨d, e2, q⟩ := a1.ret _ Z1 H1 (Same.refl _) a1.st (.bl _)
  cases e2
  exact q
theorem pwx_and1 (ha : PTX X W a da) : PWX X W (.BoolOp .And [a] pos) da := pw_and1 ha
theorem pwx_or1 (ha : PTX X W a da) : PWX X W (.BoolOp .Or [a] pos) da := pw_or1 ha
theorem pwx_and {rest : List Expr} (ha : PTX X W a da) (hb : PWX X W (.BoolOp .And (b :: rest) pos) db) : PWX X W (.BoolOp .And (a :: b :: rest) pos) (dAnd da db) := pwimp (pw_and ha hb) fun σ H Q ⟨f, Z, env, a⟩ => by
  refine (a.bool.imp fun u H1 ⟨Z1, env1, c, s1, e, a1⟩ => ⟨c, e, ?_⟩).tB
  cases c with
  | true => exact (show At (gOf X) W f Z1 env1 db (RV (gOf X)) _ σ H1 from a1).tB
  | false =>
    obtain ⟨d, e2, q⟩ := a1.ret _ Z1 H1 (Same.refl _) a1.st (.bl _)
    cases e2
    exact q
theorem pwx_or {rest : List Expr} (ha : PTX X W a da) (hb : PWX X W (.BoolOp .Or (b :: rest) pos) db) : PWX X W (.BoolOp .Or (a :: b :: rest) pos) (dOr da db) := pwimp (pw_or ha hb) fun σ H Q ⟨f, Z, env, a⟩ => by
  refine (a.bool.imp fun u H1 ⟨Z1, env1, c, s1, e, a1⟩ => ⟨c, e, ?_⟩).tB
  cases c with
  | false => exact (show At (gOf X) W f Z1 env1 db (RV (gOf X)) _ σ H1 from a1).tB
  | true =>
    obtain ⟨d, e2, q⟩ := a1.ret _ Z1 H1 (Same.refl _) a1.st (.bl _)
    cases e2
    exact q
theorem ptx_w (h : PWX X W e da) : PTX X W e da := h.pt
theorem px_if {t : Expr} {dt : Den PV} (ht : PTX X W t dt) (ha : PX X W a da) (hb : PX X W b db) : PX X W (.IfExp t a b pos) (dIf dt da db) := peimp (pe_ifExp ht ha hb) fun σ H Q ⟨f, Z, env, a⟩ => by
  refine (a.bool.imp fun u H1 ⟨Z1, env1, c, s1, e, a1⟩ => ⟨c, e, ?_⟩).tB
  cases c with
  | true => exact (show At (gOf X) W f Z1 env1 da (RV (gOf X)) Q σ H1 from a1).here
  | false => exact (show At (gOf X) W f Z1 env1 db (RV (gOf X)) Q σ H1 from a1).here
end
end Pu
set_option Elab.async false
set_option linter.all false
set_option maxRecDepth 100000
set_option maxHeartbeats 4000000
/-! Pu, part D: calls of built-ins and of own defs; items, slices; order; in. -/
namespace Pu
open PySem PySem.Spec PyProof.Rows L2

/-! ### built-ins by values -/
section
variable {X : Cx} {W : WX} {a b c e : Expr} {es : List Expr} {da db dc : Den PV} {ds : Den (List PV)} {p pos : Pos} {x : Str} {k : Nat}
/-- what a built-in yields of data -/
def CallP (g : G) (W : WX) (r : List V → Hp → VK → Prop) (q : List PV → Option PV) : Prop :=
  ∀ (f : Frm) (Z : Hp) (env : Cells) (σ : L2.St) (H : Hp) (us : List V) (xs : List PV) (v : PV) (Q : VK), StOk g f Z H σ env → Reps g Z us xs → q xs = some v →
    (∀ u Z' H', Same Z Z' → StOk g f Z' H' σ env → Rep g Z' u v → Q u H') → r us H Q
/-- .. a list of its own -/
def CallO (g : G) (W : WX) (r : List V → Hp → VK → Prop) (q : List PV → Option (List PV)) : Prop :=
  ∀ (f : Frm) (Z : Hp) (env : Cells) (σ : L2.St) (H : Hp) (us : List V) (xs : List PV) (v : List PV) (Q : VK), StOk g f Z H σ env → Reps g Z us xs → q xs = some v →
    (∀ u Z' H', Same Z Z' → StOk g f Z' H' σ env → RO g f σ Z' H' env u v → Q u H') → r us H Q
def dArgs {α : Type} (q : List PV → Option α) (ds : Den (List PV)) : Den α := ds.bind fun xs => Den.lift (q xs)
theorem px_callB {id : String} {r : List V → Hp → VK → Prop} {q : List PV → Option PV} (hc : CallR X (.builtin id) r) (hp : CallP (gOf X) W r q) (hg : Gl X x) (hm : X.mg x = none) (hv : bootBuiltins x = some (.builtin id)) (ha : PAX X W (e :: es) ds)
    (hn : x ≠ "__name__" := by decide) (hdb : (x == ("__debug__" : Str)) = false := by decide)
    (he : starEach (e :: es) X.env = (false, eval e X.env) :: starEach es X.env := by rfl) (hpl : (backTo pos (starEach es X.env)).any (·.1) = false := by rfl) : PX X W (.Call (.Name x p) (e :: es) [] pos) (dArgs q ds) :=
  peimp (pe_callB hc hg hm hv ha hn hdb he hpl) fun σ H Q ⟨f, Z, env, a⟩ => (a.bind.imp fun us H1 ⟨Z1, env1, xs, s1, r1, a1⟩ => by
    obtain ⟨v, e, k⟩ := a1.lift
    exact hp f Z1 env1 σ H1 us xs v Q a1.st r1 e k).heres
theorem px_callTy {T : String} {r : List V → Hp → VK → Prop} {q : List PV → Option PV} (hc : CallR X (.type T) r) (hp : CallP (gOf X) W r q) (hg : Gl X x) (hm : X.mg x = none) (hv : bootBuiltins x = some (.type T)) (ha : PAX X W (e :: es) ds)
    (hn : x ≠ "__name__" := by decide) (hdb : (x == ("__debug__" : Str)) = false := by decide)
    (he : starEach (e :: es) X.env = (false, eval e X.env) :: starEach es X.env := by rfl) (hpl : (backTo pos (starEach es X.env)).any (·.1) = false := by rfl) : PX X W (.Call (.Name x p) (e :: es) [] pos) (dArgs q ds) :=
  peimp (pe_callTy hc hg hm hv ha hn hdb he hpl) fun σ H Q ⟨f, Z, env, a⟩ => (a.bind.imp fun us H1 ⟨Z1, env1, xs, s1, r1, a1⟩ => by
    obtain ⟨v, e, k⟩ := a1.lift
    exact hp f Z1 env1 σ H1 us xs v Q a1.st r1 e k).heres
theorem po_callB {id : String} {r : List V → Hp → VK → Prop} {q : List PV → Option (List PV)} (hc : CallR X (.builtin id) r) (hp : CallO (gOf X) W r q) (hg : Gl X x) (hm : X.mg x = none) (hv : bootBuiltins x = some (.builtin id)) (ha : PAX X W (e :: es) ds)
    (hn : x ≠ "__name__" := by decide) (hdb : (x == ("__debug__" : Str)) = false := by decide)
    (he : starEach (e :: es) X.env = (false, eval e X.env) :: starEach es X.env := by rfl) (hpl : (backTo pos (starEach es X.env)).any (·.1) = false := by rfl) : PO' X W (.Call (.Name x p) (e :: es) [] pos) (dArgs q ds) :=
  peimp (pe_callB hc hg hm hv ha hn hdb he hpl) fun σ H Q ⟨f, Z, env, a⟩ => (a.bind.imp fun us H1 ⟨Z1, env1, xs, s1, r1, a1⟩ => by
    obtain ⟨v, e, k⟩ := a1.lift
    exact hp f Z1 env1 σ H1 us xs v Q a1.st r1 e k).heres
theorem po_callTy {T : String} {r : List V → Hp → VK → Prop} {q : List PV → Option (List PV)} (hc : CallR X (.type T) r) (hp : CallO (gOf X) W r q) (hg : Gl X x) (hm : X.mg x = none) (hv : bootBuiltins x = some (.type T)) (ha : PAX X W (e :: es) ds)
    (hn : x ≠ "__name__" := by decide) (hdb : (x == ("__debug__" : Str)) = false := by decide)
    (he : starEach (e :: es) X.env = (false, eval e X.env) :: starEach es X.env := by rfl) (hpl : (backTo pos (starEach es X.env)).any (·.1) = false := by rfl) : PO' X W (.Call (.Name x p) (e :: es) [] pos) (dArgs q ds) :=
  peimp (pe_callTy hc hg hm hv ha hn hdb he hpl) fun σ H Q ⟨f, Z, env, a⟩ => (a.bind.imp fun us H1 ⟨Z1, env1, xs, s1, r1, a1⟩ => by
    obtain ⟨v, e, k⟩ := a1.lift
    exact hp f Z1 env1 σ H1 us xs v Q a1.st r1 e k).heres
end
/-- one argument -/
def one {α : Type} (q : PV → Option α) : List PV → Option α
  | [x] => q x
  | _ => none
theorem Reps.one {g : G} {Z : Hp} {us : List V} {x : PV} (h : Reps g Z us [x]) : ∃ u, us = [u] ∧ Rep g Z u x := by
  cases h with | cons a b => cases b; exact ⟨_, rfl, a⟩
theorem Reps.two {g : G} {Z : Hp} {us : List V} {x y : PV} (h : Reps g Z us [x, y]) : ∃ u w, us = [u, w] ∧ Rep g Z u x ∧ Rep g Z w y := by
  cases h with
  | cons a b => cases b with | cons c d => cases d; exact ⟨_, _, rfl, a, c⟩
theorem callP_one {g : G} {W : WX} {r : List V → Hp → VK → Prop} {q : PV → Option PV} (h : ∀ (f : Frm) (Z : Hp) (env : Cells) (σ : L2.St) (H : Hp) (u : V) (x v : PV) (Q : VK), StOk g f Z H σ env → Rep g Z u x → q x = some v →
    (∀ u Z' H', Same Z Z' → StOk g f Z' H' σ env → Rep g Z' u v → Q u H') → r [u] H Q) : CallP g W r (one q) := by
  intro f Z env σ H us xs v Q st rr e k
  unfold Pu.one at e
  split at e
  · obtain ⟨u, rfl, ru⟩ := rr.one
    exact h f Z env σ H u _ v Q st ru e k
  · cases e
theorem callO_one {g : G} {W : WX} {r : List V → Hp → VK → Prop} {q : PV → Option (List PV)} (h : ∀ (f : Frm) (Z : Hp) (env : Cells) (σ : L2.St) (H : Hp) (u : V) (x : PV) (v : List PV) (Q : VK), StOk g f Z H σ env → Rep g Z u x → q x = some v →
    (∀ u Z' H', Same Z Z' → StOk g f Z' H' σ env → RO g f σ Z' H' env u v → Q u H') → r [u] H Q) : CallO g W r (one q) := by
  intro f Z env σ H us xs v Q st rr e k
  unfold Pu.one at e
  split at e
  · obtain ⟨u, rfl, ru⟩ := rr.one
    exact h f Z env σ H u _ v Q st ru e k
  · cases e
/-- the items of a list or tuple, as they are read -/
theorem Rep.seq {g : G} {Z H : Hp} {u : V} {x : PV} {xs : List PV} (e : Same Z H) (r : Rep g Z u x) (hx : x = .tup xs ∨ x = .ktup xs ∨ x = .lst xs) :
    ∃ a vs, u = .ref a ∧ vs.length ≤ sizeLine ∧ Reps g Z vs xs ∧ ((x = .lst xs ∧ SqL g.K H a vs) ∨ (x ≠ .lst xs ∧ SqT g.K H a vs)) := by
  rcases hx with rfl | rfl | rfl
  · cases r with | tup h l r => exact ⟨_, _, rfl, l, r, .inr ⟨(by intro q; cases q), Same.sqt e h.sqt⟩⟩
  · cases r with | ktup h l r => exact ⟨_, _, rfl, l, r, .inr ⟨(by intro q; cases q), .inl (.inl (e _ _ h))⟩⟩
  · cases r with | lst h l r => exact ⟨_, _, rfl, l, r, .inl ⟨rfl, Same.sql e h⟩⟩
/-- the items of a list or tuple -/
def PV.items : PV → Option (List PV)
  | .tup xs => some xs
  | .ktup xs => some xs
  | .lst xs => some xs
  | _ => none
theorem PV.items_of {x : PV} {xs : List PV} (h : x.items = some xs) : x = .tup xs ∨ x = .ktup xs ∨ x = .lst xs := by
  cases x <;> cases h
  · exact .inl rfl
  · exact .inr (.inl rfl)
  · exact .inr (.inr rfl)

section
variable {X : Cx} {W : WX} {a b c e : Expr} {es : List Expr} {da db dc : Den PV} {ds : Den (List PV)} {p pos : Pos} {k : Nat} {g : G}
/-! ### len -/
def qLen1 : PV → Option PV
  | .str s => if s.length ≤ sizeLine then some (.int s.length) else none
  | x => x.items.map fun xs => .int xs.length
abbrev qLen := one qLen1
theorem call_lenP : CallR X (.builtin "len") (fun xs H Q => (∃ p ys, xs = [.ref p] ∧ (SqL X.K H p ys ∨ SqT X.K H p ys) ∧ Q (.int ys.length) H) ∨ ∃ z, xs = [.str z] ∧ z.length ≤ sizeLine ∧ Q (.int z.length) H) := call_len_seq.or call_len_str
theorem lenP : CallP (gOf X) W (fun xs H Q => (∃ p ys, xs = [.ref p] ∧ (SqL X.K H p ys ∨ SqT X.K H p ys) ∧ Q (.int ys.length) H) ∨ ∃ z, xs = [.str z] ∧ z.length ≤ sizeLine ∧ Q (.int z.length) H) qLen := by
  refine callP_one fun f Z env σ H u x v Q st ru e k => ?_
  unfold qLen1 at e
  split at e
  · cases ru
    obtain ⟨l, rfl⟩ := of_ite e
    exact .inr ⟨_, rfl, l, k _ Z H (Same.refl _) st (.int _)⟩
  · cases hi : x.items with
    | none => rw [hi] at e; cases e
    | some ys =>
      rw [hi] at e
      cases e
      obtain ⟨a, vs, rfl, _, rv, h⟩ := ru.seq st.zh (PV.items_of hi)
      refine .inl ⟨a, vs, rfl, ?_, ?_⟩
      · rcases h with h | h
        · exact .inl h.2
        · exact .inr h.2
      · rw [rv.length]; exact k _ Z H (Same.refl _) st (.int _)
theorem px_len (hg : Gl X "len") (hm : X.mg "len" = none) (ha : PAX X W [a] ds) (he : starEach [a] X.env = (false, eval a X.env) :: starEach [] X.env := by rfl) : PX X W (.Call (.Name "len" p) [a] [] pos) (dArgs qLen ds) :=
  px_callB call_lenP lenP hg hm PySem.boot_len ha (he := he)

/-! ### tuple, list of data -/
def qTuple1 : PV → Option PV
  | .lst xs => some (.tup xs)
  | .tup xs => some (.tup xs)
  | .ktup xs => some (.ktup xs)
  | _ => none
abbrev qTuple := one qTuple1
theorem tupleP : CallP (gOf X) W (fun xs H Q => ∃ p ys, xs = [.ref p] ∧ ((SqL X.K H p ys ∧ ∀ l o, H l = none → o.dict = none → Q (.ref l) (upd H l (.frz o (.tup ys)))) ∨ (SqT X.K H p ys ∧ Q (.ref p) H))) qTuple := by
  refine callP_one fun f Z env σ H u x v Q st ru e k => ?_
  cases x with
  | lst ys =>
    cases e
    cases ru with
    | lst h l rv =>
      refine ⟨_, _, rfl, .inl ⟨Same.sql st.zh h, fun q o n d => ?_⟩⟩
      obtain ⟨Z2, s2, st2, r2⟩ := st.tupF n d l rv
      exact k _ Z2 _ s2 st2 r2
  | tup ys =>
    cases e
    cases ru with
    | tup h l rv => exact ⟨_, _, rfl, .inr ⟨Same.sqt st.zh h.sqt, k _ Z H (Same.refl _) st (.tup h l rv)⟩⟩
  | ktup ys =>
    cases e
    cases ru with
    | ktup h l rv => exact ⟨_, _, rfl, .inr ⟨.inl (.inl (st.zh _ _ h)), k _ Z H (Same.refl _) st (.ktup h l rv)⟩⟩
  | _ => cases e
theorem px_tuple (hg : Gl X "tuple") (hm : X.mg "tuple" = none) (ha : PAX X W [a] ds) (he : starEach [a] X.env = (false, eval a X.env) :: starEach [] X.env := by rfl) : PX X W (.Call (.Name "tuple" p) [a] [] pos) (dArgs qTuple ds) :=
  px_callTy call_tupF tupleP hg hm boot_tuple ha (he := he)
abbrev qList := one PV.items
theorem listP : CallO (gOf X) W (fun xs H Q => ∃ p ys, xs = [.ref p] ∧ (SqL X.K H p ys ∨ SqT X.K H p ys) ∧ ∀ l, H l = none → Q (.ref l) (upd H l (.lst ys))) qList := by
  refine callO_one fun f Z env σ H u x v Q st ru e k => ?_
  obtain ⟨a, vs, rfl, l, rv, h⟩ := ru.seq st.zh (PV.items_of e)
  refine ⟨a, vs, rfl, ?_, fun q n => ?_⟩
  · rcases h with h | h
    · exact .inl h.2
    · exact .inr h.2
  · obtain ⟨st2, r2⟩ := st.own n l rv
    exact k _ Z _ (Same.refl _) st2 r2
theorem po_list (hg : Gl X "list") (hm : X.mg "list" = none) (ha : PAX X W [a] ds) (he : starEach [a] X.env = (false, eval a X.env) :: starEach [] X.env := by rfl) : PO' X W (.Call (.Name "list" p) [a] [] pos) (dArgs qList ds) :=
  po_callTy call_list_of listP hg hm boot_list ha (he := he)
/-! ### ranges made lists and tuples -/
def rgP (n : Int) : List PV := (List.range n.toNat).map fun i => PV.int (i : Nat)
def dRg (da : Den PV) : Den (List PV) := da.bind fun x => Den.lift (match x with | .int n => if -16777216 ≤ n ∧ n ≤ 16777216 then some (rgP n) else none | _ => none)
theorem reps_rg {Z : Hp} (n : Int) : Reps g Z (rgV 0 n) (rgP n) := by
  unfold rgV rgP
  rw [Int.sub_zero]
  generalize List.range n.toNat = l
  induction l with
  | nil => exact .nil
  | cons i l ih => exact .cons (by show Rep g Z (.int (0 + (i : Int))) (.int i); rw [Int.zero_add]; exact .int _) ih
theorem po_listRg {p1 p2 pos' : Pos} (hc : X.calm = true) (hl : Gl X "list") (hlm : X.mg "list" = none) (hg : Gl X "range") (hm : X.mg "range" = none) (ha : PX X W a da) (na : starEach [a] X.env = (false, eval a X.env) :: starEach [] X.env := by rfl)
    (nb : starEach [(.Call (.Name "range" p1) [a] [] pos')] X.env = (false, eval (.Call (.Name "range" p1) [a] [] pos') X.env) :: starEach [] X.env := by rfl) : PO' X W (.Call (.Name "list" p2) [(.Call (.Name "range" p1) [a] [] pos')] [] pos) (dRg da) :=
  peimp (pe_listRg hc hl hlm (prg_1 hg hm ha na) nb) fun σ H Q ⟨f, Z, env, a⟩ => (a.bind.imp fun u H1 ⟨Z1, env1, x, s1, r1, a1⟩ => by
    obtain ⟨v, e, k⟩ := a1.lift
    cases x with
    | int n =>
      cases r1
      obtain ⟨⟨l1, l2⟩, rfl⟩ := of_ite e
      refine ⟨n, rfl, ⟨by decide, by decide, by omega, by omega, by omega⟩, fun q nq => ?_⟩
      obtain ⟨st2, r2⟩ := a1.st.own nq (by rw [rgV_length, sizeLine_eq]; omega) (reps_rg n)
      exact k _ Z1 _ (Same.refl _) st2 r2
    | _ => cases e).here
theorem px_tupRg {p1 p2 pos' : Pos} (hc : X.calm = true) (hl : Gl X "tuple") (hlm : X.mg "tuple" = none) (hg : Gl X "range") (hm : X.mg "range" = none) (ha : PX X W a da) (na : starEach [a] X.env = (false, eval a X.env) :: starEach [] X.env := by rfl)
    (nb : starEach [(.Call (.Name "range" p1) [a] [] pos')] X.env = (false, eval (.Call (.Name "range" p1) [a] [] pos') X.env) :: starEach [] X.env := by rfl) : PX X W (.Call (.Name "tuple" p2) [(.Call (.Name "range" p1) [a] [] pos')] [] pos) ((dRg da).bind fun xs => Den.ret (.tup xs)) :=
  peimp (pe_tupRgF hc hl hlm (prg_1 hg hm ha na) nb) fun σ H Q ⟨f, Z, env, a⟩ => by
    have a : At (gOf X) W f Z env (da.bind fun x => (Den.lift (match x with | .int n => if -16777216 ≤ n ∧ n ≤ 16777216 then some (rgP n) else none | _ => none)).bind fun xs => Den.ret (.tup xs)) (RV (gOf X)) Q σ H := by
      refine ⟨a.st, ?_⟩
      obtain ⟨o, e, p⟩ := a.to
      refine ⟨o, ?_, p⟩
      rw [← e]
      unfold dRg Den.bind
      cases da env with
      | none => rfl
      | some o => cases o <;> rfl
    refine (a.bind.imp fun u H1 ⟨Z1, env1, x, s1, r1, a1⟩ => ?_).here
    obtain ⟨st1, o, e, p⟩ := a1
    cases x with
    | int n =>
      cases r1
      by_cases hl : -16777216 ≤ n ∧ n ≤ 16777216
      · simp only [Den.bind, Den.lift, if_pos hl, Den.ret] at e
        cases e
        refine ⟨n, rfl, ⟨by decide, by decide, by omega, by omega, by omega⟩, fun q o nq d => ?_⟩
        obtain ⟨Z2, s2, st2, r2⟩ := st1.tupF nq d (by rw [rgV_length, sizeLine_eq]; omega) (reps_rg n)
        exact p _ Z2 _ s2 st2 r2
      · simp only [Den.bind, Den.lift, if_neg hl] at e
        cases e
    | _ => simp only [Den.bind, Den.lift] at e; cases e
/-! ### all, any -/
def bls : List PV → Option (List Bool)
  | [] => some []
  | .bl b :: r => (bls r).map (b :: ·)
  | _ :: _ => none
theorem Reps.bls {Z : Hp} : ∀ {xs : List PV} {vs : List V} {bs : List Bool}, Reps g Z vs xs → Pu.bls xs = some bs → vs = bs.map V.bl
  | [], _, _, r, e => by cases r; cases e; rfl
  | x :: xs, _, bs, r, e => by
    cases r with
    | cons a b =>
      cases x with
      | bl c =>
        unfold Pu.bls at e
        cases h : Pu.bls xs with
        | none => rw [h] at e; cases e
        | some cs => rw [h] at e; cases e; cases a; rw [b.bls h]; rfl
      | _ => cases e
def qAll1 : PV → Option PV
  | .lst xs => (bls xs).map fun bs => .bl (bs.all id)
  | _ => none
def qAny1 : PV → Option PV
  | .lst xs => (bls xs).map fun bs => .bl (bs.any id)
  | _ => none
abbrev qAll := one qAll1
abbrev qAny := one qAny1
theorem allP : CallP (gOf X) W (rAll X.K) qAll := by
  refine callP_one fun f Z env σ H u x v Q st ru e k => ?_
  cases x with
  | lst ys =>
    cases ru with
    | lst h l rv =>
      have e : ((bls ys).map fun bs => PV.bl (bs.all id)) = some v := e
      cases hb : bls ys with
      | none => rw [hb] at e; cases e
      | some bs =>
        rw [hb] at e
        cases e
        rw [rv.bls hb] at h
        exact ⟨_, bs, rfl, Same.sql st.zh h, k _ Z H (Same.refl _) st (.bl _)⟩
  | _ => cases e
theorem anyP : CallP (gOf X) W (rAny X.K) qAny := by
  refine callP_one fun f Z env σ H u x v Q st ru e k => ?_
  cases x with
  | lst ys =>
    cases ru with
    | lst h l rv =>
      have e : ((bls ys).map fun bs => PV.bl (bs.any id)) = some v := e
      cases hb : bls ys with
      | none => rw [hb] at e; cases e
      | some bs =>
        rw [hb] at e
        cases e
        rw [rv.bls hb] at h
        exact ⟨_, bs, rfl, Same.sql st.zh h, k _ Z H (Same.refl _) st (.bl _)⟩
  | _ => cases e
theorem px_all (hc : X.calm = true) (hg : Gl X "all") (hm : X.mg "all" = none) (ha : PAX X W [a] ds) (he : starEach [a] X.env = (false, eval a X.env) :: starEach [] X.env := by rfl) : PX X W (.Call (.Name "all" p) [a] [] pos) (dArgs qAll ds) :=
  px_callB (cr_all hc) allP hg hm (by decide +kernel) ha (he := he)
theorem px_any (hc : X.calm = true) (hg : Gl X "any") (hm : X.mg "any" = none) (ha : PAX X W [a] ds) (he : starEach [a] X.env = (false, eval a X.env) :: starEach [] X.env := by rfl) : PX X W (.Call (.Name "any" p) [a] [] pos) (dArgs qAny ds) :=
  px_callB (cr_any hc) anyP hg hm (by decide +kernel) ha (he := he)
/-! ### int of an int -/
def qInt1 : PV → Option PV
  | .int i => some (.int i)
  | .bl b => some (.int (if b then 1 else 0))
  | _ => none
abbrev qInt := one qInt1
theorem intP : CallP (gOf X) W (fun xs H Q => (∃ i, xs = [.int i] ∧ Q (.int i) H) ∨ ∃ k, xs = [.bl k] ∧ Q (.int (if k then 1 else 0)) H) qInt := by
  refine callP_one fun f Z env σ H u x v Q st ru e k => ?_
  cases x with
  | int i => cases e; cases ru; exact .inl ⟨_, rfl, k _ Z H (Same.refl _) st (.int _)⟩
  | bl i => cases e; cases ru; exact .inr ⟨_, rfl, k _ Z H (Same.refl _) st (.int _)⟩
  | _ => cases e
theorem px_intOf (hg : Gl X "int") (hm : X.mg "int" = none) (ha : PAX X W [a] ds) (he : starEach [a] X.env = (false, eval a X.env) :: starEach [] X.env := by rfl) : PX X W (.Call (.Name "int" p) [a] [] pos) (dArgs qInt ds) :=
  px_callTy call_int1 intP hg hm boot_int ha (he := he)
end

/-! ### isinstance with a built-in type -/
def PV.ty : PV → String
  | .non => "NoneType"
  | .bl _ => "bool"
  | .int _ => "int"
  | .str _ => "str"
  | .tup _ => "tuple"
  | .ktup _ => "tuple"
  | .lst _ => "list"
  | .dic _ _ => "dict"
  | .ins _ _ _ => ""
theorem Rep.tyx {g : G} {Z H : Hp} {u : V} {x : PV} (e : Same Z H) (r : Rep g Z u x) (h : x.ty ≠ "") : TyX g.K H u (.type x.ty) := by
  cases r with
  | non => exact .base .non
  | bl b => exact .base (.bl b)
  | int i => exact .base (.int i)
  | str s q => exact .base (.str s)
  | tup h1 l r =>
    rcases h1 with ⟨o, h1, _⟩ | ⟨o, its, n, h1, h2, _⟩
    · exact .fTuple (e _ _ h1)
    · exact .kTuple h1 h2
  | ktup h1 l r => exact .base (.tup (e _ _ h1))
  | lst h1 l r =>
    rcases h1 with (h1 | ⟨o, h1⟩) | ⟨o, its, n, h1, h2, _⟩
    · exact .base (.lst (e _ _ h1))
    · exact .base (.frz (e _ _ h1))
    · exact .kList h1 h2
  | dic h1 l r q =>
    rcases h1 with h1 | ⟨o, h1⟩
    · exact .base (.dK (e _ _ h1))
    · exact .fDict (e _ _ h1)
  | ins _ _ _ => exact absurd rfl h
/-- the types asked -/
def tyOk (T : String) : Bool := ["int", "bool", "str", "tuple", "list", "dict"].contains T
def isT (T : String) (x : PV) : Bool := x.ty == T || (T == "int" && x.ty == "bool")
def kitTab : Bool := ["NoneType", "bool", "int", "str", "tuple", "list", "dict"].all fun n => ["int", "bool", "str", "tuple", "list", "dict"].all fun T => kitB n T == some (n == T || (T == "int" && n == "bool"))
theorem kit_tab : kitTab = true := by decide +kernel
theorem kit_isT {T : String} {x : PV} (hT : tyOk T = true) (h : x.ty ≠ "") : kitB x.ty T = some (isT T x) := by
  have q := kit_tab
  unfold kitTab at q
  have hm : x.ty ∈ ["NoneType", "bool", "int", "str", "tuple", "list", "dict"] := by
    cases x <;> first | exact absurd rfl h | simp [PV.ty]
  have q1 := List.all_eq_true.mp (List.all_eq_true.mp q _ hm) T (by simpa [tyOk] using hT)
  exact beq_iff_eq.mp q1
def dIsT (T : String) (da : Den PV) : Den PV := da.bind fun x => Den.lift (if x.ty ≠ "" then some (.bl (isT T x)) else none)
section
variable {X : Cx} {W : WX} {a b c e : Expr} {es : List Expr} {da db dc : Den PV} {ds : Den (List PV)} {p p' pos : Pos} {k : Nat} {g : G}
theorem px_isT {x : Str} {T : String} (hg : Gl X "isinstance") (hm : X.mg "isinstance" = none) (ha : PX X W a da) (ht : PE X (.Name x p') (tC (.ty T))) (hT : tyOk T = true := by decide)
    (he : starEach [a, .Name x p'] X.env = (false, eval a X.env) :: starEach [.Name x p'] X.env := by rfl) (he2 : starEach [.Name x p'] X.env = (false, eval (.Name x p') X.env) :: starEach [] X.env := by rfl)
    (hpl : (backTo pos (starEach [.Name x p'] X.env)).any (·.1) = false := by rfl) : PX X W (.Call (.Name "isinstance" p) [a, .Name x p'] [] pos) (dIsT T da) :=
  peimp (pe_callB call_isi hg hm (by decide +kernel) (pa_cons ha (pa_cons ht pa_nil he2) he) (by decide) (by decide) he hpl) fun σ H Q ⟨f, Z, env, a⟩ => (a.bind.imp fun u H1 ⟨Z1, env1, x, s1, r1, a1⟩ => by
    obtain ⟨v, e, k⟩ := a1.lift
    obtain ⟨h, rfl⟩ := of_ite e
    exact ⟨u, .ty T, _, _, _, rfl, .ty T, r1.tyx a1.st.zh h, kit_ty (kit_isT hT h), k _ Z1 H1 (Same.refl _) a1.st (.bl _)⟩).here

/-! ### order, in -/
def qB (k : Int → Int → Bool) : PV → PV → Option PV
  | .int i, .int j => some (.bl (k i j))
  | _, _ => none
theorem opP_B {k : Int → Int → Bool} : OpP g (rI0 fun i j => .bl (k i j)) (qB k) := fun Z H u w x y v Q _ r1 r2 e hq => by
  unfold qB at e
  split at e
  · cases r1
    cases r2
    cases e
    exact ⟨_, _, rfl, rfl, hq _ (.bl _)⟩
  · cases e
abbrev qLt := qB fun i j => decide (i < j)
abbrev qLe := qB fun i j => decide (i ≤ j)
abbrev qGt := qB fun i j => decide (j < i)
abbrev qGe := qB fun i j => decide (j ≤ i)
theorem px_lt (ha : PX X W a da) (hb : PX X W b db) : PX X W (.Compare a [.Lt] [b] pos) (dOp qLt da db) := px_cmp op_lt opP_B ha hb (nomark _)
theorem px_le (ha : PX X W a da) (hb : PX X W b db) : PX X W (.Compare a [.LtE] [b] pos) (dOp qLe da db) := px_cmp op_le opP_B ha hb (nomark _)
theorem px_gt (ha : PX X W a da) (hb : PX X W b db) : PX X W (.Compare a [.Gt] [b] pos) (dOp qGt da db) := px_cmp op_gt opP_B ha hb (nomark _)
theorem px_ge (ha : PX X W a da) (hb : PX X W b db) : PX X W (.Compare a [.GtE] [b] pos) (dOp qGe da db) := px_cmp op_ge opP_B ha hb (nomark _)
theorem ptx_lt (ha : PX X W a da) (hb : PX X W b db) : PTX X W (.Compare a [.Lt] [b] pos) (dOp qLt da db) := ptx_cmp op_lt opP_B ha hb (nomark _)
theorem ptx_le (ha : PX X W a da) (hb : PX X W b db) : PTX X W (.Compare a [.LtE] [b] pos) (dOp qLe da db) := ptx_cmp op_le opP_B ha hb (nomark _)
theorem ptx_gt (ha : PX X W a da) (hb : PX X W b db) : PTX X W (.Compare a [.Gt] [b] pos) (dOp qGt da db) := ptx_cmp op_gt opP_B ha hb (nomark _)
theorem ptx_ge (ha : PX X W a da) (hb : PX X W b db) : PTX X W (.Compare a [.GtE] [b] pos) (dOp qGe da db) := ptx_cmp op_ge opP_B ha hb (nomark _)
/-- a < b < c -/
def dChain (q q' : PV → PV → Option PV) (da db dc : Den PV) : Den PV := da.bind fun x => db.bind fun y => dBool (Den.lift (q x y)) fun z => if z then dc.bind fun w => Den.lift (q' y w) else Den.ret (.bl false)
theorem t_chain {r r' : R2} {q q' : PV → PV → Option PV} (hp : OpP (gOf X) r q) (hp' : OpP (gOf X) r' q') {σ : L2.St} {H : Hp} {Q : VK} (h : tP (gOf X) W (dChain q q' da db dc) σ H Q) : tChain r r' (tP (gOf X) W da) (tP (gOf X) W db) (tP (gOf X) W dc) σ H Q := by
  obtain ⟨f, Z, env, a⟩ := h
  refine (a.bind.imp fun u H1 ⟨Z1, env1, x, s1, r1, a1⟩ => ?_).here
  refine (a1.bind.imp fun w H2 ⟨Z2, env2, y, s2, r2, a2⟩ => ?_).here
  have a3 := a2.bool
  obtain ⟨v, e, k⟩ := a3.lift
  refine hp Z2 H2 u w x y v _ a2.st.zh (r1.mono s2) r2 e fun z rz => ?_
  obtain ⟨Z3, env3, b, s3, eb, a4⟩ := k z Z2 H2 (Same.refl _) a2.st rz
  refine ⟨b, eb, ?_⟩
  cases b with
  | false => exact a4.ret _ Z3 H2 (Same.refl _) a4.st (.bl _)
  | true =>
    refine ((show At (gOf X) W f Z3 env3 (dc.bind fun w => Den.lift (q' y w)) (RV (gOf X)) Q σ H2 from a4).bind.imp fun w' H4 ⟨Z4, env4, x4, s4, r4, a5⟩ => ?_).here
    obtain ⟨v', e', k'⟩ := a5.lift
    exact hp' Z4 H4 w w' y x4 v' Q a5.st.zh ((r2.mono s3).mono s4) r4 e' fun z rz => k' z Z4 H4 (Same.refl _) a5.st rz
theorem px_chain {op op' : CmpOp} {r r' : R2} {q q' : PV → PV → Option PV} (ho : OpR X (compareOp op) r) (ho' : OpR X (compareOp op') r') (hp : OpP (gOf X) r q) (hp' : OpP (gOf X) r' q') (ha : PX X W a da) (hb : PX X W b db) (hc : PX X W c dc)
    (hm : lastMarks [op, op'] [b, c] = false := by with_unfolding_all rfl) : PX X W (.Compare a [op, op'] [b, c] pos) (dChain q q' da db dc) := peimp (pe_chain ho ho' ha hb hc hm) fun _ _ _ h => t_chain hp hp' h
theorem ptx_chain {op op' : CmpOp} {r r' : R2} {q q' : PV → PV → Option PV} (ho : OpR X (compareOp op) r) (ho' : OpR X (compareOp op') r') (hp : OpP (gOf X) r q) (hp' : OpP (gOf X) r' q') (ha : PX X W a da) (hb : PX X W b db) (hc : PX X W c dc)
    (hm : lastMarks [op, op'] [b, c] = false := by with_unfolding_all rfl) : PTX X W (.Compare a [op, op'] [b, c] pos) (dChain q q' da db dc) := ptimp (pt_chain ho ho' ha hb hc hm) fun _ _ _ h => tB_imp (fun _ h => t_chain hp hp' h) h
/-- x in s: a list, a tuple, a text in a text -/
def qIn : PV → PV → Option PV
  | .str s, .str t => some (.bl (!(Builtin.Str.occurrences t s 0 t.length 1).isEmpty))
  | x, y => match y.items with
    | some ys => if x.fit = true ∧ y.fit = true then some (.bl (ys.any fun z => pvEq z x)) else none
    | none => none
def qNotIn : PV → PV → Option PV
  | .str s, .str t => some (.bl (!(!(Builtin.Str.occurrences t s 0 t.length 1).isEmpty)))
  | x, y => match y.items with
    | some ys => if x.fit = true ∧ y.fit = true then some (.bl (!ys.any fun z => pvEq z x)) else none
    | none => none
def rInP (K : PySem.W.Frag) (neg : Bool) : R2 := fun x y H Q => (∃ i j, x = .str i ∧ y = .str j ∧ Q (.bl (neg ^^ !(Builtin.Str.occurrences j i 0 j.length 1).isEmpty)) H) ∨
  ∃ d ds l, Dp K H x d ∧ Dp K H y l ∧ (l = .list ds ∨ l = .tuple ds) ∧ d.canLay0 = true ∧ PyData.canLayAll0 ds = true ∧ d.depth ≤ 190 ∧ Q (.bl (neg ^^ (ds.any fun z => PyData.eqv z d))) H
theorem op_inP (hr : RoomG k X.A) : OpR X (compareOp .In) (rInP X.K false) := by
  intro pins s σ H x y v u Q I rx ry h
  rcases h with ⟨i, j, rfl, rfl, q⟩ | ⟨d, ds, l, hd, he, hl, sd, se, ld, q⟩
  · exact op_in_str pins s σ H _ _ v u Q I rx ry ⟨i, j, rfl, rfl, by simpa using q⟩
  · obtain ⟨as, r1⟩ := Dp.reads I d x v hd rx
    obtain ⟨bs, r2⟩ := Dp.reads I l y u he ry
    have hu : X.A.units + 1 + min (PyData.depthAll ds) d.depth < cLine := by have := hr.un; have : min (PyData.depthAll ds) d.depth ≤ d.depth := Nat.min_le_right _ _; omega
    rcases hl with rfl | rfl
    · exact SeqAt.in_list_reads r2 r1 se sd hu ⟨.bl _, H, I, rfl, by simpa using q⟩
    · exact SeqAt.in_tuple_reads r2 r1 se sd hu ⟨.bl _, H, I, rfl, by simpa using q⟩
theorem op_notInP (hr : RoomG k X.A) : OpR X (compareOp .NotIn) (rInP X.K true) := by
  intro pins s σ H x y v u Q I rx ry h
  rcases h with ⟨i, j, rfl, rfl, q⟩ | ⟨d, ds, l, hd, he, hl, sd, se, ld, q⟩
  · exact op_notIn_str pins s σ H _ _ v u Q I rx ry ⟨i, j, rfl, rfl, by simpa using q⟩
  · obtain ⟨as, r1⟩ := Dp.reads I d x v hd rx
    obtain ⟨bs, r2⟩ := Dp.reads I l y u he ry
    have hu : X.A.units + 1 + min (PyData.depthAll ds) d.depth < cLine := by have := hr.un; have : min (PyData.depthAll ds) d.depth ≤ d.depth := Nat.min_le_right _ _; omega
    rcases hl with rfl | rfl
    · exact SeqAt.notIn_list_reads r2 r1 se sd hu ⟨.bl _, H, I, rfl, by simpa using q⟩
    · exact SeqAt.notIn_tuple_reads r2 r1 se sd hu ⟨.bl _, H, I, rfl, by simpa using q⟩
theorem toDs_any (x : PV) : ∀ ys : List PV, (PV.toDs ys).any (fun z => PyData.eqv z x.toD) = ys.any fun z => pvEq z x
  | [] => rfl
  | y :: ys => by
    show (PyData.eqv y.toD x.toD || (PV.toDs ys).any _) = (pvEq y x || ys.any _)
    rw [toDs_any x ys]
theorem in_core {neg : Bool} {Z H : Hp} {u w : V} {x y : PV} {ys : List PV} {Q : VK} (s : Same Z H) (r1 : Rep g Z u x) (r2 : Rep g Z w y) (hi : y.items = some ys) (f1 : x.fit = true) (f2 : y.fit = true) (hq : Q (.bl (neg ^^ (ys.any fun z => pvEq z x))) H) : rInP g.K neg u w H Q := by
  obtain ⟨p1, l1⟩ := Bool.and_eq_true_iff.mp f1
  obtain ⟨p2, l2⟩ := Bool.and_eq_true_iff.mp f2
  obtain ⟨d1, c1⟩ := r1.dp s p1
  obtain ⟨d2, c2⟩ := r2.dp s p2
  have key : ∃ ds, (y.toD = .list ds ∨ y.toD = .tuple ds) ∧ ds = PV.toDs ys := by
    rcases PV.items_of hi with rfl | rfl | rfl
    · exact ⟨_, .inr rfl, rfl⟩
    · exact ⟨_, .inr rfl, rfl⟩
    · exact ⟨_, .inl rfl, rfl⟩
  obtain ⟨ds, hl, rfl⟩ := key
  refine .inr ⟨_, _, _, d1, d2, hl, c1, ?_, by rw [toD_depth x p1]; exact of_decide_eq_true l1, by rw [toDs_any]; exact hq⟩
  rcases hl with e | e
  · rw [e] at c2; exact c2
  · rw [e] at c2; exact c2
theorem opP_in : OpP g (rInP g.K false) qIn := fun Z H u w x y v Q s r1 r2 e hq => by
  unfold qIn at e
  split at e
  · cases r1
    cases r2
    cases e
    exact .inl ⟨_, _, rfl, rfl, by simpa using hq _ (.bl _)⟩
  · split at e
    · obtain ⟨⟨f1, f2⟩, rfl⟩ := of_ite e
      exact in_core s r1 r2 (by assumption) f1 f2 (by simpa using hq _ (.bl _))
    · cases e
theorem opP_notIn : OpP g (rInP g.K true) qNotIn := fun Z H u w x y v Q s r1 r2 e hq => by
  unfold qNotIn at e
  split at e
  · cases r1
    cases r2
    cases e
    exact .inl ⟨_, _, rfl, rfl, by simpa using hq _ (.bl _)⟩
  · split at e
    · obtain ⟨⟨f1, f2⟩, rfl⟩ := of_ite e
      exact in_core s r1 r2 (by assumption) f1 f2 (by simpa using hq _ (.bl _))
    · cases e
theorem px_in (hr : RoomG k X.A) (ha : PX X W a da) (hb : PX X W b db) (hm : behindInMarks .In b = false := by with_unfolding_all rfl) : PX X W (.Compare a [.In] [b] pos) (dOp qIn da db) := px_cmp (op_inP hr) opP_in ha hb hm
theorem px_notIn (hr : RoomG k X.A) (ha : PX X W a da) (hb : PX X W b db) (hm : behindInMarks .NotIn b = false := by with_unfolding_all rfl) : PX X W (.Compare a [.NotIn] [b] pos) (dOp qNotIn da db) := px_cmp (op_notInP hr) opP_notIn ha hb hm
theorem ptx_in (hr : RoomG k X.A) (ha : PX X W a da) (hb : PX X W b db) (hm : behindInMarks .In b = false := by with_unfolding_all rfl) : PTX X W (.Compare a [.In] [b] pos) (dOp qIn da db) := ptx_cmp (op_inP hr) opP_in ha hb hm
theorem ptx_notIn (hr : RoomG k X.A) (ha : PX X W a da) (hb : PX X W b db) (hm : behindInMarks .NotIn b = false := by with_unfolding_all rfl) : PTX X W (.Compare a [.NotIn] [b] pos) (dOp qNotIn da db) := ptx_cmp (op_notInP hr) opP_notIn ha hb hm
/-- is None, is True -/
def qIs (neg : Bool) : PV → PV → Option PV
  | x, .non => some (.bl (neg ^^ (match x with | .non => true | _ => false)))
  | .bl a, .bl b => some (.bl (neg ^^ (a == b)))
  | _, _ => none
def rIs (neg : Bool) : R2 := fun x y H Q => (y = .non ∧ Q (.bl (neg ^^ decide (x = .non))) H) ∨ ∃ a b : Bool, x = .bl a ∧ y = .bl b ∧ Q (.bl (neg ^^ (a == b))) H
theorem op_isP : OpR X (compareOp .Is) (rIs false) := by
  intro pins s σ H x y v u Q I rx ry h
  rcases h with ⟨e, q⟩ | ⟨a, b, e1, e2, q⟩
  · exact op_isN pins s σ H x y v u Q I rx ry ⟨e, by simpa using q⟩
  · exact op_isBl pins s σ H x y v u Q I rx ry ⟨a, b, e1, e2, by cases a <;> cases b <;> simpa using q⟩
theorem op_isNotP : OpR X (compareOp .IsNot) (rIs true) := by
  intro pins s σ H x y v u Q I rx ry h
  rcases h with ⟨e, q⟩ | ⟨a, b, e1, e2, q⟩
  · exact op_notN pins s σ H x y v u Q I rx ry ⟨e, by simpa using q⟩
  · exact op_notBl pins s σ H x y v u Q I rx ry ⟨a, b, e1, e2, by cases a <;> cases b <;> simpa using q⟩
theorem opP_is {neg : Bool} : OpP g (rIs neg) (qIs neg) := fun Z H u w x y v Q s r1 r2 e hq => by
  unfold qIs at e
  split at e
  · cases r2
    cases e
    refine .inl ⟨rfl, ?_⟩
    cases r1 <;> simpa using hq _ (.bl _)
  · cases r1
    cases r2
    cases e
    exact .inr ⟨_, _, rfl, rfl, hq _ (.bl _)⟩
  · cases e
theorem px_is (ha : PX X W a da) (hb : PX X W b db) : PX X W (.Compare a [.Is] [b] pos) (dOp (qIs false) da db) := px_cmp op_isP opP_is ha hb (nomark _)
theorem px_isNot (ha : PX X W a da) (hb : PX X W b db) : PX X W (.Compare a [.IsNot] [b] pos) (dOp (qIs true) da db) := px_cmp op_isNotP opP_is ha hb (nomark _)
theorem ptx_is (ha : PX X W a da) (hb : PX X W b db) : PTX X W (.Compare a [.Is] [b] pos) (dOp (qIs false) da db) := ptx_cmp op_isP opP_is ha hb (nomark _)
theorem ptx_isNot (ha : PX X W a da) (hb : PX X W b db) : PTX X W (.Compare a [.IsNot] [b] pos) (dOp (qIs true) da db) := ptx_cmp op_isNotP opP_is ha hb (nomark _)

/-! ### items -/
def qIx : PV → PV → Option PV
  | .str s, .int i => if s.length ≤ sizeLine ∧ PyData.strOk s = true then (atI s.cps.toList i).map fun c => .str ⟨#[c]⟩ else none
  | x, .int i => x.items.bind fun xs => atI xs i
  | _, _ => none
theorem Reps.at {Z : Hp} {vs : List V} {xs : List PV} {i : Int} {x : PV} (r : Reps g Z vs xs) (h : atI xs i = some x) : ∃ v, atI vs i = some v ∧ Rep g Z v x := by
  obtain ⟨j, h1, h2, h3, h4, h5⟩ := atI_get h
  obtain ⟨v, hv, rv⟩ := r.get' h2
  refine ⟨v, ?_, rv⟩
  unfold atI at h ⊢
  rw [r.length]
  cases hj : ixN xs.length i with
  | none => rw [hj] at h; cases h
  | some j' =>
    rw [hj] at h
    have e : xs[j']? = some x := h
    show vs[j']? = some v
    have q := (ixN_seq hj).1
    rw [h1] at q
    cases q
    exact hv
theorem opP_ix : OpP g (rIx g.K) qIx := fun Z H u w x y v Q s r1 r2 e hq => by
  unfold qIx at e
  split at e
  · rename_i z i
    split at e
    · rename_i hl
      cases r1
      cases r2
      cases hc : atI z.cps.toList i with
      | none => rw [hc] at e; cases e
      | some c =>
        rw [hc] at e
        cases e
        refine .inr (.inr ⟨z, i, c, rfl, rfl, hl.1, hc, hq _ (.str _ ?_)⟩)
        obtain ⟨j, _, h2, _⟩ := atI_get hc
        have h3 : c ∈ z.cps := by
          have := List.mem_of_getElem? h2
          simpa using this
        have h4 : z.cps.all (· < 0x110000) = true := hl.2
        have h5 : c < 0x110000 := by simpa using (Array.all_eq_true'.mp h4 c h3)
        simp [PyData.strOk, h5]
    · cases e
  · rename_i i _
    cases hi : x.items with
    | none => rw [hi] at e; cases e
    | some xs =>
      rw [hi] at e
      have e : atI xs i = some v := e
      cases r2
      obtain ⟨a, vs, rfl, l, rv, h⟩ := r1.seq s (PV.items_of hi)
      obtain ⟨v', h1, h2⟩ := rv.at e
      rcases h with h | h
      · exact .inl ⟨a, vs, i, v', rfl, rfl, h.2, h1, hq _ h2⟩
      · exact .inr (.inl ⟨a, vs, i, v', rfl, rfl, h.2, h1, hq _ h2⟩)
  · cases e
theorem px_ix (ha : PX X W a da) (hb : PX X W b db) (hs : PlainIx b := by exact fun _ _ => rfl) : PX X W (.Subscript a b pos) (dOp qIx da db) := peimp (pe_ix ix_seq ha hb hs) fun _ _ _ h => t_op opP_ix h

/-! ### slices -/
def cutP {α : Type} (xs : List α) (lo hi : Option Int) : List α := (xs.drop (HT.sIx xs.length 0 lo)).take (HT.sIx xs.length xs.length hi - HT.sIx xs.length 0 lo)
theorem cutP_length {α : Type} (xs : List α) (lo hi : Option Int) : (cutP xs lo hi).length ≤ xs.length := by
  unfold cutP
  rw [List.length_take, List.length_drop]
  omega
theorem Reps.cut {Z : Hp} {vs : List V} {xs : List PV} (r : Reps g Z vs xs) (lo hi : Option Int) : Reps g Z (cutV vs lo hi) (cutP xs lo hi) := by
  unfold cutV cutP
  rw [r.length]
  exact (r.drop _).take _
theorem cutP_whole {xs : List PV} {lo hi : Option Int} (h : HT.sIx xs.length 0 lo = 0 ∧ HT.sIx xs.length xs.length hi = xs.length) : cutP xs lo hi = xs := by
  unfold cutP
  rw [h.1, h.2]
  simp
def rSlP (K : PySem.W.Frag) : V → Option Int → Option Int → Hp → VK → Prop := fun x lo hi H Q => rSlF K x lo hi H Q ∨ rSlL K x lo hi H Q
theorem sl_P : SlR X (rSlP X.K) := sl_tupF.or sl_list
def qSl (lo hi : Option Int) : PV → Option PV
  | .tup xs => some (.tup (cutP xs lo hi))
  | .lst xs => some (.lst (cutP xs lo hi))
  | _ => none
/-- a part of a slice -/
def dPart : Option (Den PV) → Den (Option Int)
  | none => Den.ret none
  | some d => d.bind fun x => Den.lift (match x with | .int i => some (some i) | _ => none)
def dSl (da : Den PV) (lo hi : Option (Den PV)) : Den PV := da.bind fun x => (dPart lo).bind fun l => (dPart hi).bind fun h => Den.lift (qSl l h x)
/-- the rules for parts -/
structure POX (X : Cx) (W : WX) (e : Option Expr) (d : Option (Den PV)) : Prop where
  po : ∃ t, PO X e t ∧ ∀ (f : Frm) (Z : Hp) (env : Cells) (σ : L2.St) (H : Hp) (Q : Option Int → Hp → Prop), At (gOf X) W f Z env (dPart d) (fun _ _ _ b a => b = a) Q σ H → t σ H Q
theorem pox_none : POX X W none none := ⟨_, po_none, fun f Z env σ H Q a => a.ret _ Z H (Same.refl _) a.st rfl⟩
theorem pox_some (h : PX X W e da) : POX X W (some e) (some da) := ⟨_, po_some h, fun f Z env σ H Q a => (a.bind.imp fun u H1 ⟨Z1, env1, x, s1, r1, a1⟩ => by
  obtain ⟨v, e, k⟩ := a1.lift
  cases x with
  | int i => cases e; cases r1; exact ⟨i, rfl, k _ Z1 H1 (Same.refl _) a1.st rfl⟩
  | _ => cases e).here⟩
theorem px_slice {lo hi : Option Expr} {dl dh : Option (Den PV)} {p2 : Pos} (ha : PX X W a da) (hl : POX X W lo dl) (hh : POX X W hi dh) : PX X W (.Subscript a (.Slice lo hi none p2) pos) (dSl da dl dh) := by
  obtain ⟨tl, pl, il⟩ := hl.po
  obtain ⟨th, ph, ih⟩ := hh.po
  refine peimp (pe_slice sl_P ha pl ph) fun σ H Q ⟨f, Z, env, a⟩ => (a.bind.imp fun u H1 ⟨Z1, env1, x, s1, r1, a1⟩ => ?_).here
  refine il f Z1 env1 σ H1 _ (a1.bind.imp fun l H2 ⟨Z2, env2, l', s2, r2, a2⟩ => ?_)
  refine ih f Z2 env2 σ H2 _ (a2.bind.imp fun h H3 ⟨Z3, env3, h', s3, r3, a3⟩ => ?_)
  subst r2 r3
  obtain ⟨v, e, k⟩ := a3.lift
  have r1 := (r1.mono s2).mono s3
  cases x with
  | tup xs =>
    cases e
    cases r1 with
    | tup hz hl rv =>
      refine .inl ⟨_, _, rfl, Same.sqt a3.st.zh hz.sqt, fun w => ?_, fun w p o n d => ?_⟩
      · rw [rv.length] at w
        rw [cutP_whole w] at k
        exact k _ Z3 H3 (Same.refl _) a3.st (.tup hz hl rv)
      · obtain ⟨Z4, s4, st4, r4⟩ := a3.st.tupF n d (Nat.le_trans (cutV_length _ _ _) hl) (rv.cut l h)
        exact k _ Z4 _ s4 st4 r4
  | lst xs =>
    cases e
    cases r1 with
    | lst hz hl rv =>
      refine .inr ⟨_, _, rfl, Same.sql a3.st.zh hz, fun p n => ?_⟩
      obtain ⟨Z4, s4, st4, r4⟩ := a3.st.lstF n (Nat.le_trans (cutV_length _ _ _) hl) (rv.cut l h)
      exact k _ Z4 _ s4 st4 r4
  | _ => cases e
end
end Pu
set_option Elab.async false
set_option linter.all false
set_option maxRecDepth 100000
set_option maxHeartbeats 4000000
/-! Pu, part E: own defs and their calls; statements; what is walked; comprehensions; for. -/
namespace Pu
open PySem PySem.Spec PyProof.Rows L2

/-! ### own defs -/
abbrev Fn := List PV → Option (Except Exn PV)
structure Ext (Z H Z' H' : Hp) : Prop where
  zz : Same Z Z'
  hh : Same H H'
  zh : Same Z' H'
  nz : ∀ a o, H a = some o → Z a = none → Z' a = none
/-- a def's promise by data: n arguments -/
def SpP (g : G) (n : Nat) (F : Fn) : Sp := fun vs H Q E => ∃ Z args o, Same Z H ∧ Reps g Z vs args ∧ args.length = n ∧ F args = some o ∧ match o with
  | .ok r => ∀ u Z' H', Ext Z H Z' H' → Rep g Z' u r → Q u H'
  | .error c => ∀ cls dd Z' H', Ext Z H Z' H' → ExRep g c cls dd Z' H' → E cls dd H'
def callK (F : Fn) (xs : List PV) : Den PV := fun e => match F xs with
  | none => none
  | some (.ok r) => some (.ok r e)
  | some (.error c) => some (.ex c e)
def dCall (F : Fn) (dv : List PV) (ds : Den (List PV)) : Den PV := ds.bind fun xs => callK F (xs ++ dv)
/-- what a def keeps, called with no repr under way -/
structure FnG (P : Program) (w : World) (K : PySem.W.Frag) (mg : Str → Option Value) (base : Heap) (CX : CXT) (k : Nat) (f : Addr) (fd : FuncData) (ps : List Str) (sp : Sp) : Prop where
  len : ∀ vs H Q E, sp vs H Q E → vs.length = ps.length
  run : ∀ (A : Around) (outer : List PySem.Env) (s : Shared) (H : Hp) (args : Args) (us : List Value) (vs : List V) (Q : VK) (E : XK), RoomG k A → Env0 P w K mg base A outer s H → BindsTo s fd args (ps.zip us) → Vals vs us → sp vs H Q E →
    codeAny (model P w) A (.call (.ref f) args) (CR CX outer P w H s Q E) s
theorem FnG.mono {P : Program} {w : World} {K : PySem.W.Frag} {mg : Str → Option Value} {base : Heap} {CX : CXT} {j k : Nat} {f : Addr} {fd : FuncData} {ps : List Str} {sp : Sp} (F : FnG P w K mg base CX j f fd ps sp) (h : j ≤ k) : FnG P w K mg base CX k f fd ps sp :=
  ⟨F.len, fun A outer s H args us vs Q E hr => F.run A outer s H args us vs Q E (hr.mono h)⟩
theorem FnG.imp {P : Program} {w : World} {K : PySem.W.Frag} {mg : Str → Option Value} {base : Heap} {CX : CXT} {k : Nat} {f : Addr} {fd : FuncData} {ps : List Str} {sp sp' : Sp} (F : FnG P w K mg base CX k f fd ps sp) (h : ∀ vs H Q E, sp' vs H Q E → sp vs H Q E) : FnG P w K mg base CX k f fd ps sp' :=
  ⟨fun vs H Q E q => F.len vs H Q E (h _ _ _ _ q), fun A outer s H args us vs Q E hr he hb hv hs => F.run A outer s H args us vs Q E hr he hb hv (h _ _ _ _ hs)⟩
/-- a def by its body -/
theorem fnG_of {CX : CXT} {P : Program} {w : World} {K : PySem.W.Frag} {mg : Str → Option Value} {base : Heap} {k : Nat} {f : Addr} {x qual : Str} {params : Arguments} {body : List Stmt} {scope : Scope} {dvs : List V} {kws : List (Str × V)} {fd : FuncData} {N ps : List Str} {sp : Sp} (F : FunD K x qual params body scope dvs kws f fd) (S : FnScope N ps scope)
    (len : ∀ vs H Q E, sp vs H Q E → vs.length = ps.length)
    (hbody : ∀ (cdv : Value) (A : Around) (outer : List PySem.Env) (s : Shared) (H : Hp) (vs : List V) (Q : VK) (E : XK), RoomG k (A.deeper (envOfC qual scope s.heap.objs.size f cdv)) → sp vs H Q E →
      ∃ t, PSs (cxOf CX P w K mg base N qual scope f cdv A outer s H E) body t ∧ t { nx := fun _ H' => Q .non H', rt := Q } (start N vs) H) :
    FnG P w K mg base CX (k + 1) f fd ps sp := by
  obtain ⟨oc, od, dV, kV, doc, pm, an, cdv, ct, osl, rfl, lk, hcd, _, _⟩ := F.ex
  refine ⟨len, fun A outer s H args us vs Q E hr e0 hb r hsp => ?_⟩
  have n1 : vs.length = ps.length := len vs H Q E hsp
  have old : ∀ b o, base.get? b = some o → s.heap.get? b = some o := fun b o q => (e0.bs b o q).1
  have kin : K.In s.heap := e0.mod.kin.keeps old
  have nolim := e0.mod.nolimit.keeps old
  have kinds : ∀ y ∈ ps.zip us, scope.names.lookup y.1 = some .local ∨ (scope.names.lookup y.1 = some .cell ∧ ((cellsFrom (s.heap.objs.size + 1) scope.names []).lookup y.1).isSome = true) := by
    intro y hy
    have hp : y.1 ∈ ps := (List.of_mem_zip (a := y.1) (b := y.2) hy).1
    cases S.par y.1 hp with
    | inl c => exact Or.inl c
    | inr c => exact Or.inr ⟨c, PySem.W.cellsFrom_some _ _ _ (Or.inl c)⟩
  refine codeAny_call_function hr.toRoom.depth (kin _ _ lk) rfl S.co S.gen rfl
    (PySem.W.codeRec_of kin hcd) (hb _ _ _ _ (wpAny_newFunctionEnv_cells S.kind kinds ?_))
  intro env henv s1 c
  cases henv
  refine ⟨nolim.keeps c.toInCall.keep, codeAny_func ?_⟩
  obtain ⟨t, pt, hq⟩ := hbody cdv A outer s H vs Q E (hr.deeper _) hsp
  have inv := inv_start (CX := CX) (E := E) S hr.toRoom.hd e0 n1 r c
  refine wpAny_mono (pt.run [] s1 (start N vs) H _ inv hq) ?_ (fun _ _ he => he)
  intro fl s' h
  cases fl with
  | ret u =>
    obtain ⟨v, σ', H', J, rv, q⟩ := h
    exact ⟨v, H', J.os, J.bare, J.base, J.hok, rv, q⟩
  | next =>
    obtain ⟨σ', H', J, q⟩ := h
    exact ⟨V.non, H', J.os, J.bare, J.base, J.hok, (rfl : Value.none = Value.none), q⟩
  | brk => exact (h.choose_spec.choose_spec.2 : False).elim
  | cont => exact (h.choose_spec.choose_spec.2 : False).elim
section
variable {X : Cx} {W : WX} {CX : CXT} {k n : Nat} {f C : Addr} {fd : FuncData} {ps : List Str} {sp : Sp} {dvs : List V} {dsv : List Value} {E : L2.St → XK} {x m : Str} {p pos apos : Pos} {e o : Expr} {es : List Expr} {ta : TE} {t : TA}
def tCallSD (sp : Sp) (dvs : List V) (E : L2.St → XK) (t : TA) : TE := fun σ H Q => t σ H fun vs H1 => sp (vs ++ dvs) H1 Q (E σ)
theorem run_fnSD {pins : List (Addr × Obj)} {σ : L2.St} {H : Hp} {s : Shared} {Q : VK} {us : List Value} {vs : List V} (F : FnG X.prog X.w X.K X.mg X.base CX k f fd ps sp) (hr : RoomG k X.A) (hb : Binds X.K fd ps dsv) (hd : Vals dvs dsv) (hx : PassesAt CX X σ (E σ))
    (I : Inv X pins σ H s) (r : Vals vs us) (h : sp (vs ++ dvs) H Q (E σ)) : wpAny (model X.prog X.w) X.A (call (.ref f) us) (EP X pins σ Q) X.xe s := by
  have r2 : Vals (vs ++ dvs) (us ++ dsv) := r.append hd
  have hl : (us ++ dsv).length = ps.length := by rw [← r2.length]; exact F.len _ _ _ _ h
  refine wpAny_call (codeAny_mono (F.run X.A X.stack s H ⟨us, []⟩ (us ++ dsv) (vs ++ dvs) Q (E σ) hr I.env0 (hb s us I.kIn hl) r2 h) fun r s' hq => ?_)
  cases r with
  | error e => exact hx pins H s e s' I hq
  | ok fl =>
    cases fl with
    | ret u => exact I.after hq
    | next => exact False.elim hq
    | brk => exact False.elim hq
    | cont => exact False.elim hq
theorem pe_callSD (F : FnG X.prog X.w X.K X.mg X.base CX k f fd ps sp) (hr : RoomG k X.A) (hg : Gl X x) (hm : X.mg x = some (.ref f)) (hk : PySem.W.keepIn X.K (.ref f) = true) (hb : Binds X.K fd ps dsv) (hd : Vals dvs dsv) (hx : ∀ σ, PassesAt CX X σ (E σ))
    (ha : PA X (e :: es) t) (hdb : (x == ("__debug__" : Str)) = false := by decide) (he : starEach (e :: es) X.env = (false, eval e X.env) :: starEach es X.env := by rfl) (hpl : (backTo pos (starEach es X.env)).any (·.1) = false := by rfl) :
    PE X (.Call (.Name x p) (e :: es) [] pos) (tCallSD sp dvs E t) := by
  refine ⟨fun pins s σ H Q I h => ?_⟩
  refine wpAny_Call_Name_kw (ld_glob I hg hm ?_ hdb)
  refine PySem.W.callWith_K (h₀ := X.base) I.ok.mod.kin hk (thn (ha.run pos pins s σ H _ I h) fun us s1 ⟨vs, H1, I1, r, q⟩ => ⟨I1.kIn, ?_⟩) he hpl
  exact run_fnSD F hr hb hd (hx σ) I1 r q
end
section
variable {g : G} {f : Frm} {Z H Z' H' : Hp} {σ : L2.St} {env : Cells}
theorem StOk.ext (st : StOk g f Z H σ env) (e : Ext Z H Z' H') : StOk g f Z' H' σ env := st.grow e.zz e.hh e.zh e.nz
end
def Len (ds : Den (List PV)) (n : Nat) : Prop := ∀ env xs env', ds env = some (.ok xs env') → xs.length = n
theorem len_nil : Len dNil 0 := fun env xs env' h => by cases h; rfl
theorem len_cons {d : Den PV} {ds : Den (List PV)} {n : Nat} (h : Len ds n) : Len (dCons d ds) (n + 1) := fun env xs env' e => by
  unfold dCons Den.bind at e
  cases hd : d env with
  | none => simp only [hd] at e; cases e
  | some o =>
    cases o with
    | ex c e1 => simp only [hd] at e; cases e
    | ok x e1 =>
      simp only [hd] at e
      cases hs : ds e1 with
      | none => simp only [hs] at e; cases e
      | some o2 =>
        cases o2 with
        | ex c e2 => simp only [hs] at e; cases e
        | ok ys e2 =>
          simp only [hs, Den.ret] at e
          cases e
          rw [List.length_cons, h _ _ _ hs]
/-- what a caller needs of a def: where it stands, how its arguments bind, its promise -/
structure Def (X : Cx) (x : Str) (ps : List Str) (dv : List PV) (k : Nat) (F : Fn) : Prop where
  ex : ∃ (f : Addr) (fd : FuncData) (dvs : List V) (dsv : List Value), X.mg x = some (.ref f) ∧ PySem.W.keepIn X.K (.ref f) = true ∧ Binds X.K fd ps dsv ∧ Vals dvs dsv ∧ (∀ Z, Reps (gOf X) Z dvs dv) ∧
    FnG X.prog X.w X.K X.mg X.base (L2.CX X.prog X.w) k f fd ps (SpP (gOf X) ps.length F)
section
variable {X : Cx} {W : WX} {k : Nat} {x : Str} {ps : List Str} {dv : List PV} {F : Fn} {p pos : Pos} {e : Expr} {es : List Expr} {ds : Den (List PV)}
theorem px_call (D : Def X x ps dv k F) (tk : Takes X W) (hr : RoomG k X.A) (hg : Gl X x) (ha : PAX X W (e :: es) ds) {n : Nat} (hl : Len ds n) (hn : n + dv.length = ps.length := by rfl) (hdb : (x == ("__debug__" : Str)) = false := by decide)
    (he : starEach (e :: es) X.env = (false, eval e X.env) :: starEach es X.env := by rfl) (hpl : (backTo pos (starEach es X.env)).any (·.1) = false := by rfl) : PX X W (.Call (.Name x p) (e :: es) [] pos) (dCall F dv ds) := by
  obtain ⟨f, fd, dvs, dsv, hm, hk, hb, hd, hrep, ok⟩ := D.ex
  refine peimp (pe_callSD (E := WE W) ok hr hg hm hk hb hd (passAt tk) ha hdb he hpl) fun σ H Q ⟨fr, Z, env, a⟩ => ?_
  have len : ∀ o env', ds env = some (.ok o env') → o.length + dv.length = ps.length := fun o env' e => by rw [hl _ _ _ e]; exact hn
  obtain ⟨st, o, eo, po⟩ := a
  refine ⟨fr, Z, env, st, ?_⟩
  unfold dCall Den.bind at eo
  cases hds : ds env with
  | none => rw [hds] at eo; cases eo
  | some o1 =>
    rw [hds] at eo
    cases o1 with
    | ex c e1 =>
      have eo : some (Out.ex c e1) = some o := eo
      cases eo
      exact ⟨_, rfl, po⟩
    | ok xs e1 =>
      have eo : callK F (xs ++ dv) e1 = some o := eo
      refine ⟨_, rfl, fun us Z1 H1 s1 st1 r1 => ?_⟩
      unfold callK at eo
      cases hF : F (xs ++ dv) with
      | none => rw [hF] at eo; cases eo
      | some r =>
        rw [hF] at eo
        refine ⟨Z1, xs ++ dv, r, st1.zh, r1.append (hrep Z1), by rw [List.length_append]; exact len _ _ hds, hF, ?_⟩
        cases r with
        | ok v =>
          cases eo
          exact fun u Z' H' ex rv => po u Z' H' (s1.trans ex.zz) (st1.ext ex) rv
        | error c =>
          cases eo
          exact fun cls dd Z' H' ex rv => po cls dd Z' H' (s1.trans ex.zz) (st1.ext ex) rv
end

/-! ### statements -/
inductive SOut where
  | nx (e : Cells) | rt (v : PV) (e : Cells) | bk (e : Cells) | ct (e : Cells) | ex (c : Exn) (e : Cells)
abbrev SDen := Cells → Option SOut
def SPost (g : G) (W : WX) (f : Frm) (Z : Hp) (D : Ends) : SOut → Prop
  | .nx e => ∀ σ' Z' H', Same Z Z' → StOk g f Z' H' σ' e → D.nx σ' H'
  | .bk e => ∀ σ' Z' H', Same Z Z' → StOk g f Z' H' σ' e → D.bk σ' H'
  | .ct e => ∀ σ' Z' H', Same Z Z' → StOk g f Z' H' σ' e → D.ct σ' H'
  | .rt v e => ∀ u σ' Z' H', Same Z Z' → StOk g f Z' H' σ' e → Rep g Z' u v → D.rt u H'
  | .ex c e => ∀ cls dd σ' Z' H', Same Z Z' → StOk g f Z' H' σ' e → ExRep g c cls dd Z' H' → W cls dd σ' H'
structure SAt (g : G) (W : WX) (f : Frm) (Z : Hp) (env : Cells) (d : SDen) (D : Ends) (σ : L2.St) (H : Hp) : Prop where
  st : StOk g f Z H σ env
  to : ∃ o, d env = some o ∧ SPost g W f Z D o
def tS (g : G) (W : WX) (d : SDen) : TS := fun D σ H => ∃ f Z env, SAt g W f Z env d D σ H
abbrev PSX (X : Cx) (W : WX) (st : Stmt) (d : SDen) : Prop := PS X st (tS (gOf X) W d)
abbrev PSsX (X : Cx) (W : WX) (st : List Stmt) (d : SDen) : Prop := PSs X st (tS (gOf X) W d)
/-- an expression first -/
def sOf {α : Type} (d : Den α) (k : α → SDen) : SDen := fun e => match d e with
  | none => none
  | some (.ex c e') => some (.ex c e')
  | some (.ok a e') => k a e'
section
variable {α β : Type} {g : G} {W : WX} {f : Frm} {Z Z1 H : Hp} {σ : L2.St} {env : Cells} {D : Ends}
theorem SPost.weak {o : SOut} (p : SPost g W f Z D o) (s : Same Z Z1) : SPost g W f Z1 D o := by
  cases o with
  | nx e => exact fun σ' Z' H' s' st => p σ' Z' H' (s.trans s') st
  | bk e => exact fun σ' Z' H' s' st => p σ' Z' H' (s.trans s') st
  | ct e => exact fun σ' Z' H' s' st => p σ' Z' H' (s.trans s') st
  | rt v e => exact fun u σ' Z' H' s' st => p u σ' Z' H' (s.trans s') st
  | ex c e => exact fun cls dd σ' Z' H' s' st => p cls dd σ' Z' H' (s.trans s') st
theorem SAt.of {d : Den α} {k : α → SDen} {R : Hp → Hp → Cells → β → α → Prop} (h : SAt g W f Z env (sOf d k) D σ H) :
    At g W f Z env d R (fun b H1 => ∃ Z1 env1 a, Same Z Z1 ∧ R Z1 H1 env1 b a ∧ SAt g W f Z1 env1 (k a) D σ H1) σ H := by
  obtain ⟨st, o, e, p⟩ := h
  refine ⟨st, ?_⟩
  unfold sOf at e
  cases hd : d env with
  | none => rw [hd] at e; cases e
  | some o1 =>
    rw [hd] at e
    cases o1 with
    | ex c e1 =>
      have e : some (SOut.ex c e1) = some o := e
      cases e
      exact ⟨_, rfl, fun cls dd Z' H' s st' r => p cls dd σ Z' H' s st' r⟩
    | ok a e1 =>
      have e : k a e1 = some o := e
      exact ⟨_, rfl, fun b Z1 H1 s1 st1 r1 => ⟨Z1, e1, a, s1, r1, st1, o, e, p.weak s1⟩⟩
theorem SAt.here {d : SDen} (h : SAt g W f Z env d D σ H) : tS g W d D σ H := ⟨f, Z, env, h⟩
end
def sNext : SDen := fun e => some (.nx e)
def sSeq (a b : SDen) : SDen := fun e => match a e with
  | some (.nx e') => b e'
  | o => o
def sRet (d : Den PV) : SDen := sOf d fun v e => some (.rt v e)
def sDrop (d : Den PV) : SDen := sOf d fun _ e => some (.nx e)
def sSet (i : Nat) (d : Den PV) : SDen := sOf d fun v e => some (.nx (e.set i (.v v)))
def sSetM (i : Nat) (d : Den (List PV)) : SDen := sOf d fun v e => some (.nx (e.set i (.m true v)))
def sIf (c : Den PV) (a b : SDen) : SDen := sOf c fun x => match x with
  | .bl t => if t then a else b
  | _ => fun _ => none
section
variable {X : Cx} {W : WX} {e c : Expr} {st : Stmt} {rest body els : List Stmt} {d d1 d2 : SDen} {de dc : Den PV} {do' : Den (List PV)} {pos pos' : Pos} {i : Nat} {x : Str}
theorem psx_nil : PSsX X W [] sNext := pssimp pss_nil fun D σ H ⟨f, Z, env, st, o, e, p⟩ => by cases e; exact p σ Z H (Same.refl _) st
theorem psx_one (h : PSX X W st d) : PSsX X W [st] d := pss_one h
theorem psx_cons (h1 : PSX X W st d1) (h2 : PSsX X W rest d2) : PSsX X W (st :: rest) (sSeq d1 d2) := pssimp (pss_cons h1 h2) fun D σ H ⟨f, Z, env, st, o, e, p⟩ => by
  unfold sSeq at e
  refine ⟨f, Z, env, st, ?_⟩
  cases hd : d1 env with
  | none => rw [hd] at e; cases e
  | some o1 =>
    rw [hd] at e
    cases o1 with
    | nx e1 =>
      have e : d2 e1 = some o := e
      exact ⟨_, rfl, fun σ' Z' H' s st' => ⟨f, Z', e1, st', o, e, p.weak s⟩⟩
    | rt v e1 => cases e; exact ⟨_, rfl, p⟩
    | bk e1 => cases e; exact ⟨_, rfl, p⟩
    | ct e1 => cases e; exact ⟨_, rfl, p⟩
    | ex c e1 => cases e; exact ⟨_, rfl, p⟩
theorem psx_pass : PSX X W (.Pass pos) sNext := psimp ps_pass fun D σ H ⟨f, Z, env, st, o, e, p⟩ => by cases e; exact p σ Z H (Same.refl _) st
theorem psx_break : PSX X W (.Break pos) (fun e => some (.bk e)) := psimp ps_break fun D σ H ⟨f, Z, env, st, o, e, p⟩ => by cases e; exact p σ Z H (Same.refl _) st
theorem psx_continue : PSX X W (.Continue pos) (fun e => some (.ct e)) := psimp ps_continue fun D σ H ⟨f, Z, env, st, o, e, p⟩ => by cases e; exact p σ Z H (Same.refl _) st
theorem psx_ret (h : PX X W e de) : PSX X W (.Return (some e) pos) (sRet de) := psimp (ps_ret h) fun D σ H ⟨f, Z, env, a⟩ => (a.of.imp fun u H1 ⟨Z1, env1, v, s1, r1, a1⟩ => by
  obtain ⟨st, o, e, p⟩ := a1
  cases e
  exact p u σ Z1 H1 (Same.refl _) st r1).here
theorem psx_retN : PSX X W (.Return none pos) (fun e => some (.rt .non e)) := psimp ps_retN fun D σ H ⟨f, Z, env, st, o, e, p⟩ => by cases e; exact p .non σ Z H (Same.refl _) st .non
theorem psx_expr (h : PX X W e de) (hs : swapsWith e none pos.line X.env = pure false := by rfl) : PSX X W (.Expr e pos) (sDrop de) := psimp (ps_expr h hs) fun D σ H ⟨f, Z, env, a⟩ => (a.of.imp fun u H1 ⟨Z1, env1, v, s1, r1, a1⟩ => by
  obtain ⟨st, o, e, p⟩ := a1
  cases e
  exact p σ Z1 H1 (Same.refl _) st).here
/-- name = e, given as a rule that stores what te yields -/
theorem psx_setG {stm : Stmt} (h : ∀ te, PE X e te → PS X stm (tAsg te (gName i))) (hi : i < X.N.length) (he : PX X W e de) (hl : ∀ {pins : List (Addr × Obj)} {σ : L2.St} {H : Hp} {s : Shared}, Inv X pins σ H s → σ.length = X.N.length) : PSX X W stm (sSet i de) := by
  refine ⟨fun pins s σ H D I ⟨f, Z, env, a⟩ => (h _ he).run pins s σ H D I ?_⟩
  have hσ : i < σ.length := by rw [hl I]; exact hi
  exact (a.of.imp fun u H1 ⟨Z1, env1, v, s1, r1, a1⟩ => by
    obtain ⟨st, o, e, p⟩ := a1
    cases e
    exact p _ Z1 H1 (Same.refl _) (st.setV r1 hσ)).here
theorem psx_set (hN : X.N.Nodup) (hi : X.N[i]? = some x) (hx : Loc X.env.scope x) (h : PX X W e de) (hs : swapsWith e (some (.Name x pos')) pos.line X.env = pure false := by rfl)
    (hf : X.fn x = true ∨ X.env.scope.names.lookup x = some .local := by first | exact .inl rfl | exact .inr rfl | assumption) : PSX X W (.Assign [.Name x pos'] e pos) (sSet i de) :=
  psx_setG (fun te ht => ps_set hN hi hx ht hs hf) (List.getElem?_eq_some_iff.mp hi).1 h fun I => I.len
/-- name = a list of its own, to be changed -/
theorem psx_setM (hN : X.N.Nodup) (hi : X.N[i]? = some x) (hx : Loc X.env.scope x) (h : PO' X W e do') (hs : swapsWith e (some (.Name x pos')) pos.line X.env = pure false := by rfl)
    (hf : X.fn x = true ∨ X.env.scope.names.lookup x = some .local := by first | exact .inl rfl | exact .inr rfl | assumption) : PSX X W (.Assign [.Name x pos'] e pos) (sSetM i do') := by
  refine ⟨fun pins s σ H D I ⟨f, Z, env, a⟩ => (ps_set hN hi hx h hs hf).run pins s σ H D I ?_⟩
  have hσ : i < σ.length := by rw [I.len]; exact (List.getElem?_eq_some_iff.mp hi).1
  refine ⟨f, Z, env, a.of.imp fun u H1 ⟨Z1, env1, v, s1, r1, a1⟩ => ?_⟩
  obtain ⟨st, o, e, p⟩ := a1
  cases e
  obtain ⟨q, vs, rfl, n, hH, l, r, fn, nm⟩ := r1
  exact p _ Z1 H1 (Same.refl _) (st.setM n hH l r fn nm hσ)
theorem psx_if (hc : PTX X W c dc) (ha : PSsX X W body d1) (hb : PSsX X W els d2) : PSX X W (.If c body els pos) (sIf dc d1 d2) := psimp (ps_if hc ha hb) fun D σ H ⟨f, Z, env, a⟩ => by
  refine (a.of.imp fun u H1 ⟨Z1, env1, v, s1, r1, a1⟩ => ?_).tB
  cases v with
  | bl b =>
    cases r1
    refine ⟨b, rfl, ?_⟩
    cases b with
    | true => exact (show SAt (gOf X) W f Z1 env1 d1 D σ H1 from a1).here
    | false => exact (show SAt (gOf X) W f Z1 env1 d2 D σ H1 from a1).here
  | _ => obtain ⟨_, _, e, _⟩ := a1; cases e
end

/-! ### the rule for a def -/
def fnDen (m : Nat) (d : SDen) : Fn := fun args => match d (args.map .v ++ List.replicate (m - args.length) .un) with
  | some (.rt v _) => some (.ok v)
  | some (.nx _) => some (.ok .non)
  | some (.ex c _) => some (.error c)
  | _ => none
theorem start_len {N : List Str} {vs : List V} (h : vs.length ≤ N.length) : (start N vs).length = N.length := by
  unfold L2.start
  rw [List.length_append, List.length_map, List.length_replicate]
  omega
theorem stok_start {g : G} {Z H : Hp} {N : List Str} {vs : List V} {args : List PV} (e : Same Z H) (r : Reps g Z vs args) (h : vs.length ≤ N.length) :
    StOk g ⟨Z, H, fun _ => False⟩ Z H (start N vs) (args.map .v ++ List.replicate (N.length - args.length) .un) where
  z0 := Same.refl _
  zh := e
  fr := fun _ _ q _ => q
  nz := fun _ _ _ _ z => z
  pr := fun _ o q => ⟨o, q⟩
  mh := fun _ m => m.elim
  ln := by rw [start_len h, List.length_append, List.length_map, List.length_replicate, ← r.length]; omega
  sl := fun i c ei => by
    by_cases hi : i < args.length
    · rw [List.getElem?_append_left (by rw [List.length_map]; exact hi), List.getElem?_map] at ei
      cases ea : args[i]? with
      | none => rw [ea] at ei; cases ei
      | some x =>
        rw [ea] at ei
        cases ei
        obtain ⟨v, hv, rv⟩ := r.get' ea
        refine ⟨v, ?_, rv⟩
        unfold L2.start
        rw [List.getElem?_append_left (by rw [List.length_map, r.length]; exact hi), List.getElem?_map, hv]
        rfl
    · rw [List.getElem?_append_right (by rw [List.length_map]; omega)] at ei
      rw [List.getElem?_replicate] at ei
      split at ei
      · cases ei; trivial
      · cases ei
  sep := fun i j x y a ei ej mx my si sj => by
    have no : ∀ {i : Nat} {c : Cell}, (args.map Cell.v ++ List.replicate (N.length - args.length) .un)[i]? = some c → c.mut = true → False := fun {i c} ei m => by
      rcases List.mem_append.mp (List.mem_of_getElem? ei) with h | h
      · obtain ⟨x, _, rfl⟩ := List.mem_map.mp h; cases m
      · rw [(List.mem_replicate.mp h).2] at m; cases m
    exact (no ei mx).elim
section
variable {P : Program} {w : World} {K : PySem.W.Frag} {mg : Str → Option Value} {base : Heap}
theorem fnP {x qual : Str} {params : Arguments} {body : List Stmt} {scope : Scope} {dvs : List V} {kws : List (Str × V)} {f : Addr} {fd : FuncData} {N ps : List Str} {k : Nat} {d : SDen} (F : FunD K x qual params body scope dvs kws f fd) (S : FnScope N ps scope)
    (hb : ∀ (cdv : Value) (A : Around) (outer : List PySem.Env) (s : Shared) (H : Hp) (E : XK), RoomG k (A.deeper (envOfC qual scope s.heap.objs.size f cdv)) →
      Takes (cxOf (L2.CX P w) P w K mg base N qual scope f cdv A outer s H E) (fun cls dd _ H' => E cls dd H') →
      PSsX (cxOf (L2.CX P w) P w K mg base N qual scope f cdv A outer s H E) (fun cls dd _ H' => E cls dd H') body d) :
    FnG P w K mg base (L2.CX P w) (k + 1) f fd ps (SpP ⟨K, mg⟩ ps.length (fnDen N.length d)) := by
  refine fnG_of F S (fun vs H Q E ⟨Z, args, o, _, r, l, _⟩ => r.length.trans l) fun cdv A outer s H vs Q E hr h => ?_
  refine ⟨_, hb cdv A outer s H E hr (takes_of rfl rfl rfl rfl), ?_⟩
  obtain ⟨Z, args, o, e, r, l, hF, ho⟩ := h
  have hpl : ps.length ≤ N.length := by have := congrArg List.length S.pre; rw [List.length_take] at this; omega
  have st : StOk ⟨K, mg⟩ ⟨Z, H, fun _ => False⟩ Z H (start N vs) (args.map .v ++ List.replicate (N.length - args.length) .un) := stok_start e r (by rw [r.length, l]; exact hpl)
  have ex : ∀ {Z' H' : Hp} {σ' : L2.St} {env' : Cells}, Same Z Z' → StOk ⟨K, mg⟩ ⟨Z, H, fun _ => False⟩ Z' H' σ' env' → Ext Z H Z' H' := fun {Z' H' σ' env'} s st => ⟨s, fun a o q => st.fr a o q (fun z => z), st.zh, fun a o q z => st.nz a o q (fun z => z) z⟩
  refine ⟨_, Z, _, st, ?_⟩
  unfold fnDen at hF
  cases hd : d (args.map .v ++ List.replicate (N.length - args.length) .un) with
  | none => rw [hd] at hF; cases hF
  | some so =>
    rw [hd] at hF
    cases so with
    | rt v e1 => cases hF; exact ⟨_, rfl, fun u σ' Z' H' s st' rv => ho u Z' H' (ex s st') rv⟩
    | nx e1 => cases hF; exact ⟨_, rfl, fun σ' Z' H' s st' => ho .non Z' H' (ex s st') .non⟩
    | ex c e1 => cases hF; exact ⟨_, rfl, fun cls dd σ' Z' H' s st' rv => ho cls dd Z' H' (ex s st') rv⟩
    | bk e1 => cases hF
    | ct e1 => cases hF
end
end Pu
set_option Elab.async false
set_option linter.all false
set_option maxRecDepth 100000
set_option maxHeartbeats 4000000
/-! Pu, part F: what is walked; targets; for; comprehensions. -/
namespace Pu
open PySem PySem.Spec PyProof.Rows L2

/-! ### what is walked -/
/-- the iterator J goes through the data xs -/
structure IterRep (g : G) (Z : Hp) (J : It) (xs : List PV) : Prop where
  ex : ∃ (n : Nat) (G' : Hp → Prop) (Y : Nat → Hp → V → Hp → Prop), Walk J n G' Y ∧ n = xs.length ∧ n ≤ sizeLine ∧ (∀ H, Same Z H → G' H) ∧
    ∀ i H v H', i < n → Y i H v H' → ∃ x, xs[i]? = some x ∧ ∀ (f : Frm) (Zc : Hp) (σ : L2.St) (env : Cells), Same Z Zc → StOk g f Zc H σ env → ∃ Z', Same Zc Z' ∧ StOk g f Z' H' σ env ∧ Rep g Z' v x
theorem IterRep.mono {g : G} {Z Z' : Hp} {J : It} {xs : List PV} (h : IterRep g Z J xs) (s : Same Z Z') : IterRep g Z' J xs := by
  obtain ⟨n, G', Y, w, e, lz, hG, hY⟩ := h.ex
  exact ⟨n, G', Y, w, e, lz, fun H q => hG H (s.trans q), fun i H v H' hi y => by
    obtain ⟨x, ex, k⟩ := hY i H v H' hi y
    exact ⟨x, ex, fun f Zc σ env q st => k f Zc σ env (s.trans q) st⟩⟩
def tI (g : G) (W : WX) (d : Den (List PV)) : TI := fun σ H R => ∃ f Z env, At g W f Z env d (fun Z' _ _ J xs => IterRep g Z' J xs) R σ H
abbrev PIX (X : Cx) (W : WX) (tg it : Expr) (d : Den (List PV)) : Prop := PI X tg it (tI (gOf X) W d)
theorem pi_or {X : Cx} {tg it : Expr} {t t' : TI} (h : PI X tg it t) (h' : PI X tg it t') : PI X tg it (fun σ H R => t σ H R ∨ t' σ H R) := ⟨fun pins s σ H R I q => q.elim (h.run pins s σ H R I) (h'.run pins s σ H R I)⟩
section
variable {g : G} {Z : Hp}
theorem iter_at {K : PySem.W.Frag} {J : It} {vs : List V} {xs : List PV} {G' : Hp → Prop} (lz : vs.length ≤ sizeLine) (w : Walk J vs.length G' (YAt vs)) (hG : ∀ H, Same Z H → G' H) (r : Reps g Z vs xs) : IterRep g Z J xs :=
  ⟨vs.length, G', YAt vs, w, r.length, lz, hG, fun i H v H' hi y => by
    obtain ⟨rfl, e⟩ := y
    obtain ⟨x, ex, rx⟩ := r.get e
    exact ⟨x, ex, fun f Zc σ env q st => ⟨Zc, Same.refl _, st, rx.mono q⟩⟩⟩
end
/-- the signs of a text -/
def signs (s : Str) : List PV := s.cps.toList.map fun c => .str ⟨#[c]⟩
def PV.seq : PV → Option (List PV)
  | .str s => if s.cps.size ≤ sizeLine then some (signs s) else none
  | x => x.items
section
variable {X : Cx} {W : WX} {tg e a : Expr} {da : Den PV} {ds : Den (List PV)} {p pos : Pos} {g : G}
def dSeq (da : Den PV) : Den (List PV) := da.bind fun x => Den.lift x.seq
/-- over a list, a tuple, a text -/
theorem pix_seq (ha : PX X W a da) : PIX X W tg a (dSeq da) := piimp (pi_or (pi_list ha) (pi_or (pi_tup ha) (pi_str ha))) fun σ H R ⟨f, Z, env, a⟩ => by
  have a0 := a
  obtain ⟨st, o, eo, po⟩ := a
  unfold dSeq Den.bind at eo
  cases hd : da env with
  | none => rw [hd] at eo; cases eo
  | some o1 =>
    rw [hd] at eo
    cases o1 with
    | ex c e1 =>
      have eo : some (Out.ex c e1) = some o := eo
      cases eo
      exact .inl ⟨f, Z, env, st, _, hd, po⟩
    | ok x e1 =>
      have eo : Den.lift x.seq e1 = some o := eo
      have key : ∀ xs, x.items = some xs → o = .ok xs e1 → (iList X.K (tP (gOf X) W da) σ H R ∨ iTup X.K (tP (gOf X) W da) σ H R ∨ iStr (tP (gOf X) W da) σ H R) := fun xs hi ho => by
        subst ho
        have po' : ∀ b Z' H', Same Z Z' → StOk (gOf X) f Z' H' σ e1 → IterRep (gOf X) Z' b xs → R b H' := po
        by_cases hl : x = .lst xs
        · refine .inl ⟨f, Z, env, st, _, hd, fun u Z1 H1 s1 st1 r1 => ?_⟩
          obtain ⟨q, vs, rfl, l, rv, h⟩ := r1.seq st1.zh (PV.items_of hi)
          rcases h with h | h
          · subst hl
            cases r1 with
            | lst hz hl2 rv2 => exact ⟨q, rfl, ⟨vs, h.2⟩, po' _ Z1 H1 s1 st1 (iter_at (K := X.K) hl2 walk_list (fun H' q' => Same.sql q' hz) rv2)⟩
          · exact absurd hl h.1
        · refine .inr (.inl ⟨f, Z, env, st, _, hd, fun u Z1 H1 s1 st1 r1 => ?_⟩)
          obtain ⟨q, vs, rfl, l, rv, h⟩ := r1.seq st1.zh (PV.items_of hi)
          rcases h with h | h
          · exact absurd h.1 hl
          · obtain ⟨q', vs', e', l', rv', h'⟩ := r1.seq (Same.refl Z1) (PV.items_of hi)
            cases e'
            rcases h' with h' | h'
            · exact absurd h'.1 hl
            · exact ⟨q, rfl, ⟨vs, h.2⟩, po' _ Z1 H1 s1 st1 (iter_at (K := X.K) l' walk_tup (fun H' q' => Same.sqt q' h'.2) rv')⟩
      cases x with
      | str z =>
        have eo : Den.lift (if z.cps.size ≤ sizeLine then some (signs z) else none) e1 = some o := eo
        have lz : z.cps.size ≤ sizeLine := by
          by_cases h : z.cps.size ≤ sizeLine
          · exact h
          · rw [if_neg h] at eo; cases eo
        rw [if_pos lz] at eo
        cases eo
        by_cases hz : PyData.strOk z = true
        · refine .inr (.inr ⟨f, Z, env, st, _, hd, fun u Z1 H1 s1 st1 r1 => ?_⟩)
          cases r1
          refine ⟨z, rfl, po (Its z) Z1 H1 s1 st1 ⟨z.cps.size, _, _, walk_str, by unfold signs; simp, lz, fun _ _ => trivial, fun i H v H' hi y => ?_⟩⟩
          obtain ⟨rfl, c, hc, rfl⟩ := y
          refine ⟨.str ⟨#[c]⟩, by unfold signs; simp [hc], fun f Zc σ env q st => ⟨Zc, Same.refl _, st, .str _ ?_⟩⟩
          have h3 : c ∈ z.cps := Array.mem_of_getElem? hc
          have h5 : c < 0x110000 := by simpa using (Array.all_eq_true'.mp hz c h3)
          simp [PyData.strOk, h5]
        · refine .inr (.inr ⟨f, Z, env, st, _, hd, fun u Z1 H1 s1 st1 r1 => ?_⟩)
          cases r1 with | str _ q => exact absurd q hz
      | tup xs => exact key xs rfl (by have eo : Den.lift (some xs) e1 = some o := eo; cases eo; rfl)
      | ktup xs => exact key xs rfl (by have eo : Den.lift (some xs) e1 = some o := eo; cases eo; rfl)
      | lst xs => exact key xs rfl (by have eo : Den.lift (some xs) e1 = some o := eo; cases eo; rfl)
      | _ => cases eo
/-- over range(n) -/
theorem pix_range (hg : Gl X "range") (hm : X.mg "range" = none) (ha : PX X W a da) (na : starEach [a] X.env = (false, eval a X.env) :: starEach [] X.env := by rfl) : PIX X W tg (.Call (.Name "range" p) [a] [] pos) (dRg da) :=
  piimp (pi_range1 hg hm (pax_cons ha pax_nil na) na) fun σ H R ⟨f, Z, env, a⟩ => by
    refine ⟨f, Z, env, ?_⟩
    obtain ⟨st, o, eo, po⟩ := a
    refine ⟨st, ?_⟩
    unfold dRg Den.bind at eo
    unfold dCons dNil Den.bind
    cases hd : da env with
    | none => rw [hd] at eo; cases eo
    | some o1 =>
      rw [hd] at eo
      cases o1 with
      | ex c e1 =>
        have eo : some (Out.ex c e1) = some o := eo
        cases eo
        exact ⟨_, rfl, fun cls dd Z' H' s st r => po cls dd Z' H' s st r⟩
      | ok x e1 =>
        refine ⟨_, rfl, fun us Z1 H1 s1 st1 r1 => ?_⟩
        cases x with
        | int n =>
          have eo : Den.lift (if -16777216 ≤ n ∧ n ≤ 16777216 then some (rgP n) else none) e1 = some o := eo
          split at eo
          · cases eo
            obtain ⟨u, rfl, ru⟩ := r1.one
            cases ru
            refine ⟨n, rfl, by omega, by omega, po _ Z1 H1 s1 st1 ⟨n.toNat, _, _, walk_range, by unfold rgP; simp, by rw [sizeLine_eq]; omega, fun _ _ => trivial, fun i H v H' hi y => ?_⟩⟩
            obtain ⟨rfl, rfl⟩ := y
            exact ⟨.int (i : Nat), by unfold rgP; simp [hi], fun f Zc σ env q st => ⟨Zc, Same.refl _, st, by show Rep (gOf X) Zc (.int (0 + (i : Int))) (.int i); rw [Int.zero_add]; exact .int _⟩⟩
          · cases eo
        | _ => cases eo
end

/-! ### enumerate of a tuple, as HandS has it for a list -/
theorem meets_enumerate_newT (l : Addr) (items : Array Value) (n : Nat) (dct : Option Addr) (sl : Array (Option Value)) :
    Meets (Builtin.«enumerate.__new__» ⟨[.type "enumerate", .ref l], []⟩) (fun _ R s => s.heap.get? l = some { cls := .type "tuple", dict := dct, data := .seq items n, slots := sl } ∧
      R (.ok (.ret (.ref (s.heap.push { cls := .type "tuple_iterator", data := .fields #[.ref l, .int 0 0] }).objs.size)))
        { s with heap := (s.heap.push { cls := .type "tuple_iterator", data := .fields #[.ref l, .int 0 0] }).push { cls := .type "enumerate", data := .fields #[.none, .bool false, .ref s.heap.objs.size, rawInt 0, .none, .none] } }) :=
  .of_wp fun prog w A R s h => by
    obtain ⟨hp, g, d, tk, os⟩ := s; obtain ⟨hl, h⟩ := h
    have hsub := sub_enumerate
    have hL : Heap.IsTuple (Shared.heap ⟨hp, g, d, tk, os⟩) l items := ⟨_, hl, rfl, n, rfl⟩
    wp_walk using AutoSeq1.wpAny_loadPart' hl
    refine wpAny_stack_any fun st => wpAny_pure ?_
    split
    · rename_i c _ _ _ _ _
      cases (c == Value.type "enumerate")
      · wp_walk using AutoSeq1.wpAny_loadPart' hl, wpAny_pyIter_tuple hL
        exact ⟨_, rfl, h⟩
      · wp_walk using AutoSeq1.wpAny_loadPart' hl, wpAny_pyIter_tuple hL
        exact ⟨_, rfl, h⟩
    · wp_walk using AutoSeq1.wpAny_loadPart' hl, wpAny_pyIter_tuple hL
      exact ⟨_, rfl, h⟩

section
variable {prog : Program} {w : World} {A : Around} {E : Value → Shared → Prop} {s : Shared}
theorem call_enumerate_tuple {l : Addr} {items : Array Value} {Q : Value → Shared → Prop} (hL : s.heap.IsTuple l items)
    (h : ∀ h', IsEnum h' (s.heap.objs.size + 1) s.heap.objs.size 0 .none → h'.IsTupleIter s.heap.objs.size l 0 → h'.objs.size = s.heap.objs.size + 2 →
      (∀ b o, s.heap.get? b = some o → h'.get? b = some o) → Q (.ref (s.heap.objs.size + 1)) { s with heap := h' }) :
    wpAny (model prog w) A (call (.type "enumerate") [.ref l]) Q E s := by
  obtain ⟨⟨c, dct, dt, sl⟩, hl, hc, n, hd⟩ := hL
  replace hc : c = .type "tuple" := hc
  replace hd : dt = .seq items n := hd
  subst hc hd
  refine callType_new F.called_enumerate (by decide) (F.typeCall_enumerate_1 _) (F.newCall_enumerate_1 _) (fun obj => F.args_object_init_2 obj _) F.entry_enumerate_new
    (meets_enumerate_newT l items n dct sl) ⟨hl, ?_⟩
  have hz : (s.heap.push { cls := .type "tuple_iterator", data := .fields #[.ref l, .int 0 0] }).objs.size = s.heap.objs.size + 1 := Heap.size_push ..
  show _ ∧ _
  rw [hz]
  have he : IsEnum ((s.heap.push { cls := .type "tuple_iterator", data := .fields #[.ref l, .int 0 0] }).push
      { cls := .type "enumerate", data := .fields #[.none, .bool false, .ref s.heap.objs.size, rawInt 0, .none, .none] }) (s.heap.objs.size + 1) s.heap.objs.size 0 .none := by
    have := Heap.get?_push_size (s.heap.push { cls := .type "tuple_iterator", data := .fields #[.ref l, .int 0 0] })
      (o := { cls := .type "enumerate", data := .fields #[.none, .bool false, .ref s.heap.objs.size, rawInt 0, .none, .none] }) rfl
    rw [hz] at this; exact this
  refine ⟨⟨_, he, rfl⟩, h _ he ⟨_, Heap.get?_push_of_some _ (Heap.get?_push_size _ rfl), rfl, rfl⟩ (by rw [Heap.size_push, hz]) fun b o x => Heap.get?_push_of_some _ (Heap.get?_push_of_some _ x)⟩
end
/-- the tuple at a, each item in a new pair -/
def IteT (K : PySem.W.Frag) (a : Addr) : It :=
  ⟨fun i H => ∃ (xs : List V) (x : V), SqT K H a xs ∧ xs[i]? = some x, fun i H v H' => ∃ T x, v = .ref T ∧ H T = none ∧ H' = upd H T (.tup [.int (i : Nat), x]) ∧ ∀ xs, SqT K H a xs → xs[i]? = some x, fun i H => ∃ xs : List V, SqT K H a xs ∧ xs.length ≤ i⟩
theorem turn_enumT {P : Program} {w : World} {K : PySem.W.Frag} {elts : List Expr} {kk : Nat} {tpos : Pos} (a e it : Addr) :
    Turn P w K (.Tuple elts kk tpos) (IteT K a) [e, it] e (fun i h => (∃ old, IsEnum h e it ((i : Nat) : Int) old) ∧ h.IsTupleIter it a i ∧ e ≠ it) where
  mem := by simp
  obj := fun i h st b hb => by
    obtain ⟨⟨old, he⟩, ⟨o, ho, hc, hd⟩, _⟩ := st
    have e' : b = e ∨ b = it := by simpa using hb
    rcases e' with z | z
    · rw [z]; exact ⟨_, he, fun v q => nomatch q⟩
    · rw [z]; exact ⟨o, ho, fun v q => by rw [hd] at q; cases q⟩
  keep := fun i h h' st k => let ⟨⟨old, he⟩, hi, hne⟩ := st; ⟨⟨old, k e (by simp) _ he⟩, hi.at fun o q => k it (by simp) o q, hne⟩
  item := by
    intro X hP hw hK hc i pins s σ H E I hf st hg
    subst hP hw hK
    obtain ⟨⟨old, he⟩, hit, hne⟩ := st
    obtain ⟨xs, x, hq, hx⟩ := hg
    obtain ⟨its, rv, p, hz⟩ := I.tuple hq
    obtain ⟨u, hu, ru⟩ := rv.get hx
    have hel : e < s.heap.objs.size := Heap.lt_size he
    have hil : it < s.heap.objs.size := by obtain ⟨_, q, _⟩ := hit; exact Heap.lt_size q
    have hai : a ≠ it := fun z => by
      obtain ⟨o, ho, hc, _⟩ := hit
      obtain ⟨o', ho', hc', _⟩ := p
      rw [z, ho] at ho'
      cases ho'
      rw [hc] at hc'
      exact absurd hc' (by decide)
    have hlt : i < its.toArray.size := by
      have := (List.getElem?_eq_some_iff.mp hu).1
      simpa using this
    refine wpAny_pyNext_enum_itemD (D := Draws.tuple (A := X.A.in1) (I.ok.hd hc) it a hai its.toArray) he ⟨hit, p⟩ hlt hne (by simp only [List.mem_cons, List.not_mem_nil, or_false, not_or]; exact ⟨hne, fun z => by
      subst z
      obtain ⟨o', ho', hc', _⟩ := p
      rw [he] at ho'
      cases ho'
      exact absurd (show Value.type "enumerate" = Value.type "tuple" from hc') (by decide)⟩) fun y h' tk hy ho hst' hT hsz hk => ?_
    have hy' : u = y := by
      have q : its.toArray[i]? = some u := by simpa using hu
      rw [q] at hy
      exact Option.some.inj hy
    subst hy'
    obtain ⟨hit', _⟩ := hst'
    refine ⟨_, rfl, wpAny_letOwnedTupleGo_enum (s := { s with heap := h', toks := tk + 1 }) ho fun h'' he' sb => ?_⟩
    have hT2 : h''.get? s.heap.objs.size = some { cls := .type "tuple", data := .seq #[.int i tk, u] } := (sb.2 _ (Nat.ne_of_gt hel)).trans hT
    have new : ObjOk X.prog X.w (upd H s.heap.objs.size (.tup [.int (i : Nat), x])) h'' s.heap.objs.size (.tup [.int (i : Nat), x]) :=
      ⟨by show 2 ≤ sizeLine; decide, [.int i tk, u], .cons ⟨_, rfl⟩ (.cons ru .nil), ⟨_, hT2, rfl, _, rfl⟩⟩
    have I1 : Inv X pins σ (upd H s.heap.objs.size (.tup [.int (i : Nat), x])) { s with heap := h'', toks := tk + 1 } :=
      I.turnedNew (ch := [e, it]) (fun b ob hb q => (sb.2 b (fun z => hb (by simp [z]))).trans (hk b ob (fun z => hb (by simp [z])) (fun z => hb (by simp [z])) q)) hf (Nat.le_refl _) new
    refine ⟨.ref s.heap.objs.size, _, I1, rfl, ⟨_, x, rfl, I.hok.fresh (Nat.le_refl _), rfl, fun ys hy => by rw [I.tuple_inj hy hq]; exact hx⟩, ⟨⟨u, ?_⟩, hit'.at fun o q => (sb.2 it (Ne.symm hne)).trans q, hne⟩, fun b hb => ?_⟩
    · have e1 : ((i + 1 : Nat) : Int) = (i : Int) + 1 := by omega
      rw [e1]; exact he'
    · have hb' : b < s.heap.objs.size := by
        have e' : b = e ∨ b = it := by simpa using hb
        rcases e' with z | z
        · rw [z]; exact hel
        · rw [z]; exact hil
      rw [upd_ne (Nat.ne_of_lt hb')]
      exact (hf b hb).1
  done := by
    intro X hP hw hK hc i pins s σ H E I hf st hg
    subst hP hw hK
    obtain ⟨⟨old, he⟩, hit, hne⟩ := st
    obtain ⟨xs, hq, hx⟩ := hg
    obtain ⟨its, rv, p, hz⟩ := I.tuple hq
    obtain ⟨f0, f1, f2, f3, f4, f5⟩ := hf it (by simp)
    have hl := rv.length
    have hT : s.TypeIs (.ref e) "enumerate" := ⟨_, he, rfl⟩
    unfold pyNext
    refine wpAny_bind (wpAny_attempt (wpAny_callSpecial?_slot (name := Str.ofString "__next__") hT F.slot_enumerate_next
      (wpAny_call_entry F.slot_enumerate_next hT F.entry_enumerate_next ?_ (F.args_enumerate_next_1 _))))
    show wpAny _ _ (field (.ref e) 2 >>= _) _ _ _
    refine wpAny_bind (wpAny_field he rfl (x := .ref it) rfl ?_)
    refine wpAny_bind (wpAny_nextOf_tuple_end (I.ok.hd hc) hit (show s.heap.IsTuple a its.toArray from p) (by simp; omega) fun h' x he' hx' => ?_)
    obtain ⟨o, ho, hc⟩ := hx'
    refine wpAny_bind (wpAny_isInstance (T := "StopIteration") (b := true) ⟨o, ho, hc⟩ isSubtype_stop ?_)
    exact wpAny_pure ⟨rfl, I.turned (t' := s.toks) (fun b o hb q => he' b o hb q) f0 f1 f3 f4 f5⟩
  self := fun A i s Q E st h => let ⟨⟨_, he⟩, _⟩ := st; wpAny_pyIter_enum he h
def iEnumT (K : PySem.W.Frag) (ta : TA) : TI := fun σ H R => ta σ H fun vs H1 => ∃ a xs, vs = [.ref a] ∧ SqT K H1 a xs ∧ R (IteT K a) H1
theorem pi_enumT {X : Cx} {e : Expr} {ta : TA} {p pos tpos : Pos} {elts : List Expr} {kk : Nat} (hg : Gl X "enumerate") (hm : X.mg "enumerate" = none) (ha : PA X [e] ta) (hs : starEach [e] X.env = [(false, eval e X.env)] := by rfl) :
    PI X (.Tuple elts kk tpos) (.Call (.Name "enumerate" p) [e] [] pos) (iEnumT X.K ta) := by
  refine ⟨fun pins s σ H R I h => ?_⟩
  refine Call_ (ld_blt I hg hm boot_enumerate (PyProof.Rows.callWith_type1 (thn (ha.run pos pins s σ H _ I h) fun us s1 ⟨vs, H1, I1, r1, q1⟩ => ?_) hs rfl))
  obtain ⟨a, xs, ex, hq, q⟩ := q1
  subst ex
  cases r1 with
  | cons r rr =>
    cases rr
    cases r
    obtain ⟨its, rv, p', hz⟩ := I1.tuple hq
    refine call_enumerate_tuple (show s1.heap.IsTuple a its.toArray from p') fun h' he hit hsz hk => wpAny_pyIter_enum he ?_
    have I2 : Inv X pins σ H1 { s1 with heap := h' } := I1.kept (t' := s1.toks) hk
    refine ⟨s1.heap.objs.size + 1, [s1.heap.objs.size + 1, s1.heap.objs.size], _, _, H1, rfl, I2, turn_enumT a (s1.heap.objs.size + 1) s1.heap.objs.size, ⟨⟨.none, he⟩, hit, Nat.succ_ne_self _⟩, fun b hb => ?_, q⟩
    have e' : b = s1.heap.objs.size + 1 ∨ b = s1.heap.objs.size := by simpa using hb
    have hle : s1.heap.objs.size ≤ b := by
      rcases e' with z | z
      · rw [z]; exact Nat.le_add_right _ _
      · rw [z]; exact Nat.le_refl _
    exact I1.fpOk hle (I1.hok.fresh hle)
theorem walk_enumT {K : PySem.W.Frag} {a : Addr} {xs : List V} : Walk (IteT K a) xs.length (fun H => SqT K H a xs) (YPair (fun i => some (.int (i : Nat))) (fun i => xs[i]?)) := by
  refine ⟨fun i _ hi q => ⟨xs, xs[i], q, by simp [hi]⟩, fun _ q => ⟨xs, q, Nat.le_refl _⟩, fun i H v H' _ q y => ?_⟩
  obtain ⟨T, x, h1, h2, h3, h4⟩ := y
  exact ⟨T, .int (i : Nat), x, h1, h2, h3, rfl, h4 xs q⟩
/-- the pairs of an enumerate -/
def enumP (xs : List PV) : List PV := xs.mapIdx fun i x => .ktup [.int (i : Nat), x]
theorem iter_enum {g : G} {Z : Hp} {J : It} {vs : List V} {xs : List PV} {G' : Hp → Prop} (lz : vs.length ≤ sizeLine) (w : Walk J vs.length G' (YPair (fun i => some (.int (i : Nat))) (fun i => vs[i]?))) (hG : ∀ H, Same Z H → G' H) (r : Reps g Z vs xs) : IterRep g Z J (enumP xs) :=
  ⟨vs.length, G', _, w, by unfold enumP; rw [List.length_mapIdx]; exact r.length, lz, hG, fun i H v H' hi y => by
    obtain ⟨T, a, b, rfl, hT, rfl, ea, eb⟩ := y
    obtain ⟨x, ex, rx⟩ := r.get eb
    cases ea
    refine ⟨.ktup [.int (i : Nat), x], by unfold enumP; rw [List.getElem?_mapIdx, ex]; rfl, fun f Zc σ env q st => ⟨upd Zc T (.tup [.int (i : Nat), b]), same_upd (st.zn hT), st.lay hT, ?_⟩⟩
    exact .ktup upd_same (by show 2 ≤ sizeLine; decide) (.cons (.int _) (.cons ((rx.mono q).mono (same_upd (st.zn hT))) .nil))⟩
def dEnum (da : Den PV) : Den (List PV) := da.bind fun x => Den.lift (x.items.map enumP)
theorem pix_enum {X : Cx} {W : WX} {a : Expr} {da : Den PV} {p pos tpos : Pos} {elts : List Expr} {kk : Nat} (hg : Gl X "enumerate") (hm : X.mg "enumerate" = none) (ha : PX X W a da) (na : starEach [a] X.env = (false, eval a X.env) :: starEach [] X.env := by rfl) :
    PIX X W (.Tuple elts kk tpos) (.Call (.Name "enumerate" p) [a] [] pos) (dEnum da) := piimp (pi_or (pi_enum hg hm (pax_cons ha pax_nil na) na) (pi_enumT hg hm (pax_cons ha pax_nil na) na)) fun σ H R ⟨f, Z, env, a⟩ => by
  obtain ⟨st, o, eo, po⟩ := a
  unfold dEnum Den.bind at eo
  cases hd : da env with
  | none => rw [hd] at eo; cases eo
  | some o1 =>
    rw [hd] at eo
    cases o1 with
    | ex c e1 =>
      have eo : some (Out.ex c e1) = some o := eo
      cases eo
      exact .inl ⟨f, Z, env, st, .ex c e1, by unfold dCons dNil Den.bind; rw [hd], fun cls dd Z' H' s st r => po cls dd Z' H' s st r⟩
    | ok x e1 =>
      have eo : Den.lift (x.items.map enumP) e1 = some o := eo
      have hd2 : dCons da dNil env = some (.ok [x] e1) := by unfold dCons dNil Den.bind; rw [hd]; rfl
      cases hi : x.items with
      | none => rw [hi] at eo; cases eo
      | some xs =>
        rw [hi] at eo
        cases eo
        have po' : ∀ b Z' H', Same Z Z' → StOk (gOf X) f Z' H' σ e1 → IterRep (gOf X) Z' b (enumP xs) → R b H' := po
        by_cases hl : x = .lst xs
        · refine .inl ⟨f, Z, env, st, _, hd2, fun us Z1 H1 s1 st1 r1 => ?_⟩
          obtain ⟨u, rfl, ru⟩ := r1.one
          subst hl
          cases ru with
          | lst hz hl2 rv2 => exact ⟨_, _, rfl, Same.sql st1.zh hz, po' _ Z1 H1 s1 st1 (iter_enum hl2 (walk_enum (K := X.K)) (fun H' q' => Same.sql q' hz) rv2)⟩
        · refine .inr ⟨f, Z, env, st, _, hd2, fun us Z1 H1 s1 st1 r1 => ?_⟩
          obtain ⟨u, rfl, ru⟩ := r1.one
          obtain ⟨q', vs', e', l', rv', h'⟩ := ru.seq (Same.refl Z1) (PV.items_of hi)
          subst e'
          rcases h' with h' | h'
          · exact absurd h'.1 hl
          · exact ⟨_, _, rfl, Same.sqt st1.zh h'.2, po' _ Z1 H1 s1 st1 (iter_enum l' (walk_enumT (K := X.K)) (fun H' q' => Same.sqt q' h'.2) rv')⟩
end Pu
set_option Elab.async false
set_option linter.all false
set_option maxRecDepth 100000
set_option maxHeartbeats 4000000
/-! Pu, part G: targets; for; list comprehensions. -/
namespace Pu
open PySem PySem.Spec PyProof.Rows L2

/-! ### slots forgotten -/
def wipeE (e : Cells) : List Nat → Cells
  | [] => e
  | v :: vs => (wipeE e vs).set v .un
theorem wipeE_length (e : Cells) : ∀ vs : List Nat, (wipeE e vs).length = e.length
  | [] => rfl
  | v :: vs => by unfold wipeE; rw [List.length_set, wipeE_length e vs]
theorem wipe_idem_set (σ : L2.St) (i : Nat) (x : Option V) : ∀ vs : List Nat, i ∈ vs → wipe (σ.set i x) vs = wipe σ vs
  | [], h => by cases h
  | v :: vs, h => by
    unfold wipe
    by_cases hm : i ∈ vs
    · rw [wipe_idem_set σ i x vs hm]
    · have e : i = v := by
        rcases List.mem_cons.mp h with e | e
        · exact e
        · exact absurd e hm
      subst e
      have q : ∀ ws : List Nat, i ∉ ws → wipe (σ.set i x) ws = (wipe σ ws).set i x := by
        intro ws
        induction ws with
        | nil => intro _; rfl
        | cons w ws ih =>
          intro hn
          rw [List.mem_cons, not_or] at hn
          unfold wipe
          rw [ih hn.2, List.set_comm _ _ hn.1]
      rw [q vs hm, List.set_set]
theorem wipe_twice (σ : L2.St) : ∀ (vs ws : List Nat), (∀ i ∈ ws, i ∈ vs) → wipe (wipe σ ws) vs = wipe σ vs
  | vs, [], _ => rfl
  | vs, w :: ws, h => by
    show wipe ((wipe σ ws).set w none) vs = _
    rw [wipe_idem_set _ _ _ _ (h w List.mem_cons_self), wipe_twice σ vs ws fun i hi => h i (List.mem_cons_of_mem _ hi)]
section
variable {g : G} {f : Frm} {Z H : Hp} {σ : L2.St} {env : Cells}
theorem StOk.wipes (st : StOk g f Z H σ env) : ∀ vs : List Nat, StOk g f Z H (wipe σ vs) (wipeE env vs)
  | [] => st
  | v :: vs => (st.wipes vs).wipe1
theorem StOk.forgets (st : StOk g f Z H σ env) : ∀ vs : List Nat, StOk g f Z H σ (wipeE env vs)
  | [] => st
  | v :: vs => (st.forgets vs).forget
theorem wipe_get {σ : L2.St} {i : Nat} : ∀ {vs : List Nat}, i ∉ vs → (wipe σ vs)[i]? = σ[i]?
  | [], _ => rfl
  | v :: vs, h => by
    rw [List.mem_cons, not_or] at h
    unfold wipe
    rw [List.getElem?_set_ne (Ne.symm h.1), wipe_get h.2]
theorem wipeE_in {e : Cells} {i : Nat} {c : Cell} : ∀ {vs : List Nat}, i ∈ vs → (wipeE e vs)[i]? = some c → c = .un
  | [], h, _ => by cases h
  | v :: vs, h, q => by
    unfold wipeE at q
    by_cases hv : v = i
    · subst hv
      by_cases hl : v < (wipeE e vs).length
      · rw [List.getElem?_set_self hl] at q; cases q; rfl
      · rw [List.getElem?_eq_none (by rw [List.length_set]; omega)] at q; cases q
    · rw [List.getElem?_set_ne hv] at q
      refine wipeE_in (vs := vs) ?_ q
      rcases List.mem_cons.mp h with z | z
      · exact absurd z.symm hv
      · exact z
/-- the slots' own values come back: the cells at vs tell nothing -/
theorem StOk.unwipe {vs : List Nat} {e : Cells} (st : StOk g f Z H (wipe σ vs) (wipeE e vs)) : StOk g f Z H σ (wipeE e vs) where
  z0 := st.z0
  zh := st.zh
  fr := st.fr
  nz := st.nz
  pr := st.pr
  mh := st.mh
  ln := by rw [st.ln, wipe_length]
  sl := fun i c q => by
    by_cases hi : i ∈ vs
    · rw [wipeE_in hi q]; trivial
    · have r := st.sl i c q
      unfold Slot at r ⊢
      rw [wipe_get hi] at r
      exact r
  sep := fun i j x y a ei ej mx my si sj => by
    have ni : i ∉ vs := fun h => by rw [wipeE_in h ei] at mx; cases mx
    have nj : j ∉ vs := fun h => by rw [wipeE_in h ej] at my; cases my
    exact st.sep i j x y a ei ej mx my (by rw [wipe_get ni]; exact si) (by rw [wipe_get nj]; exact sj)
/-- a thing outside of the frozen part, of the frame and of all cells is changed -/
theorem StOk.poke (st : StOk g f Z H σ env) {D : Addr} {o : HO} (n : f.H D = none) (zD : Z D = none) (nm : ¬ Muts σ env D) : StOk g f Z (upd H D o) σ env where
  z0 := st.z0
  zh := fun a u e => by rw [upd_ne (fun z => by subst z; rw [zD] at e; cases e)]; exact st.zh a u e
  fr := fun a u e m => by rw [upd_ne (ne_of_none e n)]; exact st.fr a u e m
  nz := st.nz
  pr := fun a u e => by
    obtain ⟨u', q⟩ := st.pr a u e
    exact ⟨u', by rw [upd_ne (ne_of_none e n)]; exact q⟩
  mh := st.mh
  ln := st.ln
  sl := fun i c e => by
    have q := st.sl i c e
    cases c with
    | un => trivial
    | v x => exact q
    | m own xs =>
      obtain ⟨b, vs, e1, e2, e3, l, r, e4⟩ := q
      exact ⟨b, vs, e1, e2, by rw [upd_ne (fun z => by subst z; exact nm ⟨i, _, e, rfl, e1⟩)]; exact e3, l, r, e4⟩
    | d own ks vs =>
      obtain ⟨b, kvs, e1, e2, e3, l, hk, ho, r, e4⟩ := q
      exact ⟨b, kvs, e1, e2, by rw [upd_ne (fun z => by subst z; exact nm ⟨i, _, e, rfl, e1⟩)]; exact e3, l, hk, ho, r, e4⟩
    | o own c ns vs =>
      obtain ⟨b, fs, e1, e2, ⟨C, dx, e3, hc⟩, hk, r, e4⟩ := q
      exact ⟨b, fs, e1, e2, ⟨C, dx, by rw [upd_ne (fun z => by subst z; exact nm ⟨i, _, e, rfl, e1⟩)]; exact e3, hc⟩, hk, r, e4⟩
  sep := st.sep
end

/-! ### targets -/
/-- the names at is take x -/
structure PGX (X : Cx) (tg : Expr) (t : TG) (is : List Nat) (gx : PV → Cells → Option Cells) : Prop where
  pg : PG X tg t
  ok : ∀ (f : Frm) (Z : Hp) (env : Cells) (σ : L2.St) (H : Hp) (v : V) (x : PV) (env' : Cells) (Q : L2.St → Hp → Prop), StOk (gOf X) f Z H σ env → Rep (gOf X) Z v x → gx x env = some env' →
    (∀ σ', StOk (gOf X) f Z H σ' env' → (∀ vs : List Nat, (∀ i ∈ is, i ∈ vs) → wipe σ' vs = wipe σ vs) → Q σ' H) → t v σ H Q
structure PGsX (X : Cx) (ts : List Expr) (t : TGs) (is : List Nat) (gx : List PV → Cells → Option Cells) : Prop where
  pg : PGs X ts t
  ok : ∀ (f : Frm) (Z : Hp) (env : Cells) (σ : L2.St) (H : Hp) (v : List V) (x : List PV) (env' : Cells) (Q : L2.St → Hp → Prop), StOk (gOf X) f Z H σ env → Reps (gOf X) Z v x → gx x env = some env' →
    (∀ σ', StOk (gOf X) f Z H σ' env' → (∀ vs : List Nat, (∀ i ∈ is, i ∈ vs) → wipe σ' vs = wipe σ vs) → Q σ' H) → t v σ H Q
def gxN (i : Nat) : PV → Cells → Option Cells := fun x e => if i < e.length then some (e.set i (.v x)) else none
def gxNil : List PV → Cells → Option Cells
  | [], e => some e
  | _ :: _, _ => none
def gxCons (gx : PV → Cells → Option Cells) (r : List PV → Cells → Option Cells) : List PV → Cells → Option Cells
  | [], _ => none
  | x :: xs, e => (gx x e).bind (r xs)
/-- a, b, .. : a tuple of n items -/
def gxT (n : Nat) (r : List PV → Cells → Option Cells) : PV → Cells → Option Cells
  | .tup xs, e => if xs.length = n then r xs e else none
  | .ktup xs, e => if xs.length = n then r xs e else none
  | _, _ => none
section
variable {X : Cx} {tg : Expr} {es : List Expr} {pos : Pos} {i k n : Nat} {x : Str} {t : TG} {ts : TGs} {is js : List Nat} {gx : PV → Cells → Option Cells} {gs : List PV → Cells → Option Cells}
theorem pgx_name (hN : X.N.Nodup) (hi : X.N[i]? = some x) (hx : Loc X.env.scope x) (hf : X.fn x = true ∨ X.env.scope.names.lookup x = some .local := by first | exact .inl rfl | exact .inr rfl | assumption) : PGX X (.Name x pos) (gName i) [i] (gxN i) :=
  ⟨pg_name hN hi hx hf, fun f Z env σ H v x env' Q st r e k => by
    unfold gxN at e
    obtain ⟨h, rfl⟩ := of_ite e
    exact k _ (st.setV r (by rw [← st.ln]; exact h)) fun vs hv => wipe_idem_set σ i _ vs (hv i (List.mem_singleton.mpr rfl))⟩
theorem pgsx_nil : PGsX X [] gNil [] gxNil := ⟨pgs_nil, fun f Z env σ H v x env' Q st r e k => by
  cases x with
  | nil => cases r; cases e; exact ⟨rfl, k σ st fun _ _ => rfl⟩
  | cons _ _ => cases e⟩
theorem pgsx_cons (h1 : PGX X tg t is gx) (h2 : PGsX X es ts js gs) (hs : (assignEach (tg :: es) X.env).map (·.2) = assign tg X.env :: (assignEach es X.env).map (·.2) := by rfl) : PGsX X (tg :: es) (gCons t ts) (is ++ js) (gxCons gx gs) :=
  ⟨pgs_cons h1.pg h2.pg hs, fun f Z env σ H v x env' Q st r e k => by
    cases x with
    | nil => cases e
    | cons x xs =>
      cases r with
      | cons a b =>
        refine ⟨_, _, rfl, ?_⟩
        cases hg : gx x env with
        | none =>
          have e : (gx x env).bind (gs xs) = some env' := e
          rw [hg] at e; cases e
        | some e1 =>
          have e : (gx x env).bind (gs xs) = some env' := e
          rw [hg] at e
          have e : gs xs e1 = some env' := e
          refine h1.ok f Z env σ H _ x e1 _ st a hg fun σ1 st1 w1 => ?_
          exact h2.ok f Z e1 σ1 H _ xs env' _ st1 b e fun σ2 st2 w2 => k σ2 st2 fun vs hv => (w2 vs fun i hi => hv i (List.mem_append_right _ hi)).trans (w1 vs fun i hi => hv i (List.mem_append_left _ hi))⟩
theorem pgx_tup (hc : X.calm = true) (h : PGsX X es ts is gs) (hn : (assignEach es X.env).length = n := by rfl) (hst : (assignEach es X.env).findIdx? (·.1) = none := by rfl) : PGX X (.Tuple es k pos) (gTup X.K n ts) is (gxT n gs) :=
  ⟨pg_tup hc h.pg hn hst, fun f Z env σ H v x env' Q st r e k => by
    cases x with
    | tup xs =>
      have e : (if xs.length = n then gs xs env else none) = some env' := e
      split at e
      · cases r with
        | tup hz l rv => exact ⟨_, _, rfl, Same.sqt st.zh hz.sqt, by rw [rv.length]; assumption, h.ok f Z env σ H _ xs env' Q st rv e k⟩
      · cases e
    | ktup xs =>
      have e : (if xs.length = n then gs xs env else none) = some env' := e
      split at e
      · cases r with
        | ktup hz l rv => exact ⟨_, _, rfl, .inl (.inl (st.zh _ _ hz)), by rw [rv.length]; assumption, h.ok f Z env σ H _ xs env' Q st rv e k⟩
      · cases e
    | _ => cases e⟩
end

/-! ### for -/
def sLoop (gx : PV → Cells → Option Cells) (body : SDen) : List PV → SDen
  | [] => fun e => some (.nx e)
  | x :: xs => fun e => match gx x e with
    | none => none
    | some e1 => match body e1 with
      | some (.nx e2) => sLoop gx body xs e2
      | some (.ct e2) => sLoop gx body xs e2
      | some (.bk e2) => some (.nx e2)
      | o => o
def sFor (di : Den (List PV)) (gx : PV → Cells → Option Cells) (body : SDen) : SDen := sOf di (sLoop gx body)
theorem drop_at {α : Type} {xs : List α} {i : Nat} {x : α} (h : xs[i]? = some x) : xs.drop i = x :: xs.drop (i + 1) := by
  obtain ⟨h1, h2⟩ := List.getElem?_eq_some_iff.mp h
  rw [List.drop_eq_getElem_cons h1, h2]
section
variable {X : Cx} {W : WX} {tg it : Expr} {body : List Stmt} {pos : Pos} {di : Den (List PV)} {t : TG} {is : List Nat} {gx : PV → Cells → Option Cells} {db : SDen}
theorem psx_for (hp : PassesOwn (model X.prog X.w) X.A X.env X.xe) (hc : X.calm = true) (hi : PIX X W tg it di) (hg : PGX X tg t is gx) (hb : PSsX X W body db) (hs : ∀ x, foldedSetIterable it X.env x = pure x := by intro _; rfl) : PSX X W (.For tg it body [] pos) (sFor di gx db) :=
  psimp (ps_for hp hc hi hg.pg hb hs) fun D σ H ⟨f, Z, env, a⟩ => by
    refine ⟨f, Z, env, a.of.imp fun J H1 ⟨Z1, env1, xs, s1, r1, a1⟩ => ?_⟩
    obtain ⟨n, G', Y, w, en, lz, hG, hY⟩ := r1.ex
    refine for_it w (fun i σ H => ∃ Zi envi, Same Z1 Zi ∧ SAt (gOf X) W f Zi envi (sLoop gx db (xs.drop i)) D σ H) ⟨Z1, env1, Same.refl _, a1⟩ (fun i σ H hi ⟨Zi, envi, sz, ai⟩ => hG H (sz.trans ai.st.zh)) (fun i v σ H H' hi ⟨Zi, envi, sz, ai⟩ y => ?_) fun σ H ⟨Zi, envi, sz, ai⟩ => ?_
    · obtain ⟨x, ex, k⟩ := hY i H v H' hi y
      obtain ⟨st, o, eo, po⟩ := ai
      obtain ⟨Z2, s2, st2, r2⟩ := k f Zi σ envi sz st
      rw [drop_at ex] at eo
      cases hgx : gx x envi with
      | none => simp only [sLoop, hgx] at eo; cases eo
      | some e1 =>
        simp only [sLoop, hgx] at eo
        refine hg.ok f Z2 envi σ H' v x e1 _ st2 r2 hgx fun σ' st3 _ => ?_
        refine ⟨f, Z2, e1, st3, ?_⟩
        cases hdb : db e1 with
        | none => rw [hdb] at eo; cases eo
        | some ob =>
          rw [hdb] at eo
          refine ⟨ob, rfl, ?_⟩
          cases ob with
          | nx e2 => exact fun σ'' Z' H'' s st' => ⟨Z', e2, (sz.trans s2).trans s, st', o, eo, po.weak (s2.trans s)⟩
          | ct e2 => exact fun σ'' Z' H'' s st' => ⟨Z', e2, (sz.trans s2).trans s, st', o, eo, po.weak (s2.trans s)⟩
          | bk e2 => cases eo; exact po.weak s2
          | rt v e2 => cases eo; exact po.weak s2
          | ex c e2 => cases eo; exact po.weak s2
    · obtain ⟨st, o, eo, po⟩ := ai
      rw [en, List.drop_length] at eo
      cases eo
      exact po σ Zi H (Same.refl _) st
end

/-! ### list comprehensions -/
abbrev W0 : WX := fun _ _ _ _ => False
def lcLoop (gx : PV → Cells → Option Cells) (dc de : Den PV) (own : List Nat) : List PV → List PV → Den (List PV)
  | [], acc => Den.ret acc
  | x :: xs, acc => fun e => match gx x e with
    | none => none
    | some e1 => match dc e1 with
      | some (.ok (.bl true) e2) => (match de e2 with
        | some (.ok y e3) => lcLoop gx dc de own xs (acc ++ [y]) (wipeE e3 own)
        | _ => none)
      | some (.ok (.bl false) e2) => lcLoop gx dc de own xs acc (wipeE e2 own)
      | _ => none
def dLc (di : Den (List PV)) (gx : PV → Cells → Option Cells) (dc de : Den PV) (own : List Nat) : Den (List PV) := di.bind fun xs e => lcLoop gx dc de own xs [] (wipeE e own)
abbrev PTsX (X : Cx) (W : WX) (ifs : List Expr) (d : Den PV) : Prop := PTs X ifs (tB (tP (gOf X) W d))
theorem ptsx_nil {X : Cx} {W : WX} : PTsX X W [] (Den.ret (.bl true)) := ⟨fun pins s σ H Q I ⟨f, Z, env, a⟩ => pts_nil.run pins s σ H Q I (by
  obtain ⟨c, e, q⟩ := a.ret (.bl true) Z H (Same.refl _) a.st (.bl _)
  cases e
  exact q)⟩
theorem ptsx_one {X : Cx} {W : WX} {c : Expr} {d : Den PV} (h : PTX X W c d) : PTsX X W [c] d := pts_one h
section
variable {X : Cx} {W : WX} {tg it elt : Expr} {ifs : List Expr} {scope : Scope} {own : List (Str × Nat)} {pos : Pos} {di : Den (List PV)} {t : TG} {is : List Nat} {gx : PV → Cells → Option Cells} {dc de : Den PV}
theorem t_lc {σ : L2.St} {H : Hp} {Q : VK} {own : List Nat} (hg : ∀ (f : Frm) (Z : Hp) (env : Cells) (σ : L2.St) (H : Hp) (v : V) (x : PV) (env' : Cells) (Q : L2.St → Hp → Prop), StOk (gOf X) f Z H σ env → Rep (gOf X) Z v x → gx x env = some env' →
      (∀ σ', StOk (gOf X) f Z H σ' env' → (∀ vs : List Nat, (∀ i ∈ is, i ∈ vs) → wipe σ' vs = wipe σ vs) → Q σ' H) → t v σ H Q) (his : ∀ i ∈ is, i ∈ own)
    (h : tO (gOf X) W (dLc di gx dc de own) σ H Q) : tLc (tI (gOf X) W di) t (tB (tP (gOf X) W0 dc)) (tP (gOf X) W0 de) own σ H Q := by
  obtain ⟨f, Z, env, a⟩ := h
  refine ⟨f, Z, env, a.bind.imp fun J H1 ⟨Z1, env1, xs, s1, r1, a1⟩ D nD => ?_⟩
  obtain ⟨n, G', Y, w, en, lz, hG, hY⟩ := r1.ex
  obtain ⟨st1, o, eo, po⟩ := a1
  have fD : f.H D = none := st1.fH nD
  have fZD : f.Z D = none := by
    cases q : f.Z D with
    | none => rfl
    | some u => rw [st1.zh _ _ (st1.z0 _ _ q)] at nD; cases nD
  have nmD : ∀ {σ : L2.St} {e : Cells}, StOk (gOf X) f Z1 H1 σ e → ¬ Muts σ e D := fun st m => by
    obtain ⟨_, ⟨u, q⟩, _⟩ := st.muts m
    rw [nD] at q; cases q
  refine lc_it w (fun i H => ∃ Zi e acc vs, Same Z1 Zi ∧ H D = some (.lst vs) ∧ vs.length ≤ i ∧ Reps (gOf X) Zi vs acc ∧ Zi D = none ∧ ¬ Muts (wipe σ own) (wipeE e own) D ∧ StOk (gOf X) f Zi H (wipe σ own) (wipeE e own) ∧
      lcLoop gx dc de own (xs.drop i) acc (wipeE e own) = some o) ?_ (fun i H hi ⟨Zi, e, acc, vs, sz, _, _, _, _, _, st, _⟩ => hG H (sz.trans st.zh)) ?_ ?_
  · exact ⟨Z1, env1, [], [], Same.refl _, upd_same, Nat.zero_le _, .nil, st1.zn nD, nmD (st1.wipes own), (st1.wipes own).new nD, eo⟩
  · rintro i v H H' hi ⟨Zi, e, acc, vs, sz, hD, lv, rv, zD, nm, st, ei⟩ y
    obtain ⟨x, ex, k⟩ := hY i H v H' hi y
    rw [drop_at ex] at ei
    have stp := st.plus fD hD zD nm
    obtain ⟨Z2, s2, st2, r2⟩ := k (f.plus D (.lst vs)) Zi (wipe σ own) (wipeE e own) sz stp
    cases hgx : gx x (wipeE e own) with
    | none => simp only [lcLoop, hgx] at ei; cases ei
    | some e1 =>
      simp only [lcLoop, hgx] at ei
      refine hg (f.plus D (.lst vs)) Z2 (wipeE e own) (wipe σ own) H' v x e1 _ st2 r2 hgx fun σ' st3 hw => ?_
      have hw' : wipe σ' own = wipe (wipe σ own) own := hw own his
      have hw2 : wipe σ' own = wipe σ own := hw'.trans (wipe_twice σ own own fun _ h => h)
      refine ⟨hw2, ?_⟩
      -- the end of a turn
      have fin : ∀ {Z' : Hp} {H4 : Hp} {e4 : Cells} {ys : List PV} {us : List V}, Same Z2 Z' → StOk (gOf X) (f.plus D (.lst vs)) Z' H4 σ' e4 → us.length ≤ i + 1 → Reps (gOf X) Z' us ys → lcLoop gx dc de own (xs.drop (i + 1)) ys (wipeE e4 own) = some o →
          H4 D = some (.lst vs) ∧ ∃ Zi e acc vs', Same Z1 Zi ∧ upd H4 D (.lst us) D = some (.lst vs') ∧ vs'.length ≤ i + 1 ∧ Reps (gOf X) Zi vs' acc ∧ Zi D = none ∧ ¬ Muts (wipe σ own) (wipeE e own) D ∧ StOk (gOf X) f Zi (upd H4 D (.lst us)) (wipe σ own) (wipeE e own) ∧
            lcLoop gx dc de own (xs.drop (i + 1)) acc (wipeE e own) = some o := fun {Z' H4 e4 ys us} s st4 l r e => by
        have st5 := st4.wipes own
        rw [hw2] at st5
        obtain ⟨st6, h6, z6, m6⟩ := st5.minus st.mh fZD fD
        exact ⟨h6, Z', e4, ys, us, (sz.trans s2).trans s, upd_same, l, r, z6, m6, st6.poke fD z6 m6, e⟩
      cases hdc : dc e1 with
      | none => rw [hdc] at ei; cases ei
      | some oc =>
        rw [hdc] at ei
        cases oc with
        | ex c e2 => cases ei
        | ok b e2 =>
          cases b with
          | bl b =>
            refine ⟨f.plus D (.lst vs), Z2, e1, st3, _, hdc, fun u Z3 H3 s3 st4 r3 => ?_⟩
            cases r3
            refine ⟨b, rfl, ?_⟩
            cases b with
            | false =>
              rw [if_neg Bool.false_ne_true]
              obtain ⟨h6, Zi', e', acc', vs', q1, q2, q3, q4, q5, q6, q7, q8⟩ := fin (ys := acc) (us := vs) s3 st4 (Nat.le_succ_of_le lv) ((rv.mono s2).mono s3) ei
              have same : upd H3 D (.lst vs) = H3 := by
                funext b
                by_cases hb : b = D
                · subst hb; rw [upd_same, h6]
                · rw [upd_ne hb]
              rw [same] at q2 q7
              exact ⟨Zi', e', acc', vs', q1, q2, q3, q4, q5, q6, q7, q8⟩
            | true =>
              rw [if_pos rfl]
              cases hde : de e2 with
              | none => simp only [hde] at ei; cases ei
              | some oe =>
                cases oe with
                | ex c e3 => simp only [hde] at ei; cases ei
                | ok yv e3 =>
                  simp only [hde] at ei
                  refine ⟨f.plus D (.lst vs), Z3, e2, st4, _, hde, fun u H4' H4 s4 st5 r4 => ?_⟩
                  obtain ⟨h6, q⟩ := fin (us := vs ++ [u]) (s3.trans s4) st5 (by rw [List.length_append]; exact Nat.succ_le_succ lv) ((((rv.mono s2).mono s3).mono s4).append (.cons r4 .nil)) ei
                  exact ⟨vs, h6, Nat.lt_of_le_of_lt lv (Nat.lt_of_lt_of_le hi lz), q⟩
          | _ => cases ei
  · rintro H ⟨Zi, e, acc, vs, sz, hD, lv, rv, zD, nm, st, ei⟩
    rw [en, List.drop_length] at ei
    cases ei
    have nm' : ¬ Muts σ (wipeE e own) D := fun ⟨j, c, ej, m, sj⟩ => by
      have nj : j ∉ own := fun h => by rw [wipeE_in h ej] at m; cases m
      exact nm ⟨j, c, ej, m, by rw [wipe_get nj]; exact sj⟩
    exact po (.ref D) Zi H sz st.unwipe ⟨D, vs, rfl, zD, hD, Nat.le_trans lv lz, rv, fD, nm'⟩
theorem po_lc (hc : X.calm = true) (hN : X.N.Nodup) (hi : PIX X W tg it di) (ok : BlkOk X.N X.env.scope scope own)
    (hg : ∀ (s : Shared) (H : Hp) (C : Addr) (cl : List (Str × Addr)) (fp : List Addr), PGX (X.blk s H scope (compEnvC scope cl C X.env) fp) tg t is gx) (his : ∀ i ∈ is, i ∈ own.map (·.2))
    (ht : ∀ (s : Shared) (H : Hp) (C : Addr) (cl : List (Str × Addr)) (fp : List Addr), PTsX (X.blk s H scope (compEnvC scope cl C X.env) fp) W0 ifs dc)
    (he : ∀ (s : Shared) (H : Hp) (C : Addr) (cl : List (Str × Addr)) (fp : List Addr), PX (X.blk s H scope (compEnvC scope cl C X.env) fp) W0 elt de) (hs : ∀ x, foldedSetIterable it X.env x = pure x := by intro _; rfl) :
    PO' X W (.ListComp elt [⟨tg, it, ifs, 0⟩] scope pos) (dLc di gx dc de (own.map (·.2))) :=
  ⟨fun pins s σ H Q I h => (pe_lc (tt := tB (tP (gOf X) W0 dc)) (te := tP (gOf X) W0 de) hc hN hi ok (fun s H C cl fp => (hg s H C cl fp).pg) ht he hs).run pins s σ H Q I
    (t_lc (is := is) (fun f Z env σ H v x env' Q st r e k => (hg s (fun _ => none) 0 [] []).ok f Z env σ H v x env' Q st r e k) his h)⟩
/-- name = [..] -/
theorem psx_setLc {i : Nat} {y : Str} {py spos : Pos} (hc : X.calm = true) (hN : X.N.Nodup) (hy : X.N[i]? = some y) (hyl : X.env.scope.names.lookup y = some .local) (hsw : swapsWith (.ListComp elt [⟨tg, it, ifs, 0⟩] scope pos) (some (.Name y py)) spos.line X.env = pure true)
    (hi : PIX X W tg it di) (ok : BlkOk X.N X.env.scope scope own)
    (hg : ∀ (s : Shared) (H : Hp) (C : Addr) (cl : List (Str × Addr)) (fp : List Addr), PGX (X.blk s H scope (compEnvC scope cl C X.env) fp) tg t is gx) (his : ∀ i ∈ is, i ∈ own.map (·.2))
    (ht : ∀ (s : Shared) (H : Hp) (C : Addr) (cl : List (Str × Addr)) (fp : List Addr), PTsX (X.blk s H scope (compEnvC scope cl C X.env) fp) W0 ifs dc)
    (he : ∀ (s : Shared) (H : Hp) (C : Addr) (cl : List (Str × Addr)) (fp : List Addr), PX (X.blk s H scope (compEnvC scope cl C X.env) fp) W0 elt de) (hs : ∀ x, foldedSetIterable it X.env x = pure x := by intro _; rfl) :
    PSX X W (.Assign [.Name y py] (.ListComp elt [⟨tg, it, ifs, 0⟩] scope pos) spos) (sSet i (dLstOf (dLc di gx dc de (own.map (·.2))))) := by
  refine ⟨fun pins s σ H D I ⟨f, Z, env, a⟩ => (ps_setLc (tt := tB (tP (gOf X) W0 dc)) (te := tP (gOf X) W0 de) hc hN hy hyl hsw hi ok (fun s H C cl fp => (hg s H C cl fp).pg) ht he hs).run pins s σ H D I ?_⟩
  have hσ : i < σ.length := by rw [I.len]; exact (List.getElem?_eq_some_iff.mp hy).1
  refine t_lc (is := is) (gx := gx) (fun f Z env σ H v x env' Q st r e k => ?_) his ⟨f, Z, env, ?_⟩
  · exact (hg s (fun _ => none) 0 [] []).ok f Z env σ H v x env' Q st r e k
  · obtain ⟨st, o, eo, po⟩ := a
    refine ⟨st, ?_⟩
    unfold sSet sOf dLstOf Den.bind at eo
    cases hd : dLc di gx dc de (own.map (·.2)) env with
    | none => rw [hd] at eo; cases eo
    | some o1 =>
      rw [hd] at eo
      cases o1 with
      | ex c e1 => cases eo; exact ⟨_, rfl, fun cls dd Z' H' s st' r => po cls dd σ Z' H' s st' r⟩
      | ok xs e1 =>
        cases eo
        refine ⟨_, rfl, fun u Z1 H1 s1 st1 r1 => ?_⟩
        obtain ⟨Z2, s2, st2, r2⟩ := st1.ownF r1
        exact po _ Z2 H1 (s1.trans s2) (st2.setV r2 hσ)
end
end Pu
set_option Elab.async false
set_option linter.all false
set_option maxRecDepth 100000
set_option maxHeartbeats 4000000
/-! Pu, part H: changing lists; defs that change a list handed in; methods; raise and try; several targets. -/
namespace Pu
open PySem PySem.Spec PyProof.Rows L2

/-! ### a changing list's items -/
/-- name[..] of a changing list -/
def dIxM (i : Nat) (db : Den PV) : Den PV := fun e => match e[i]? with
  | some (.m _ _) => db.bind (fun y e1 => match e1[i]?, y with
    | some (.m _ xs), .int j => (match atI xs j with
      | some v => some (.ok v e1)
      | none => none)
    | _, _ => none) e
  | _ => none
def sSetIxM (i : Nat) (dv dk : Den PV) : SDen := sOf dv fun v e0 => match e0[i]? with
  | some (.m _ _) => sOf dk (fun k e => match e[i]?, k with
    | some (.m own xs), .int j => (match ixN xs.length j with
      | some n => some (.nx (e.set i (.m own (xs.set n v))))
      | none => none)
    | _, _ => none) e0
  | _ => none
/-- name.append(e) -/
def dAppM (i : Nat) (da : Den PV) : Den PV := fun e => match e[i]? with
  | some (.m _ _) => da.bind (fun y e1 => match e1[i]? with
    | some (.m own xs) => if xs.length < sizeLine then some (.ok .non (e1.set i (.m own (xs ++ [y])))) else none
    | _ => none) e
  | _ => none
/-- a changing list handed on as data, for good -/
def dFreeze (i : Nat) : Den PV := fun e => match e[i]? with
  | some (.m true xs) => some (.ok (.lst xs) (e.set i (.v (.lst xs))))
  | _ => none
section
variable {X : Cx} {W : WX} {i : Nat} {x : Str} {e b : Expr} {es : List Expr} {db dv dk : Den PV} {p pos pos' apos cpos : Pos}
theorem px_freeze (h : PE X (.Name x pos) (tVar i)) : PX X W (.Name x pos) (dFreeze i) := peimp h fun σ H Q ⟨f, Z, env, st, o, e, pp⟩ => by
  unfold dFreeze at e
  split at e
  · rename_i xs hx
    cases e
    obtain ⟨a, vs, e1, n, hH, l, r, ow⟩ := st.sl i _ hx
    obtain ⟨st2, r2, zz⟩ := st.freeze hx e1 hH l r
    exact ⟨.ref a, e1, pp _ _ H zz st2 r2⟩
  · cases e
theorem px_ixM (h : PE X (.Name x p) (tVar i)) (hb : PX X W b db) (hs : PlainIx b := by exact fun _ _ => rfl) : PX X W (.Subscript (.Name x p) b pos) (dIxM i db) := peimp (pe_ix ix_list h hb hs) fun σ H Q ⟨f, Z, env, st, o, e, pp⟩ => by
  unfold dIxM at e
  split at e
  · rename_i own xs hx
    obtain ⟨a, vs, e1, n, hH, l, r, ow⟩ := st.sl i _ hx
    refine ⟨.ref a, e1, ?_⟩
    have a0 : At (gOf X) W f Z env (db.bind _) (RV (gOf X)) Q σ H := ⟨st, o, e, pp⟩
    refine (a0.bind.imp fun u H1 ⟨Z1, env1, y, s1, r1, a1⟩ => ?_).here
    obtain ⟨st1, o1, e2, p1⟩ := a1
    split at e2
    · rename_i own' xs' j hx'
      cases r1
      obtain ⟨a', vs', e1', n', hH', l', r', ow'⟩ := st1.sl i _ hx'
      rw [e1] at e1'
      cases e1'
      cases ha : atI xs' j with
      | none => rw [ha] at e2; cases e2
      | some v =>
        rw [ha] at e2
        cases e2
        obtain ⟨v', h1, h2⟩ := r'.at ha
        exact ⟨a, vs', j, v', rfl, rfl, SqL.of hH', h1, p1 _ Z1 H1 (Same.refl _) st1 h2⟩
    · cases e2
  · cases e
theorem psx_setIxM (h : PE X (.Name x p) (tVar i)) (hv : PX X W e dv) (hk : PX X W b dk)
    (ha : ∀ v, assign (.Subscript (.Name x p) b pos) X.env v = (do
      let ov ← holding [v] (eval (.Name x p) X.env)
      let iv ← holding [v, ov] (eval b X.env)
      standAt pos
      holding [v, ov, iv] (setItem ov iv v)
      release [v, ov, iv] []) := by intro _; rfl) (hs : swapsWithSole [.Subscript (.Name x p) b pos] e pos'.line X.env = pure false := by rfl) (hw : swappedStores [.Subscript (.Name x p) b pos] e X.env = pure none := by rfl)
    (h1 : (assignEach [.Subscript (.Name x p) b pos] X.env).map (·.2) = [assign (.Subscript (.Name x p) b pos) X.env] := by rfl) : PSX X W (.Assign [.Subscript (.Name x p) b pos] e pos') (sSetIxM i dv dk) :=
  psimp (ps_asg hv (pg_sub h hk set_list ha) hs hw h1) fun D σ H ⟨f, Z, env, a⟩ => by
    refine (a.of.imp fun u H1 ⟨Z1, env1, v, s1, r1, a1⟩ => ?_).here
    obtain ⟨st1, o1, e1, p1⟩ := a1
    split at e1
    · rename_i own xs hx
      obtain ⟨q, us, eq, n, hH, l, r, ow⟩ := st1.sl i _ hx
      refine ⟨.ref q, eq, ?_⟩
      have a2 : SAt (gOf X) W f Z1 env1 (sOf dk _) D σ H1 := ⟨st1, o1, e1, p1⟩
      refine (a2.of.imp fun w H2 ⟨Z2, env2, k, s2, r2, a3⟩ => ?_).here
      obtain ⟨st2, o2, e2, p2⟩ := a3
      split at e2
      · rename_i own' xs' j hx'
        cases r2
        obtain ⟨q', us', eq', n', hH', l', r', ow'⟩ := st2.sl i _ hx'
        rw [eq] at eq'
        cases eq'
        cases hn : ixN xs'.length j with
        | none => rw [hn] at e2; cases e2
        | some m =>
          rw [hn] at e2
          cases e2
          refine ⟨q, us', j, m, rfl, rfl, hH', by rw [r'.length]; exact hn, ?_⟩
          exact p2 σ Z2 _ (Same.refl _) (st2.putM hx' eq hH' (by rw [List.length_set]; exact l') (Reps.set (r1.mono s2) m r'))
      · cases e2
    · cases e1
theorem px_appM (h : PE X (.Name x p) (tVar i)) (ha : PX X W e dv)
    (hbase : attributeBase (.Name x p) "append" X.env (eval (.Name x p) X.env) = eval (.Name x p) X.env := by rfl)
    (hfew : ((backTo cpos (starEach [e] X.env)).all (fun x => !x.1) && (backToKw cpos (keywordEach [] X.env)).all (fun x => x.1.isSome)
      && decide ([e].length + ([] : List Keyword).length + (if ([] : List Keyword).isEmpty then 0 else 1) < 30)) = true := by rfl)
    (hline : (apos.endLine == cpos.line) = true := by rfl) (hs : starEach [e] X.env = (false, eval e X.env) :: starEach [] X.env := by rfl) (hplain : (backTo cpos (starEach [] X.env)).any (·.1) = false := by rfl) :
    PX X W (.Call (.Attribute (.Name x p) "append" apos) [e] [] cpos) (dAppM i dv) :=
  peimp (pe_bm PySem.F.plainAttrs_list PySem.F.slot_list_append PySem.F.type_list_append mt_append h (pax_cons ha pax_nil hs) hbase hfew hline hs hplain) fun σ H Q ⟨f, Z, env, st, o, e, pp⟩ => by
    unfold dAppM at e
    split at e
    · rename_i own xs hx
      obtain ⟨a, vs, e1, n, hH, l, r, ow⟩ := st.sl i _ hx
      refine ⟨.ref a, e1, .inl ⟨rfl, _, SqL.of hH⟩, ?_⟩
      have a0 : At (gOf X) W f Z env (dv.bind _) (RV (gOf X)) Q σ H := ⟨st, o, e, pp⟩
      have a1 := a0.bind (R := RV (gOf X))
      -- one argument
      refine ⟨f, Z, env, a1.st, ?_⟩
      obtain ⟨o1, eo1, po1⟩ := a1.to
      unfold dCons dNil Den.bind
      cases hd : dv env with
      | none => rw [hd] at eo1; cases eo1
      | some od =>
        rw [hd] at eo1
        cases eo1
        cases o1 with
        | ex c e2 => exact ⟨_, rfl, fun cls dd Z' H' s st' r => po1 cls dd Z' H' s st' r⟩
        | ok y e2 =>
          refine ⟨_, rfl, fun us Z1 H1 s1 st1 r1 => ?_⟩
          obtain ⟨u, rfl, ru⟩ := r1.one
          obtain ⟨Z2, env2, y2, s2, r2, a2⟩ := po1 u Z1 H1 s1 st1 ru
          obtain ⟨st2, o2, eo2, po2⟩ := a2
          split at eo2
          · rename_i own' xs' hx'
            split at eo2
            · rename_i hl
              cases eo2
              obtain ⟨a', vs', e1', n', hH', l', r', ow'⟩ := st2.sl i _ hx'
              rw [e1] at e1'
              cases e1'
              have lv : vs'.length < sizeLine := by rw [r'.length]; exact hl
              refine ⟨a, vs', u, rfl, rfl, hH', lv, ?_⟩
              exact po2 .non Z2 _ (Same.refl _) (st2.putM hx' e1 hH' (by rw [List.length_append]; exact lv) (r'.append (.cons r2 .nil))) .non
            · cases eo2
          · cases eo2
    · cases e
end

/-! ### raise -/
def sRaise (c : Str) : SDen := fun e => some (.ex ⟨c, [], []⟩ e)
section
variable {X : Cx} {W : WX} {C : Addr} {bmB : List Value} {B newId initId : String} {x m : Str} {j : Nat} {p p2 pos pos' : Pos}
/-- what K says of an exception class of the text without members of its own -/
structure ExC (X : Cx) (x : Str) (C : Addr) : Prop where
  q : PySem.W.excIn X.K C [.type "ValueError", .type "Exception", .type "BaseException", .type "object"] "ValueError.__new__" = true
  g : X.mg x = some (.ref C)
  k : PySem.W.keepIn X.K (.ref C) = true
  s : PySem.W.subIn X.K (.ref C) (.type "BaseException") = some true
  t : PySem.W.typeIn X.K (.ref C) = some (.type "type")
theorem psx_raise (hc : X.calm = true) (tk : Takes X W) (c : ExC X x C) (hg : Gl X x) (hdb : (x == ("__debug__" : Str)) = false := by decide) : PSX X W (.Raise (some (.Call (.Name x p) [.Constant (.str m) j p2] [] pos)) none pos') (sRaise x) :=
  psimp (ps_raise hc tk (pmk_own PySem.F.excBase_ValueError c.q c.g c.k (raises_own c.s c.t) hg hdb)) fun D σ H ⟨f, Z, env, st, o, e, pp⟩ => by
    cases e
    exact pp (.ref C) none σ Z H (Same.refl _) st ⟨C, c.g, rfl, .inl ⟨rfl, rfl, rfl⟩⟩
end

/-! ### try .. except X as n: if not isinstance(n, ValueError): return False -/
def sTryIs (cn : Str) (i : Nat) (db : SDen) : SDen := fun env => match db env with
  | some (.ex c e) => if c.c = cn ∧ c.ns = [] ∧ c.vs = [] ∧ i < e.length then some (.nx (e.set i .un)) else none
  | o => o
section
variable {X : Cx} {W : WX} {C : Addr} {x n : Str} {i j : Nat} {body : List Stmt} {db : SDen} {np p1 p2 p3 p4 p5 p6 p7 p8 pos pos' : Pos}
theorem psx_try_is (hs : X.stack = X.env :: X.outer) (hf : X.env.frame = some X.env.locals) (hN : X.N.Nodup) (hi : X.N[i]? = some n) (hln : X.env.kindOf n = some .local) (hc : Names X x (.ref C)) (hmg : X.mg x = some (.ref C))
    (hcls : PySem.W.exmOne X.K (.ref C) (.ref C) = some true) (hE : ExcC X.K C) (hV : PySem.W.kitOne X.K (.ref C) (.type "ValueError") = some true) (tk : Takes X W)
    (hb : ∀ (W : WX) (pn : List (Addr × Obj)) (xe : Value → Shared → Prop), Takes (X.tr pn xe) W → PassesOwn (model X.prog X.w) X.A X.env xe → PSsX (X.tr pn xe) W body db)
    (gi : Gl X "isinstance") (mi : X.mg "isinstance" = none) (gv : Gl X "ValueError") (mv : X.mg "ValueError" = none) (hd : (n == ("__debug__" : Str)) = false := by decide) (hcd : (n == ("__classdict__" : Str)) = false := by decide)
    (s1 : starEach [.Name n p2, .Name "ValueError" p3] X.env = (false, eval (.Name n p2) X.env) :: starEach [.Name "ValueError" p3] X.env := by rfl) (s2 : starEach [.Name "ValueError" p3] X.env = (false, eval (.Name "ValueError" p3) X.env) :: starEach [] X.env := by rfl)
    (hpl : (backTo p4 (starEach [.Name "ValueError" p3] X.env)).any (·.1) = false := by rfl)
    (hit : ∀ whole, isTrue (.Call (.Name "isinstance" p1) [.Name n p2, .Name "ValueError" p3] [] p4) X.env whole = (do let v ← whole; standAt p4; holding [v] (truthy v)) := by intro _; rfl) :
    PSX X W (.Try body [.ExceptHandler (some (.Name x np)) (some n) [.If (.UnaryOp .Not (.Call (.Name "isinstance" p1) [.Name n p2, .Name "ValueError" p3] [] p4) p5) [.Return (some (.Constant (.bool false) j p6)) p7] [] p8] pos'] [] [] pos) (sTryIs x i db) := by
  refine psimp (ps_try_as (tb := fun W => tS (gOf X) W db) (ts := fun a cls d Dn σ H => (cls = .ref C ∧ d = none) ∧ σ[i]? = some (some (.ref a)) ∧ Dn.nx σ H) hs hf hN hi hln hc tk hb fun a oe cls d pn hz hfl => ?_) fun D σ H ⟨f, Z, env, st, o, e, p⟩ => ?_
  · by_cases hcd' : cls = .ref C ∧ d = none
    · obtain ⟨rfl, rfl⟩ := hcd'
      have nm : PE (X.suite a ((a, oe) :: pn)) (.Name n p2) (tVar i) := pe_var hi (.inl hln) hd hcd
      have ve : PE (X.suite a ((a, oe) :: pn)) (.Name "ValueError" p3) (tC (.ty "ValueError")) := pe_bltn gv mv (by decide +kernel) rfl
      refine pssimp (pss_one (ps_if (pt_not (pt_val (pe_callB (call_isE hE hz hfl) gi mi (by decide +kernel) (pa_cons nm (pa_cons ve pa_nil s2) s1) (by decide) (by decide) s1 hpl) hit)) (pss_one (ps_ret pe_bl)) pss_nil)) fun D σ H ⟨_, hσ, hn⟩ => ?_
      refine ⟨.ref a, hσ, .ty "ValueError", .type "ValueError", true, rfl, fun u r => r, hV, true, rfl, ?_⟩
      exact (iteF hn : if false = true then tRet (tC (V.bl false)) D σ H else tNext D σ H)
    · exact ⟨fun pins s σ H D I h => absurd h.1 hcd'⟩
  · refine ⟨f, Z, env, st, ?_⟩
    unfold sTryIs at e
    cases hdb : db env with
    | none => rw [hdb] at e; cases e
    | some ob =>
      rw [hdb] at e
      cases ob with
      | nx e1 => cases e; exact ⟨_, rfl, p⟩
      | rt v e1 => cases e; exact ⟨_, rfl, p⟩
      | bk e1 => cases e; exact ⟨_, rfl, p⟩
      | ct e1 => cases e; exact ⟨_, rfl, p⟩
      | ex c e1 =>
        refine ⟨_, rfl, fun cls dd σ' Z' H' s st' r => ?_⟩
        simp only at e
        split at e
        · rename_i hh
          cases e
          obtain ⟨h1, h2, h3, h4⟩ := hh
          obtain ⟨C', hC, rfl, hdd⟩ := r
          have hC : X.mg x = some (.ref C') := by rw [← h1]; exact hC
          rw [hmg] at hC
          cases hC
          have hd0 : dd = none := by
            rcases hdd with q | ⟨d, fs, hne, _⟩
            · exact q.2.2
            · exact absurd h2 hne
          refine ⟨true, hcls, fun _ a na => ⟨⟨rfl, hd0⟩, List.getElem?_set_self (by rw [← st'.ln]; exact h4), ?_⟩, fun z => by cases z⟩
          have w := p ((σ'.set i (some (.ref a))).set i none) Z' H' s
          rw [List.set_set] at w
          show D.nx ((σ'.set i (some (.ref a))).set i none) H'
          rw [List.set_set]
          exact w st'.wipe1
        · cases e
end

/-! ### two names at once -/
def sPar (i j : Nat) (da db : Den PV) : SDen := sOf da fun x => sOf db fun y e => if i < e.length ∧ j < e.length then some (.nx ((e.set i (.v x)).set j (.v y))) else none
section
variable {X : Cx} {W : WX} {i j : Nat} {x y : Str} {a b : Expr} {da db : Den PV} {px py pt pt2 pos : Pos} {kt k2}
theorem psx_par (hc : X.calm = true) (hN : X.N.Nodup) (hi : X.N[i]? = some x) (hj : X.N[j]? = some y) (hij : i ≠ j) (hx : X.env.scope.names.lookup x = some .local) (hy : X.env.scope.names.lookup y = some .local) (ha : PX X W a da) (hb : PX X W b db)
    (hw : swappedStores [.Tuple [.Name x px, .Name y py] kt pt] (.Tuple [a, b] k2 pt2) X.env = pure (some [x, y]) := by rfl)
    (hs : swapsWithSole [.Tuple [.Name x px, .Name y py] kt pt] (.Tuple [a, b] k2 pt2) pos.line X.env = pure false := by rfl)
    (h1 : starEach [a, b] X.env = (false, eval a X.env) :: starEach [b] X.env := by rfl) (h2 : starEach [b] X.env = (false, eval b X.env) :: starEach [] X.env := by rfl) :
    PSX X W (.Assign [.Tuple [.Name x px, .Name y py] kt pt] (.Tuple [a, b] k2 pt2) pos) (sPar i j da db) :=
  psimp (ps_par hc hN hi hj hij hx hy (pa_cons ha (pa_cons hb pa_nil h2) h1) hw hs) fun D σ H ⟨f, Z, env, a⟩ => by
    refine (a.of.imp fun u H1 ⟨Z1, env1, v, s1, r1, a1⟩ => ?_).here
    refine (a1.of.imp fun w H2 ⟨Z2, env2, v2, s2, r2, a2⟩ => ?_).here
    obtain ⟨st, o, e, p⟩ := a2
    split at e
    · rename_i hl
      cases e
      refine ⟨u, w, rfl, ?_⟩
      exact p _ Z2 H2 (Same.refl _) ((st.setV (r1.mono s2) (by rw [← st.ln]; exact hl.1)).setV r2 (by rw [List.length_set, ← st.ln]; exact hl.2))
    · cases e
/-- the same where a name is a cell (read in a comprehension): the tuple is made and taken apart -/
theorem psx_parC (hc : X.calm = true) (hN : X.N.Nodup) (hi : X.N[i]? = some x) (hj : X.N[j]? = some y) (hx : Loc X.env.scope x) (hy : Loc X.env.scope y) (ha : PX X W a da) (hb : PX X W b db)
    (hw : swappedStores [.Tuple [.Name x px, .Name y py] kt pt] (.Tuple [a, b] k2 pt2) X.env = pure none := by rfl)
    (hs : swapsWithSole [.Tuple [.Name x px, .Name y py] kt pt] (.Tuple [a, b] k2 pt2) pos.line X.env = pure false := by rfl)
    (h1 : starEach [a, b] X.env = (false, eval a X.env) :: starEach [b] X.env := by rfl) (h2 : starEach [b] X.env = (false, eval b X.env) :: starEach [] X.env := by rfl)
    (h3 : (assignEach [.Tuple [.Name x px, .Name y py] kt pt] X.env).map (·.2) = [assign (.Tuple [.Name x px, .Name y py] kt pt) X.env] := by rfl)
    (hn : (assignEach [.Name x px, .Name y py] X.env).length = 2 := by rfl) (hst : (assignEach [.Name x px, .Name y py] X.env).findIdx? (·.1) = none := by rfl)
    (h4 : (assignEach [.Name x px, .Name y py] X.env).map (·.2) = assign (.Name x px) X.env :: (assignEach [.Name y py] X.env).map (·.2) := by rfl) (h5 : (assignEach [.Name y py] X.env).map (·.2) = assign (.Name y py) X.env :: (assignEach [] X.env).map (·.2) := by rfl)
    (hfx : X.fn x = true ∨ X.env.scope.names.lookup x = some .local := by first | exact .inl rfl | exact .inr rfl | assumption) (hfy : X.fn y = true ∨ X.env.scope.names.lookup y = some .local := by first | exact .inl rfl | exact .inr rfl | assumption) :
    PSX X W (.Assign [.Tuple [.Name x px, .Name y py] kt pt] (.Tuple [a, b] k2 pt2) pos) (sPar i j da db) :=
  psimp (ps_asg (pe_tupF (pa_cons ha (pa_cons hb pa_nil h2) h1)) (pg_tup hc (pgs_cons (pg_name hN hi hx hfx) (pgs_cons (pg_name hN hj hy hfy) pgs_nil h5) h4) hn hst) hs hw h3) fun D σ H ⟨f, Z, env, a⟩ => by
    refine (a.of.imp fun u H1 ⟨Z1, env1, v, s1, r1, a1⟩ => ?_).here
    refine (a1.of.imp fun w H2 ⟨Z2, env2, v2, s2, r2, a2⟩ => ?_).here
    obtain ⟨st, o, e, p⟩ := a2
    split at e
    · rename_i hl
      cases e
      refine ⟨by show 2 ≤ sizeLine; decide, fun q o n d => ⟨q, [u, w], rfl, .inl (.inr ⟨o, upd_same⟩), rfl, u, [w], rfl, w, [], rfl, rfl, ?_⟩⟩
      have st' := st.lay (p := q) (o := .frz o (.tup [u, w])) n
      have zz : Same Z2 (upd Z2 q (.frz o (.tup [u, w]))) := same_upd (st.zn n)
      exact p _ _ _ zz ((st'.setV ((r1.mono s2).mono zz) (by rw [← st.ln]; exact hl.1)).setV (r2.mono zz) (by rw [List.length_set, ← st.ln]; exact hl.2))
    · cases e
end

/-! ### methods of tuples and lists -/
/-- the place of the first equal item -/
def idxP (y : PV) : List PV → Nat → Option Nat
  | [], _ => none
  | x :: xs, n => if pvEq x y then some n else idxP y xs (n + 1)
def qIndex : PV → PV → Option PV := fun x y => match x.items with
  | some xs => if x.fit = true ∧ y.fit = true then (idxP y xs 0).map fun n => .int (n : Nat) else none
  | none => none
theorem idxP_spec {y : PV} : ∀ {xs : List PV} {n j : Nat}, idxP y xs n = some j → n ≤ j ∧ (∃ z, xs[j - n]? = some z ∧ pvEq z y = true) ∧ ∀ m z, m < j - n → xs[m]? = some z → pvEq z y = false
  | [], n, j, h => by cases h
  | x :: xs, n, j, h => by
    unfold idxP at h
    split at h
    · cases h
      refine ⟨Nat.le_refl _, ⟨x, by rw [Nat.sub_self]; rfl, by assumption⟩, fun m z hm _ => by omega⟩
    · rename_i hn
      obtain ⟨h1, ⟨z, h2, h3⟩, h4⟩ := idxP_spec h
      have e : j - n = (j - (n + 1)) + 1 := by omega
      refine ⟨by omega, ⟨z, by rw [e]; exact h2, h3⟩, fun m z hm hz => ?_⟩
      cases m with
      | zero => cases hz; simpa using hn
      | succ m => exact h4 m z (by omega) hz
section
variable {X : Cx} {W : WX} {k : Nat} {e o : Expr} {da db : Den PV} {apos cpos : Pos}
def rIdxT (K : PySem.W.Frag) : V → List V → Hp → VK → Prop := fun x xs H Q => ∃ (a : Addr) (vs : List V) (y : V) (d : PyData) (ds : List PyData) (j : Nat) (z : PyData), x = V.ref a ∧ xs = [y] ∧ SqT K H a vs ∧ DpAll K H vs ds ∧ Dp K H y d ∧
  PyData.canLayAll0 ds = true ∧ d.canLay0 = true ∧ d.depth ≤ 190 ∧ ds[j]? = some z ∧ PyData.eqv z d = true ∧ (∀ (m : Nat) (z' : PyData), m < j → ds[m]? = some z' → PyData.eqv z' d = false) ∧ Q (.int (j : Nat)) H
theorem mt_idxT (hr : RoomG k X.A) : MtR X "tuple.index" (rIdxT X.K) := by
  intro pins s σ H x xs v us Q I rx rxs h
  obtain ⟨a, vs, y, d, ds, j, z, rfl, rfl, hs, ha, hy, hxs, sd, ld, hz, hzj, hno, q⟩ := h
  cases rx
  cases rxs with
  | cons ry rt =>
    rename_i uy ut
    cases rt
    obtain ⟨bs, r1⟩ := Dp.reads I d y uy hy ry
    have hroom : X.A.units + 1 + min (PyData.depthAll ds) d.depth < cLine := by have := hr.un; have : min (PyData.depthAll ds) d.depth ≤ d.depth := Nat.min_le_right _ _; omega
    obtain ⟨its, rv, ⟨⟨cls, dd, data, sls⟩, ho, hc, n, hdt⟩, hlen⟩ := I.tuple hs
    simp only at hc hdt
    subst hc hdt
    obtain ⟨as, h4⟩ := Dp.readsAll I ds _ its ha rv
    have hn : its.length = ds.length := SeqAt.ReadsAll.length ds its as h4
    have hmap : its.map (SeqAt.readOf s.heap) = ds := SeqAt.readsAll_map ds its as hxs h4
    obtain ⟨hjd, _⟩ := List.getElem?_eq_some_iff.mp hz
    have hjl : j < its.length := by omega
    have hj : j < its.toArray.size := by simpa using hjl
    have at_ : ∀ (m : Nat) (hm : m < its.toArray.size) (z' : PyData), ds[m]? = some z' → SeqAt.readOf s.heap its.toArray[m] = z' := by
      intro m hm z' hz'
      have hml : m < its.length := by simpa using hm
      rw [← hmap, List.getElem?_map, List.getElem?_eq_getElem hml] at hz'
      have e1 : SeqAt.readOf s.heap its[m] = z' := Option.some.inj (show some (SeqAt.readOf s.heap its[m]) = some z' from hz')
      simpa using e1
    refine call_meets PySem.F.slot_tuple_index ⟨_, ho, rfl⟩ PySem.F.entry_tuple_index (PySem.F.args_tuple_index_2 _ _)
      (TI.tuple_indexAt a its.toArray n dd sls uy (fun u => PyData.eqv (SeqAt.readOf s.heap u) d) j hj ?_ ?_) ⟨ho, SeqAt.items_eqAt (vs := its.toArray) (show ReadsAll s.heap its.toArray.toList ds as from h4) r1 hxs sd hroom, ⟨.int (j : Nat), H, I.tok _, ⟨_, rfl⟩, q⟩⟩
    · rw [at_ j hj z hz]; exact hzj
    · intro m hm hmj
      have hml : m < ds.length := by omega
      rw [at_ m hm ds[m] (List.getElem?_eq_getElem hml)]
      exact hno m _ hmj (List.getElem?_eq_getElem hml)
theorem tupAt_is {pins : List (Addr × Obj)} {σ : L2.St} {H : Hp} {s : Shared} {a : Addr} {vs : List V} (I : Inv X pins σ H s) (h : TupAt X.K H a vs) : s.TypeIs (.ref a) "tuple" ∧ ∀ b, Value.ref a = .ref b → ∃ ob, s.heap.get? b = some ob ∧ ob.dict = none := by
  rcases h with ⟨o, h, hd⟩ | ⟨o, its, n, h1, h2, h3, _⟩
  · obtain ⟨e, _, _, _, ob, e2, hc, _⟩ := (show ObjOk X.prog X.w H s.heap a (.frz o (.tup vs)) from I.hok a _ h)
    rw [e] at e2
    cases e2
    exact ⟨⟨o, e, hc⟩, fun b q => by cases q; exact ⟨o, e, hd⟩⟩
  · exact ⟨⟨o, I.kIn _ _ h1, h2⟩, fun b q => by cases q; exact ⟨o, I.kIn _ _ h1, h3⟩⟩
def tBMT (K : PySem.W.Frag) (r : V → List V → Hp → VK → Prop) (to : TE) (t : TA) : TE := fun σ H Q => to σ H fun x H1 => (∃ a vs, x = .ref a ∧ TupAt K H1 a vs) ∧ t σ H1 fun xs H2 => r x xs H2 Q
theorem pe_bmT {id : String} {name : Str} {es : List Expr} {to : TE} {t : TA} {r : V → List V → Hp → VK → Prop} (slot : PySem.Slot "tuple" name id) (hty : typeOf (.builtin id) = pure (.type "method_descriptor")) (hm : MtR X id r) (ho : PE X o to) (ha : PA X (e :: es) t)
    (hbase : attributeBase o name X.env (eval o X.env) = eval o X.env := by rfl)
    (hfew : ((backTo cpos (starEach (e :: es) X.env)).all (fun x => !x.1) && (backToKw cpos (keywordEach [] X.env)).all (fun x => x.1.isSome)
      && decide ((e :: es).length + ([] : List Keyword).length + (if ([] : List Keyword).isEmpty then 0 else 1) < 30)) = true := by rfl)
    (hline : (apos.endLine == cpos.line) = true := by rfl) (hs : starEach (e :: es) X.env = (false, eval e X.env) :: starEach es X.env := by rfl) (hplain : (backTo cpos (starEach es X.env)).any (·.1) = false := by rfl) :
    PE X (.Call (.Attribute o name apos) (e :: es) [] cpos) (tBMT X.K r to t) := by
  refine ⟨fun pins s σ H Q I h => ?_⟩
  refine wpAny_Call_method_late hbase hfew hline rfl (thn (ho.run pins s σ H _ I h) fun v s1 ⟨x, H1, I1, r1, ty, q1⟩ => ?_)
  obtain ⟨a, vs, rfl, ht⟩ := ty
  cases r1
  obtain ⟨h1, h2⟩ := tupAt_is I1 ht
  refine ⟨"tuple", id, PySem.F.plainAttrs_tuple, slot, hty, h1, h2, ?_⟩
  have hA := ha.run cpos pins s1 σ H1 _ I1 q1
  rw [hs] at hA ⊢
  refine Calls.callWith_builtin (by show (false || (backTo cpos (starEach es X.env)).any (·.1)) = false; rw [hplain] <;> rfl) (Calls.evalArgs_plain ?_)
  exact thn hA fun us s2 ⟨vs, H2, I2, r2, q2⟩ => hm pins s2 σ H2 (.ref a) vs (.ref a) us Q I2 (by exact rfl) r2 q2
theorem toDs_get : ∀ {xs : List PV} {m : Nat} {z : PV}, xs[m]? = some z → (PV.toDs xs)[m]? = some z.toD
  | [], m, z, h => by simp at h
  | x :: xs, 0, z, h => by cases h; rfl
  | x :: xs, m + 1, z, h => toDs_get (xs := xs) (m := m) h
theorem toDs_get' : ∀ {xs : List PV} {m : Nat} {d : PyData}, (PV.toDs xs)[m]? = some d → ∃ z, xs[m]? = some z ∧ d = z.toD
  | [], m, d, h => by simp [PV.toDs] at h
  | x :: xs, 0, d, h => by cases h; exact ⟨x, rfl, rfl⟩
  | x :: xs, m + 1, d, h => toDs_get' (xs := xs) (m := m) h
/-- t.index(x), t a tuple -/
def dIndexT (da db : Den PV) : Den PV := da.bind fun x => match x with
  | .tup _ => db.bind fun y => Den.lift (qIndex x y)
  | _ => fun _ => none
theorem px_indexT (hr : RoomG k X.A) (ho : PX X W o da) (ha : PX X W e db)
    (hbase : attributeBase o "index" X.env (eval o X.env) = eval o X.env := by rfl)
    (hfew : ((backTo cpos (starEach [e] X.env)).all (fun x => !x.1) && (backToKw cpos (keywordEach [] X.env)).all (fun x => x.1.isSome)
      && decide ([e].length + ([] : List Keyword).length + (if ([] : List Keyword).isEmpty then 0 else 1) < 30)) = true := by rfl)
    (hline : (apos.endLine == cpos.line) = true := by rfl) (hs : starEach [e] X.env = (false, eval e X.env) :: starEach [] X.env := by rfl) (hplain : (backTo cpos (starEach [] X.env)).any (·.1) = false := by rfl) :
    PX X W (.Call (.Attribute o "index" apos) [e] [] cpos) (dIndexT da db) :=
  peimp (pe_bmT PySem.F.slot_tuple_index PySem.F.type_tuple_index (mt_idxT hr) ho (pa_cons ha pa_nil hs) hbase hfew hline hs hplain) fun σ H Q ⟨f, Z, env, a⟩ => by
    refine (a.bind.imp fun u H1 ⟨Z1, env1, x, s1, r1, a1⟩ => ?_).here
    cases x with
    | tup xs =>
      cases r1 with
      | @tup a' vs _ ht l rv =>
        refine ⟨⟨a', vs, rfl, ht.mono a1.st.zh⟩, ?_⟩
        refine ((show At (gOf X) W f Z1 env1 (db.bind fun y => Den.lift (qIndex (.tup xs) y)) (RV (gOf X)) Q σ H1 from a1).bind.imp fun w H2 ⟨Z2, env2, y, s2, r2, a2⟩ => ?_).here
        obtain ⟨v, e, k⟩ := a2.lift
        have e : (if (PV.tup xs).fit = true ∧ y.fit = true then (idxP y xs 0).map fun n => PV.int (n : Nat) else none) = some v := e
        split at e
        · rename_i hf
          cases hi : idxP y xs 0 with
          | none => rw [hi] at e; cases e
          | some j =>
            rw [hi] at e
            cases e
            obtain ⟨_, ⟨z, hz, hzy⟩, hno⟩ := idxP_spec hi
            obtain ⟨p1, l1⟩ := Bool.and_eq_true_iff.mp hf.1
            obtain ⟨p2, l2⟩ := Bool.and_eq_true_iff.mp hf.2
            obtain ⟨d1, c1⟩ := Reps.dp (a2.st.zh) (show PV.plains xs = true from p1) (rv.mono s2)
            obtain ⟨d2, c2⟩ := r2.dp a2.st.zh p2
            refine ⟨a', vs, w, y.toD, PV.toDs xs, j, z.toD, rfl, rfl, Same.sqt (s2.trans a2.st.zh) ht.sqt, d1, d2, c1, c2, by rw [toD_depth y p2]; exact of_decide_eq_true l2, toDs_get (by simpa using hz), hzy, fun m z' hm hz' => ?_, k _ Z2 H2 (Same.refl _) a2.st (.int _)⟩
            obtain ⟨z2, h1, rfl⟩ := toDs_get' hz'
            exact hno m z2 (by simpa using hm) h1
        · cases e
    | _ => obtain ⟨_, _, e, _⟩ := a1; cases e
end
end Pu
set_option Elab.async false
set_option linter.all false
set_option maxRecDepth 100000
set_option maxHeartbeats 4000000
/-! Pu, part I: dicts; sorted. -/
namespace Pu
open PySem PySem.Spec PyProof.Rows L2

/-! ### dicts as lists of pairs -/
abbrev KP := List (Key × PV)
def putP (kps : KP) (k : Key) (v : PV) : KP :=
  if (kps.any fun kv => decide (kv.1 = k)) = true then kps.map (fun kv => if kv.1 = k then (kv.1, v) else kv) else kps ++ [(k, v)]
def getP (kps : KP) (k : Key) : Option PV := (kps.find? fun kv => decide (kv.1 = k)).map (·.2)
def PV.key : PV → Option Key
  | .int i => some (.inl i)
  | .str s => if PyData.strOk s = true then some (.inr s) else none
  | _ => none
/-- pairs that bear pairs -/
inductive RepK (g : G) (Z : Hp) : List (Key × V) → KP → Prop
  | nil : RepK g Z [] []
  | cons {k : Key} {v : V} {x : PV} {kvs : List (Key × V)} {kps : KP} : keyOk k = true → Rep g Z v x → RepK g Z kvs kps → RepK g Z ((k, v) :: kvs) ((k, x) :: kps)
section
variable {g : G} {Z Z' H : Hp}
theorem RepK.mono (e : Same Z Z') {kvs : List (Key × V)} {kps : KP} (h : RepK g Z kvs kps) : RepK g Z' kvs kps := by
  induction h with
  | nil => exact .nil
  | cons k r t ih => exact .cons k (r.mono e) ih
theorem RepK.length {kvs : List (Key × V)} {kps : KP} (h : RepK g Z kvs kps) : kvs.length = kps.length := by
  induction h with
  | nil => rfl
  | cons k r t ih => rw [List.length_cons, List.length_cons, ih]
theorem RepK.parts {kvs : List (Key × V)} {kps : KP} (h : RepK g Z kvs kps) : kvs.map (·.1) = kps.map (·.1) ∧ (kvs.map (·.1)).all keyOk = true ∧ Reps g Z (kvs.map (·.2)) (kps.map (·.2)) := by
  induction h with
  | nil => exact ⟨rfl, rfl, .nil⟩
  | cons k r t ih =>
    refine ⟨?_, ?_, .cons r ih.2.2⟩
    · rw [List.map_cons, List.map_cons, ih.1]
    · rw [List.map_cons, List.all_cons, ih.2.1, k]; rfl
theorem RepK.of : ∀ {kvs : List (Key × V)} {ks : List Key} {vs : List PV}, kvs.map (·.1) = ks → ks.all keyOk = true → Reps g Z (kvs.map (·.2)) vs → RepK g Z kvs (ks.zip vs) ∧ (ks.zip vs).map (·.1) = ks ∧ (ks.zip vs).map (·.2) = vs
  | [], ks, vs, e, o, r => by
    cases e
    cases r
    exact ⟨.nil, rfl, rfl⟩
  | (k, v) :: kvs, ks, vs, e, o, r => by
    cases ks with
    | nil => cases e
    | cons k' ks =>
      cases vs with
      | nil => cases r
      | cons x vs =>
        rw [List.map_cons] at e
        have e1 : k = k' := (List.cons.inj e).1
        subst e1
        have e2 : kvs.map (·.1) = ks := (List.cons.inj e).2
        rw [List.all_cons, Bool.and_eq_true] at o
        cases r with
        | cons a b =>
          obtain ⟨h1, h2, h3⟩ := RepK.of e2 o.2 b
          exact ⟨.cons o.1 a h1, by rw [List.zip_cons_cons, List.map_cons, h2], by rw [List.zip_cons_cons, List.map_cons, h3]⟩
theorem RepK.any {kvs : List (Key × V)} {kps : KP} (h : RepK g Z kvs kps) (k : Key) : (kvs.any fun kv => decide (kv.1 = k)) = (kps.any fun kv => decide (kv.1 = k)) := by
  induction h with
  | nil => rfl
  | cons k r t ih => rw [List.any_cons, List.any_cons, ih]
theorem RepK.app {kvs kvs' : List (Key × V)} {kps kps' : KP} (h : RepK g Z kvs kps) (h' : RepK g Z kvs' kps') : RepK g Z (kvs ++ kvs') (kps ++ kps') := by
  induction h with
  | nil => exact h'
  | cons k r t ih => exact .cons k r ih
theorem RepK.put {kvs : List (Key × V)} {kps : KP} (h : RepK g Z kvs kps) {k : Key} {v : V} {x : PV} (ok : keyOk k = true) (r : Rep g Z v x) : RepK g Z (putK kvs k v) (putP kps k x) := by
  unfold putK putP
  rw [h.any k]
  by_cases e : (kps.any fun kv => decide (kv.1 = k)) = true
  · rw [if_pos e, if_pos e]
    clear e
    induction h with
    | nil => exact .nil
    | @cons k' v' x' _ _ q r' t ih =>
      rw [List.map_cons, List.map_cons]
      by_cases e : k' = k
      · rw [if_pos e, if_pos e]; exact .cons q r ih
      · rw [if_neg e, if_neg e]; exact .cons q r' ih
  · rw [if_neg e, if_neg e]
    exact h.app (.cons ok r .nil)
theorem RepK.get {kvs : List (Key × V)} {kps : KP} (h : RepK g Z kvs kps) {k : Key} {x : PV} (e : getP kps k = some x) : ∃ v, valV kvs k = some v ∧ Rep g Z v x := by
  unfold getP at e
  unfold valV
  induction h with
  | nil => cases e
  | @cons k' v' x' _ _ q r' t ih =>
    by_cases ek : k' = k
    · rw [List.find?_cons_of_pos (by simp [ek])] at e ⊢
      cases e
      exact ⟨_, rfl, r'⟩
    · rw [List.find?_cons_of_neg (by simp [ek])] at e ⊢
      exact ih e
theorem RepK.getN {kvs : List (Key × V)} {kps : KP} (h : RepK g Z kvs kps) {k : Key} (e : getP kps k = none) : valV kvs k = none := by
  unfold getP at e
  unfold valV
  induction h with
  | nil => rfl
  | @cons k' v' x' _ _ q r' t ih =>
    by_cases ek : k' = k
    · rw [List.find?_cons_of_pos (by simp [ek])] at e
      cases e
    · rw [List.find?_cons_of_neg (by simp [ek])] at e ⊢
      exact ih e
theorem PV.key_of {x : PV} {v : V} {k : Key} (r : Rep g Z v x) (e : x.key = some k) : v = kV k ∧ keyOk k = true := by
  cases x with
  | int i => cases e; cases r; exact ⟨rfl, rfl⟩
  | str s =>
    have e : (if PyData.strOk s = true then some (Sum.inr s : Key) else none) = some k := e
    obtain ⟨h, rfl⟩ := of_ite e
    cases r; exact ⟨rfl, h⟩
  | _ => cases e
end
theorem putP_len (kps : KP) (k : Key) (v : PV) : (putP kps k v).length ≤ kps.length + 1 := by
  unfold putP
  split
  · rw [List.length_map]; omega
  · rw [List.length_append]; simp

/-! ### a dict of its own -/
def RD (g : G) (f : Frm) (σ : L2.St) : Hp → Hp → Cells → V → KP → Prop := fun Z H e b kps =>
  ∃ p kvs, b = .ref p ∧ Z p = none ∧ H p = some (.dK kvs) ∧ kvs.length ≤ sizeLine ∧ RepK g Z kvs kps ∧ f.H p = none ∧ ¬ Muts σ e p
def tD (g : G) (W : WX) (d : Den KP) : TE := fun σ H Q => ∃ f Z env, At g W f Z env d (RD g f σ) Q σ H
abbrev PD (X : Cx) (W : WX) (e : Expr) (d : Den KP) : Prop := PE X e (tD (gOf X) W d)
def PV.dicOf (kps : KP) : PV := .dic (kps.map (·.1)) (kps.map (·.2))
def dDicOf (d : Den KP) : Den PV := d.bind fun kps => Den.ret (PV.dicOf kps)
section
variable {g : G} {f : Frm} {Z H Z' H' : Hp} {σ : L2.St} {env : Cells}
theorem RepK.rep {p : Addr} {kvs : List (Key × V)} {kps : KP} (h : RepK g Z kvs kps) (e : Rd Z p (.dK kvs)) (l : kvs.length ≤ sizeLine) : Rep g Z (.ref p) (.dicOf kps) := by
  obtain ⟨h1, h2, h3⟩ := h.parts
  unfold PV.dicOf
  rw [← h1]
  exact .dic e l h2 h3
/-- what stands at p, no cell's and not the frame's, is frozen -/
theorem StOk.ownZ (st : StOk g f Z H σ env) {p : Addr} {o : HO} (n : Z p = none) (hH : H p = some o) (fn : f.H p = none) (nm : ¬ Muts σ env p) : StOk g f (upd Z p o) H σ env ∧ Same Z (upd Z p o) := by
  have zz : Same Z (upd Z p o) := same_upd n
  refine ⟨⟨st.z0.trans zz, fun b u q => ?_, st.fr, fun b o q m z => ?_, st.pr, st.mh, st.ln, fun j c ej => ?_, st.sep⟩, zz⟩
  · by_cases hb : b = p
    · subst hb; rw [upd_same] at q; cases q; exact hH
    · rw [upd_ne hb] at q; exact st.zh _ _ q
  · have : b ≠ p := fun z => by subst z; rw [fn] at q; cases q
    rw [upd_ne this]; exact st.nz b _ q m z
  · have q := st.sl j c ej
    cases c with
    | un => trivial
    | v x => obtain ⟨v, e1, r1⟩ := q; exact ⟨v, e1, r1.mono zz⟩
    | m own zs =>
      obtain ⟨b, ws, e1, e2, e3, l', r', e4⟩ := q
      have : b ≠ p := fun z => by subst z; exact nm ⟨j, _, ej, rfl, e1⟩
      exact ⟨b, ws, e1, by rw [upd_ne this]; exact e2, e3, l', r'.mono zz, e4⟩
    | d own ks ws =>
      obtain ⟨b, kvs, e1, e2, e3, l', hk, ho, r', e4⟩ := q
      have : b ≠ p := fun z => by subst z; exact nm ⟨j, _, ej, rfl, e1⟩
      exact ⟨b, kvs, e1, by rw [upd_ne this]; exact e2, e3, l', hk, ho, r'.mono zz, e4⟩
    | o own c ns ws =>
      obtain ⟨b, fs, e1, e2, e3, hk, r', e4⟩ := q
      have : b ≠ p := fun z => by subst z; exact nm ⟨j, _, ej, rfl, e1⟩
      exact ⟨b, fs, e1, by rw [upd_ne this]; exact e2, e3, hk, r'.mono zz, e4⟩
theorem StOk.ownD (st : StOk g f Z H σ env) {p : Addr} {kvs : List (Key × V)} {kps : KP} (n : H p = none) (l : kvs.length ≤ sizeLine) (r : RepK g Z kvs kps) :
    StOk g f Z (upd H p (.dK kvs)) σ env ∧ RD g f σ Z (upd H p (.dK kvs)) env (.ref p) kps :=
  ⟨st.new n, p, kvs, rfl, st.zn n, upd_same, l, r, st.fH n, fun m => by obtain ⟨_, ⟨o, q⟩, _⟩ := st.muts m; rw [n] at q; cases q⟩
/-- the rule behind setM, for any cell that changes -/
theorem StOk.setC (st : StOk g f Z H σ env) {i : Nat} {a : Addr} {c : Cell} (hm : c.mut = true) (sl : Slot g f Z H (σ.set i (some (.ref a))) i c) (own : ¬ Muts σ env a) (hi : i < σ.length) :
    StOk g f Z H (σ.set i (some (.ref a))) (env.set i c) := by
  have hi' : i < env.length := by rw [st.ln]; exact hi
  refine ⟨st.z0, st.zh, st.fr, st.nz, st.pr, st.mh, by rw [List.length_set, List.length_set]; exact st.ln, fun j c' ej => ?_, fun j k x y b ej ek mx my sj sk => ?_⟩
  · by_cases hj : i = j
    · subst hj
      rw [List.getElem?_set_self hi'] at ej
      cases ej
      exact sl
    · rw [List.getElem?_set_ne hj] at ej
      have q := st.sl j c' ej
      unfold Slot at q ⊢
      rw [List.getElem?_set_ne hj]
      exact q
  · by_cases hj : i = j
    · by_cases hk : i = k
      · exact hj.symm.trans hk
      · subst hj
        rw [List.getElem?_set_self hi] at sj
        cases sj
        rw [List.getElem?_set_ne hk] at ek sk
        exact absurd ⟨k, y, ek, my, sk⟩ own
    · by_cases hk : i = k
      · subst hk
        rw [List.getElem?_set_self hi] at sk
        cases sk
        rw [List.getElem?_set_ne hj] at ej sj
        exact absurd ⟨j, x, ej, mx, sj⟩ own
      · rw [List.getElem?_set_ne hj] at ej sj
        rw [List.getElem?_set_ne hk] at ek sk
        exact st.sep j k x y b ej ek mx my sj sk
/-- a changing dict's name: its content is changed in place -/
theorem StOk.putC (st : StOk g f Z H σ env) {i : Nat} {a : Addr} {c c' : Cell} {o : HO} (e : env[i]? = some c) (m : c.mut = true) (m' : c'.mut = true) (s : σ[i]? = some (some (.ref a))) (sl : Slot g f Z (upd H a o) σ i c') :
    StOk g f Z (upd H a o) σ (env.set i c') := by
  have hm := st.muts (a := a) ⟨i, _, e, m, s⟩
  have hi : i < env.length := (List.getElem?_eq_some_iff.mp e).1
  refine ⟨st.z0, fun b u q => ?_, fun b o q m => ?_, st.nz, fun b o q => ?_, st.mh, by rw [List.length_set]; exact st.ln, fun j cj ej => ?_, fun j k x y b ej ek mx my sj sk => ?_⟩
  · have : b ≠ a := fun z => by rw [z, hm.1] at q; cases q
    rw [upd_ne this]; exact st.zh _ _ q
  · have : b ≠ a := fun z => by
      subst z
      rcases hm.2.2 with z | z
      · rw [z] at q; cases q
      · exact m z
    rw [upd_ne this]; exact st.fr _ _ q m
  · by_cases hb : b = a
    · exact ⟨_, by rw [hb, upd_same]⟩
    · obtain ⟨o', z⟩ := st.pr b o q
      exact ⟨o', by rw [upd_ne hb]; exact z⟩
  · by_cases hj : i = j
    · subst hj
      rw [List.getElem?_set_self hi] at ej
      cases ej
      exact sl
    · rw [List.getElem?_set_ne hj] at ej
      have q := st.sl j cj ej
      cases cj with
      | un => trivial
      | v x => exact q
      | m own' zs =>
        obtain ⟨b, ws, e1, e2, e3, l', r', e4⟩ := q
        have : b ≠ a := fun z => by subst z; exact hj (st.sep i j _ _ b e ej m rfl s e1)
        exact ⟨b, ws, e1, e2, by rw [upd_ne this]; exact e3, l', r', e4⟩
      | d own' ks ws =>
        obtain ⟨b, kvs, e1, e2, e3, l', hk, ho, r', e4⟩ := q
        have : b ≠ a := fun z => by subst z; exact hj (st.sep i j _ _ b e ej m rfl s e1)
        exact ⟨b, kvs, e1, e2, by rw [upd_ne this]; exact e3, l', hk, ho, r', e4⟩
      | o own' c ns ws =>
        obtain ⟨b, fs, e1, e2, ⟨C, dx, e3, hc⟩, hk, r', e4⟩ := q
        have : b ≠ a := fun z => by subst z; exact hj (st.sep i j _ _ b e ej m rfl s e1)
        exact ⟨b, fs, e1, e2, ⟨C, dx, by rw [upd_ne this]; exact e3, hc⟩, hk, r', e4⟩
  · have back : ∀ {j : Nat} {x : Cell}, (env.set i c')[j]? = some x → x.mut = true → ∃ x', env[j]? = some x' ∧ x'.mut = true := fun {j x} ej mx => by
      by_cases hj : i = j
      · subst hj; exact ⟨_, e, m⟩
      · rw [List.getElem?_set_ne hj] at ej; exact ⟨x, ej, mx⟩
    obtain ⟨x', e1, m1⟩ := back ej mx
    obtain ⟨y', e2, m2⟩ := back ek my
    exact st.sep j k x' y' b e1 e2 m1 m2 sj sk
end
def Cell.dOf (own : Bool) (kps : KP) : Cell := .d own (kps.map (·.1)) (kps.map (·.2))
def sSetD (i : Nat) (d : Den KP) : SDen := sOf d fun v e => some (.nx (e.set i (.dOf true v)))
section
variable {X : Cx} {W : WX} {e : Expr} {pos pos' : Pos} {i : Nat} {x : Str} {d : Den KP}
theorem px_ownD (h : PD X W e d) : PX X W e (dDicOf d) := peimp h fun σ H Q ⟨f, Z, env, a⟩ =>
  ⟨f, Z, env, a.bind.imp fun u H1 ⟨Z1, env1, kps, s1, r1, a1⟩ => by
    obtain ⟨p, kvs, rfl, n, hH, l, r, fn, nm⟩ := r1
    obtain ⟨st2, zz⟩ := a1.st.ownZ n hH fn nm
    exact a1.ret (.ref p) _ H1 zz st2 ((r.mono zz).rep (.inl upd_same) l)⟩
theorem pd_new : PD X W (.Dict [] [] pos) (Den.ret []) := peimp pe_dnewK fun σ H Q ⟨f, Z, env, a⟩ p n => by
  obtain ⟨st2, r2⟩ := a.st.ownD (kps := []) n (Nat.zero_le _) .nil
  exact a.ret (.ref p) Z _ (Same.refl _) st2 r2
theorem psx_setD (hN : X.N.Nodup) (hi : X.N[i]? = some x) (hx : Loc X.env.scope x) (h : PD X W e d) (hs : swapsWith e (some (.Name x pos')) pos.line X.env = pure false := by rfl)
    (hf : X.fn x = true ∨ X.env.scope.names.lookup x = some .local := by first | exact .inl rfl | exact .inr rfl | assumption) : PSX X W (.Assign [.Name x pos'] e pos) (sSetD i d) := by
  refine ⟨fun pins s σ H D I ⟨f, Z, env, a⟩ => (ps_set hN hi hx h hs hf).run pins s σ H D I ?_⟩
  have hσ : i < σ.length := by rw [I.len]; exact (List.getElem?_eq_some_iff.mp hi).1
  refine ⟨f, Z, env, a.of.imp fun u H1 ⟨Z1, env1, v, s1, r1, a1⟩ => ?_⟩
  obtain ⟨st, o, e, p⟩ := a1
  cases e
  obtain ⟨q, kvs, rfl, n, hH, l, r, fn, nm⟩ := r1
  obtain ⟨h1, h2, h3⟩ := r.parts
  refine p _ Z1 H1 (Same.refl _) (st.setC rfl ⟨q, kvs, List.getElem?_set_self hσ, n, hH, l, h1, by rw [← h1]; exact h2, h3, fn⟩ nm hσ)
end

/-! ### dict comprehensions -/
def dcLoop (gx : PV → Cells → Option Cells) (dc dk dv : Den PV) (own : List Nat) : List PV → KP → Den KP
  | [], acc => Den.ret acc
  | x :: xs, acc => fun e => match gx x e with
    | none => none
    | some e1 => match dc e1 with
      | some (.ok (.bl true) e2) => (match dk e2 with
        | some (.ok y e3) => (match dv e3 with
          | some (.ok z e4) => (match y.key with
            | some k => dcLoop gx dc dk dv own xs (putP acc k z) (wipeE e4 own)
            | none => none)
          | _ => none)
        | _ => none)
      | some (.ok (.bl false) e2) => dcLoop gx dc dk dv own xs acc (wipeE e2 own)
      | _ => none
def dDc (di : Den (List PV)) (gx : PV → Cells → Option Cells) (dc dk dv : Den PV) (own : List Nat) : Den KP := di.bind fun xs e => dcLoop gx dc dk dv own xs [] (wipeE e own)
section
variable {X : Cx} {W : WX} {tg it kx vx : Expr} {ifs : List Expr} {scope : Scope} {own : List (Str × Nat)} {pos : Pos} {di : Den (List PV)} {t : TG} {is : List Nat} {gx : PV → Cells → Option Cells} {dc dk dv : Den PV}
theorem dc_it {J : It} {n : Nat} {Gd : Hp → Prop} {Y : Nat → Hp → V → Hp → Prop} {g : TG} {tt : TT} {tk tv : TE} {vs : List Nat} {σ : L2.St} {H1 : Hp} {D : Addr} {Qd : Hp → Prop} (hw : Walk J n Gd Y) (Pv : Nat → Hp → Prop) (h0 : Pv 0 (upd H1 D (.dK []))) (hp : ∀ i H, i ≤ n → Pv i H → Gd H)
    (hs : ∀ i v H H', i < n → Pv i H → Y i H v H' → g v (wipe σ vs) H' fun σ2 H2 => wipe σ2 vs = wipe σ vs ∧ tt σ2 H2 fun b H3 => if b = true then tk σ2 H3 fun y H4 => tv σ2 H4 fun z H5 => ∃ kvs k, y = kV k ∧ H5 D = some (.dK kvs) ∧ kvs.length < sizeLine ∧ Pv (i + 1) (upd H5 D (.dK (putK kvs k z))) else Pv (i + 1) H3) (hd : ∀ H, Pv n H → Qd H) :
    ∃ W : Nat → Nat → Hp → Prop, (∃ m, W 0 m (upd H1 D (.dK []))) ∧ ∀ i m H, W i m H →
      (J.stop i H ∧ Qd H) ∨ (J.go i H ∧ ∃ Nx : Hp → Prop, (∀ H', Nx H' → ∃ m', m' < m ∧ W (i + 1) m' H') ∧ ∀ x H', J.yld i H x H' → g x (wipe σ vs) H' fun σ2 H2 => wipe σ2 vs = wipe σ vs ∧ tt σ2 H2 fun b H3 => if b = true then tk σ2 H3 fun y H4 => tv σ2 H4 fun z H5 => ∃ kvs k, y = kV k ∧ H5 D = some (.dK kvs) ∧ kvs.length < sizeLine ∧ Nx (upd H5 D (.dK (putK kvs k z))) else Nx H3) := by
  refine ⟨fun i m H => m = n - i ∧ i ≤ n ∧ Pv i H, ⟨n, by omega, Nat.zero_le _, h0⟩, ?_⟩
  rintro i m H ⟨rfl, hi, p⟩
  by_cases hlt : i < n
  · exact .inr ⟨hw.goes i H hlt (hp i H hi p), Pv (i + 1), fun H' p' => ⟨n - (i + 1), by omega, rfl, hlt, p'⟩, fun x H' y => hs i x H H' hlt p (hw.yields i H x H' hlt (hp i H hi p) y)⟩
  · have e : i = n := by omega
    subst e
    exact .inl ⟨hw.stops H (hp i H hi p), hd H p⟩
theorem t_dc {σ : L2.St} {H : Hp} {Q : VK} {own : List Nat} (hg : ∀ (f : Frm) (Z : Hp) (env : Cells) (σ : L2.St) (H : Hp) (v : V) (x : PV) (env' : Cells) (Q : L2.St → Hp → Prop), StOk (gOf X) f Z H σ env → Rep (gOf X) Z v x → gx x env = some env' →
      (∀ σ', StOk (gOf X) f Z H σ' env' → (∀ vs : List Nat, (∀ i ∈ is, i ∈ vs) → wipe σ' vs = wipe σ vs) → Q σ' H) → t v σ H Q) (his : ∀ i ∈ is, i ∈ own)
    (h : tD (gOf X) W (dDc di gx dc dk dv own) σ H Q) : tDc (tI (gOf X) W di) t (tB (tP (gOf X) W0 dc)) (tP (gOf X) W0 dk) (tP (gOf X) W0 dv) own σ H Q := by
  obtain ⟨f, Z, env, a⟩ := h
  refine ⟨f, Z, env, a.bind.imp fun J H1 ⟨Z1, env1, xs, s1, r1, a1⟩ D nD => ?_⟩
  obtain ⟨n, G', Y, w, en, lz, hG, hY⟩ := r1.ex
  obtain ⟨st1, o, eo, po⟩ := a1
  have fD : f.H D = none := st1.fH nD
  have fZD : f.Z D = none := by
    cases q : f.Z D with
    | none => rfl
    | some u => rw [st1.zh _ _ (st1.z0 _ _ q)] at nD; cases nD
  have nmD : ∀ {σ : L2.St} {e : Cells}, StOk (gOf X) f Z1 H1 σ e → ¬ Muts σ e D := fun st m => by
    obtain ⟨_, ⟨u, q⟩, _⟩ := st.muts m
    rw [nD] at q; cases q
  refine dc_it w (fun i H => ∃ Zi e acc kvs, Same Z1 Zi ∧ H D = some (.dK kvs) ∧ kvs.length ≤ i ∧ RepK (gOf X) Zi kvs acc ∧ Zi D = none ∧ ¬ Muts (wipe σ own) (wipeE e own) D ∧ StOk (gOf X) f Zi H (wipe σ own) (wipeE e own) ∧
      dcLoop gx dc dk dv own (xs.drop i) acc (wipeE e own) = some o) ?_ (fun i H hi ⟨Zi, e, acc, vs, sz, _, _, _, _, _, st, _⟩ => hG H (sz.trans st.zh)) ?_ ?_
  · exact ⟨Z1, env1, [], [], Same.refl _, upd_same, Nat.zero_le _, .nil, st1.zn nD, nmD (st1.wipes own), (st1.wipes own).new nD, eo⟩
  · rintro i v H H' hi ⟨Zi, e, acc, vs, sz, hD, lv, rv, zD, nm, st, ei⟩ y
    obtain ⟨x, ex, k⟩ := hY i H v H' hi y
    rw [drop_at ex] at ei
    have stp := st.plus fD hD zD nm
    obtain ⟨Z2, s2, st2, r2⟩ := k (f.plus D (.dK vs)) Zi (wipe σ own) (wipeE e own) sz stp
    cases hgx : gx x (wipeE e own) with
    | none => simp only [dcLoop, hgx] at ei; cases ei
    | some e1 =>
      simp only [dcLoop, hgx] at ei
      refine hg (f.plus D (.dK vs)) Z2 (wipeE e own) (wipe σ own) H' v x e1 _ st2 r2 hgx fun σ' st3 hw => ?_
      have hw' : wipe σ' own = wipe (wipe σ own) own := hw own his
      have hw2 : wipe σ' own = wipe σ own := hw'.trans (wipe_twice σ own own fun _ h => h)
      refine ⟨hw2, ?_⟩
      have fin : ∀ {Z' : Hp} {H4 : Hp} {e4 : Cells} {ys : KP} {us : List (L2.Key × V)}, Same Z2 Z' → StOk (gOf X) (f.plus D (.dK vs)) Z' H4 σ' e4 → us.length ≤ i + 1 → RepK (gOf X) Z' us ys → dcLoop gx dc dk dv own (xs.drop (i + 1)) ys (wipeE e4 own) = some o →
          H4 D = some (.dK vs) ∧ ∃ Zi e acc vs', Same Z1 Zi ∧ upd H4 D (.dK us) D = some (.dK vs') ∧ vs'.length ≤ i + 1 ∧ RepK (gOf X) Zi vs' acc ∧ Zi D = none ∧ ¬ Muts (wipe σ own) (wipeE e own) D ∧ StOk (gOf X) f Zi (upd H4 D (.dK us)) (wipe σ own) (wipeE e own) ∧
            dcLoop gx dc dk dv own (xs.drop (i + 1)) acc (wipeE e own) = some o := fun {Z' H4 e4 ys us} s st4 l r e => by
        have st5 := st4.wipes own
        rw [hw2] at st5
        obtain ⟨st6, h6, z6, m6⟩ := st5.minus st.mh fZD fD
        exact ⟨h6, Z', e4, ys, us, (sz.trans s2).trans s, upd_same, l, r, z6, m6, st6.poke fD z6 m6, e⟩
      cases hdc : dc e1 with
      | none => rw [hdc] at ei; cases ei
      | some oc =>
        rw [hdc] at ei
        cases oc with
        | ex c e2 => cases ei
        | ok b e2 =>
          cases b with
          | bl b =>
            refine ⟨f.plus D (.dK vs), Z2, e1, st3, _, hdc, fun u Z3 H3 s3 st4 r3 => ?_⟩
            cases r3
            refine ⟨b, rfl, ?_⟩
            cases b with
            | false =>
              rw [if_neg Bool.false_ne_true]
              obtain ⟨h6, Zi', e', acc', vs', q1, q2, q3, q4, q5, q6, q7, q8⟩ := fin (ys := acc) (us := vs) s3 st4 (Nat.le_succ_of_le lv) ((rv.mono s2).mono s3) ei
              have same : upd H3 D (.dK vs) = H3 := by
                funext b
                by_cases hb : b = D
                · subst hb; rw [upd_same, h6]
                · rw [upd_ne hb]
              rw [same] at q2 q7
              exact ⟨Zi', e', acc', vs', q1, q2, q3, q4, q5, q6, q7, q8⟩
            | true =>
              rw [if_pos rfl]
              cases hdk : dk e2 with
              | none => simp only [hdk] at ei; cases ei
              | some oe =>
                cases oe with
                | ex c e3 => simp only [hdk] at ei; cases ei
                | ok yv e3 =>
                  simp only [hdk] at ei
                  refine ⟨f.plus D (.dK vs), Z3, e2, st4, _, hdk, fun u Z4 H4 s4 st5 r4 => ?_⟩
                  cases hdv : dv e3 with
                  | none => simp only [hdv] at ei; cases ei
                  | some oz =>
                    cases oz with
                    | ex c e4 => simp only [hdv] at ei; cases ei
                    | ok zv e4 =>
                      simp only [hdv] at ei
                      refine ⟨f.plus D (.dK vs), Z4, e3, st5, _, hdv, fun u2 Z5 H5 s5 st6 r5 => ?_⟩
                      cases hk : yv.key with
                      | none => simp only [hk] at ei; cases ei
                      | some kk =>
                        simp only [hk] at ei
                        obtain ⟨rfl, ok⟩ := PV.key_of r4 hk
                        obtain ⟨h6, q⟩ := fin (us := putK vs kk u2) ((s3.trans s4).trans s5) st6 (Nat.le_trans (length_putK vs kk u2) (Nat.succ_le_succ lv)) (((((rv.mono s2).mono s3).mono s4).mono s5).put ok r5) ei
                        exact ⟨vs, kk, rfl, h6, Nat.lt_of_le_of_lt lv (Nat.lt_of_lt_of_le hi lz), q⟩
          | _ => cases ei
  · rintro H ⟨Zi, e, acc, vs, sz, hD, lv, rv, zD, nm, st, ei⟩
    rw [en, List.drop_length] at ei
    cases ei
    have nm' : ¬ Muts σ (wipeE e own) D := fun ⟨j, c, ej, m, sj⟩ => by
      have nj : j ∉ own := fun h => by rw [wipeE_in h ej] at m; cases m
      exact nm ⟨j, c, ej, m, by rw [wipe_get nj]; exact sj⟩
    exact po (.ref D) Zi H sz st.unwipe ⟨D, vs, rfl, zD, hD, Nat.le_trans lv lz, rv, fD, nm'⟩
theorem pd_dc (hc : X.calm = true) (hN : X.N.Nodup) (hi : PIX X W tg it di) (ok : BlkOk X.N X.env.scope scope own)
    (hg : ∀ (s : Shared) (H : Hp) (C : Addr) (cl : List (Str × Addr)) (fp : List Addr), PGX (X.blk s H scope (compEnvC scope cl C X.env) fp) tg t is gx) (his : ∀ i ∈ is, i ∈ own.map (·.2))
    (ht : ∀ (s : Shared) (H : Hp) (C : Addr) (cl : List (Str × Addr)) (fp : List Addr), PTsX (X.blk s H scope (compEnvC scope cl C X.env) fp) W0 ifs dc)
    (hk : ∀ (s : Shared) (H : Hp) (C : Addr) (cl : List (Str × Addr)) (fp : List Addr), PX (X.blk s H scope (compEnvC scope cl C X.env) fp) W0 kx dk)
    (he : ∀ (s : Shared) (H : Hp) (C : Addr) (cl : List (Str × Addr)) (fp : List Addr), PX (X.blk s H scope (compEnvC scope cl C X.env) fp) W0 vx dv) (hs : ∀ x, foldedSetIterable it X.env x = pure x := by intro _; rfl) :
    PD X W (.DictComp kx vx [⟨tg, it, ifs, 0⟩] scope pos) (dDc di gx dc dk dv (own.map (·.2))) :=
  ⟨fun pins s σ H Q I h => (pe_dc (tt := tB (tP (gOf X) W0 dc)) (tk := tP (gOf X) W0 dk) (tv := tP (gOf X) W0 dv) hc hN hi ok (fun s H C cl fp => (hg s H C cl fp).pg) ht hk he hs).run pins s σ H Q I
    (t_dc (is := is) (fun f Z env σ H v x env' Q st r e k => (hg s (fun _ => none) 0 [] []).ok f Z env σ H v x env' Q st r e k) his h)⟩
end

/-! ### sorted -/
section
variable {α : Type}
def insertBy (lt : α → α → Bool) (x : α) : List α → List α
  | [] => [x]
  | y :: ys => if lt y x then y :: insertBy lt x ys else x :: y :: ys
def sortBy (lt : α → α → Bool) : List α → List α
  | [] => []
  | x :: xs => insertBy lt x (sortBy lt xs)
theorem insertBy_perm (lt : α → α → Bool) (x : α) : ∀ ys, (insertBy lt x ys).Perm (x :: ys)
  | [] => List.Perm.refl _
  | y :: ys => by
    unfold insertBy
    split
    · exact ((insertBy_perm lt x ys).cons y).trans (List.Perm.swap x y ys)
    · exact List.Perm.refl _
theorem sortBy_perm (lt : α → α → Bool) : ∀ xs, (sortBy lt xs).Perm xs
  | [] => List.Perm.refl _
  | x :: xs => (insertBy_perm lt x (sortBy lt xs)).trans ((sortBy_perm lt xs).cons x)
theorem insertBy_sorted (lt : α → α → Bool) (as : ∀ x y, lt x y = true → lt y x = false) (tr : ∀ x y z, lt y x = false → lt z y = false → lt z x = false) (x : α) : ∀ ys, ys.Pairwise (fun a b => lt b a = false) → (insertBy lt x ys).Pairwise (fun a b => lt b a = false)
  | [], _ => List.pairwise_singleton _ _
  | y :: ys, h => by
    rw [List.pairwise_cons] at h
    unfold insertBy
    by_cases e : lt y x = true
    · rw [if_pos e, List.pairwise_cons]
      refine ⟨fun z hz => ?_, insertBy_sorted lt as tr x ys h.2⟩
      rcases List.mem_cons.mp ((insertBy_perm lt x ys).mem_iff.mp hz) with rfl | hz
      · exact as _ _ e
      · exact h.1 z hz
    · rw [if_neg e, List.pairwise_cons]
      have e : lt y x = false := by cases q : lt y x with | true => exact absurd q e | false => rfl
      refine ⟨fun z hz => ?_, List.pairwise_cons.mpr h⟩
      rcases List.mem_cons.mp hz with rfl | hz
      · exact e
      · exact tr x y z e (h.1 z hz)
theorem sortBy_sorted (lt : α → α → Bool) (as : ∀ x y, lt x y = true → lt y x = false) (tr : ∀ x y z, lt y x = false → lt z y = false → lt z x = false) : ∀ xs, (sortBy lt xs).Pairwise (fun a b => lt b a = false)
  | [] => List.Pairwise.nil
  | x :: xs => insertBy_sorted lt as tr x _ (sortBy_sorted lt as tr xs)
end
abbrev ltI (a b : Int) : Bool := decide (a < b)
def sortI (ns : List Int) : List Int := sortBy ltI ns
theorem sortI_eq {ns ms : List Int} (p : ms.Perm ns) (s : ms.Pairwise (· ≤ ·)) : ms = sortI ns := by
  have h1 : (sortI ns).Pairwise (· ≤ ·) := (sortBy_sorted ltI (fun x y h => by have := of_decide_eq_true h; exact decide_eq_false (by omega)) (fun x y z h1 h2 => by
    have a := of_decide_eq_false h1
    have b := of_decide_eq_false h2
    exact decide_eq_false (by omega)) ns).imp fun {a b} h => by have := of_decide_eq_false h; omega
  exact (p.trans (sortBy_perm ltI ns).symm).eq_of_pairwise (fun a b _ _ h1 h2 => Int.le_antisymm h1 h2) s h1

abbrev ltS (a b : Str) : Bool := Spec.ltCps a.cps.toList b.cps.toList
def sortS (ss : List Str) : List Str := sortBy ltS ss
theorem ltS_eq (a b : Str) : ltS a b = decide (a.cps.toList < b.cps.toList) := PyProof.Rows.ltCps_eq _ _
theorem Str.eq_of {a b : Str} (h : a.cps.toList = b.cps.toList) : a = b := by
  cases a with
  | mk a =>
    cases b with
    | mk b => exact congrArg Str.mk (Array.toList_inj.mp h)
theorem ltS_asymm (x y : Str) (h : ltS x y = true) : ltS y x = false := by
  rw [ltS_eq] at h ⊢
  exact decide_eq_false (List.lt_asymm (of_decide_eq_true h))
theorem ltS_trans (x y z : Str) (h1 : ltS y x = false) (h2 : ltS z y = false) : ltS z x = false := by
  rw [ltS_eq] at h1 h2 ⊢
  have a := of_decide_eq_false h1
  have b := of_decide_eq_false h2
  refine decide_eq_false ?_
  rw [List.not_lt] at a b ⊢
  exact List.le_trans a b
theorem ltS_anti (x y : Str) (h1 : ltS x y = false) (h2 : ltS y x = false) : x = y := by
  rw [ltS_eq] at h1 h2
  have a := of_decide_eq_false h1
  have b := of_decide_eq_false h2
  rw [List.not_lt] at a b
  exact Str.eq_of (List.le_antisymm b a)
theorem risingS_pw : ∀ (ss : List Str) (p : Str), risingS p ss = true → (p :: ss).Pairwise (fun a b => ltS b a = false)
  | [], p, _ => List.pairwise_singleton _ _
  | x :: r, p, h => by
    have h := Bool.and_eq_true_iff.mp (show ((!Spec.ltCps x.cps.toList p.cps.toList) && risingS x r) = true from h)
    have t := risingS_pw r x h.2
    refine List.pairwise_cons.mpr ⟨fun z hz => ?_, t⟩
    have e : ltS x p = false := by simpa using h.1
    rcases List.mem_cons.mp hz with rfl | hz
    · exact e
    · exact ltS_trans p x z e ((List.pairwise_cons.mp t).1 z hz)
theorem sortS_eq {ns ms : List Str} (p : ms.Perm ns) (s : sortedS ms = true) : ms = sortS ns := by
  have h0 : ms.Pairwise (fun a b => ltS b a = false) := by
    cases ms with
    | nil => exact List.Pairwise.nil
    | cons x r => exact risingS_pw r x s
  exact (p.trans (sortBy_perm ltS ns).symm).eq_of_pairwise (fun a b _ _ h1 h2 => ltS_anti a b h2 h1) h0 (sortBy_sorted ltS ltS_asymm ltS_trans ns)
def intsP : List PV → Option (List Int)
  | [] => some []
  | .int i :: r => (intsP r).map (i :: ·)
  | _ :: _ => none
def strsP : List PV → Option (List Str)
  | [] => some []
  | .str i :: r => (strsP r).map (i :: ·)
  | _ :: _ => none
def intsK : List Key → Option (List Int)
  | [] => some []
  | .inl i :: r => (intsK r).map (i :: ·)
  | _ :: _ => none
def strsK : List Key → Option (List Str)
  | [] => some []
  | .inr i :: r => (strsK r).map (i :: ·)
  | _ :: _ => none
theorem intsP_of : ∀ {xs : List PV} {ns : List Int}, intsP xs = some ns → xs = ns.map .int
  | [], _, h => by cases h; rfl
  | x :: r, ns, h => by
    cases x with
    | int i =>
      have h : (intsP r).map (i :: ·) = some ns := h
      cases hr : intsP r with
      | none => rw [hr] at h; cases h
      | some ms => rw [hr] at h; cases h; rw [List.map_cons, ← intsP_of hr]
    | _ => cases h
theorem strsP_of : ∀ {xs : List PV} {ns : List Str}, strsP xs = some ns → xs = ns.map .str
  | [], _, h => by cases h; rfl
  | x :: r, ns, h => by
    cases x with
    | str i =>
      have h : (strsP r).map (i :: ·) = some ns := h
      cases hr : strsP r with
      | none => rw [hr] at h; cases h
      | some ms => rw [hr] at h; cases h; rw [List.map_cons, ← strsP_of hr]
    | _ => cases h
theorem intsK_of : ∀ {xs : List Key} {ns : List Int}, intsK xs = some ns → xs = ns.map .inl
  | [], _, h => by cases h; rfl
  | x :: r, ns, h => by
    cases x with
    | inl i =>
      have h : (intsK r).map (i :: ·) = some ns := h
      cases hr : intsK r with
      | none => rw [hr] at h; cases h
      | some ms => rw [hr] at h; cases h; rw [List.map_cons, ← intsK_of hr]
    | inr _ => cases h
theorem strsK_of : ∀ {xs : List Key} {ns : List Str}, strsK xs = some ns → xs = ns.map .inr
  | [], _, h => by cases h; rfl
  | x :: r, ns, h => by
    cases x with
    | inr i =>
      have h : (strsK r).map (i :: ·) = some ns := h
      cases hr : strsK r with
      | none => rw [hr] at h; cases h
      | some ms => rw [hr] at h; cases h; rw [List.map_cons, ← strsK_of hr]
    | inl _ => cases h
def sortK (ks : List Key) : Option (List PV) := if ks.length < 64 then match intsK ks, strsK ks with
  | some ns, _ => some ((sortI ns).map .int)
  | none, some ss => some ((sortS ss).map .str)
  | none, none => none else none
def qSorted1 : PV → Option (List PV)
  | .dic ks _ => sortK ks
  | .lst xs => match intsP xs, strsP xs with
    | some ns, _ => some ((sortI ns).map .int)
    | none, some ss => if ss.length < 64 then some ((sortS ss).map .str) else none
    | none, none => none
  | _ => none
abbrev qSorted := one qSorted1
section
variable {g : G} {Z H : Hp}
theorem Reps.ints : ∀ {vs : List V} {ns : List Int}, Reps g Z vs (ns.map .int) → vs = ns.map .int
  | [], ns, h => by
    cases ns with
    | nil => rfl
    | cons _ _ => cases h
  | v :: vs, ns, h => by
    cases ns with
    | nil => cases h
    | cons n ns =>
      cases h with
      | cons a b => cases a; rw [List.map_cons, ← Reps.ints b]
theorem Reps.strs : ∀ {vs : List V} {ns : List Str}, Reps g Z vs (ns.map .str) → vs = ns.map .str ∧ ns.all PyData.strOk = true
  | [], ns, h => by
    cases ns with
    | nil => exact ⟨rfl, rfl⟩
    | cons _ _ => cases h
  | v :: vs, ns, h => by
    cases ns with
    | nil => cases h
    | cons n ns =>
      cases h with
      | cons a b =>
        obtain ⟨h1, h2⟩ := Reps.strs b
        cases a with
        | str _ q => exact ⟨by rw [List.map_cons, ← h1], by rw [List.all_cons, q, h2]; rfl⟩
theorem reps_int : ∀ (ns : List Int), Reps g Z (ns.map .int) (ns.map .int)
  | [] => .nil
  | n :: ns => .cons (.int n) (reps_int ns)
theorem reps_str : ∀ (ns : List Str), ns.all PyData.strOk = true → Reps g Z (ns.map .str) (ns.map .str)
  | [], _ => .nil
  | n :: ns, h => by
    rw [List.all_cons, Bool.and_eq_true] at h
    exact .cons (.str n h.1) (reps_str ns h.2)
end
theorem all_perm {α : Type} {p : α → Bool} {xs ys : List α} (h : xs.Perm ys) (a : ys.all p = true) : xs.all p = true := by
  rw [List.all_eq_true] at a ⊢
  exact fun x hx => a x (h.mem_iff.mp hx)
section
variable {X : Cx} {W : WX} {a : Expr} {ds : Den (List PV)} {p pos : Pos}
def rSrt (K : PySem.W.Frag) : List V → Hp → VK → Prop := fun xs H Q => rSortedI K xs H Q ∨ rSortedS K xs H Q ∨ (∃ (a : Addr) (kvs : List (L2.Key × V)) (ks : List Str), xs = [.ref a] ∧ Rd H a (.dK kvs) ∧ kvs.map (·.1) = ks.map Sum.inr ∧ ks.length < 64 ∧
    ∀ ys p, ys.Perm ks → sortedS ys = true → H p = none → Q (.ref p) (upd H p (.lst (ys.map V.str)))) ∨ (∃ (a : Addr) (kvs : List (L2.Key × V)) (ks : List Int), xs = [.ref a] ∧ Rd H a (.dK kvs) ∧ kvs.map (·.1) = ks.map Sum.inl ∧ ks.length < 64 ∧
    ∀ (ys : List Int) (p : Addr), ys.Perm ks → ys.Pairwise (· ≤ ·) → H p = none → Q (.ref p) (upd H p (.lst (ys.map V.int))))
theorem call_srt (hc : X.calm = true) : CallR X (.builtin "sorted") (rSrt X.K) := cr_sortedI.or (cr_sortedS.or ((call_sortedD hc).or (call_sortedDI hc)))
theorem sortedP : CallO (gOf X) W (rSrt X.K) qSorted := by
  refine callO_one fun f Z env σ H u x v Q st ru e k => ?_
  have fin : ∀ {p : Addr} {vs : List V} {xs : List PV}, H p = none → vs.length ≤ sizeLine → Reps (gOf X) Z vs xs → xs = v → Q (.ref p) (upd H p (.lst vs)) := fun {p vs xs} n l r e => by
    subst e
    obtain ⟨st2, r2⟩ := st.own n l r
    exact k _ Z _ (Same.refl _) st2 r2
  cases x with
  | lst xs =>
    cases ru with
    | lst h l rv =>
      rename_i a vs
      have e : (match intsP xs, strsP xs with
        | some ns, _ => some ((sortI ns).map PV.int)
        | none, some ss => if ss.length < 64 then some ((sortS ss).map .str) else none
        | none, none => none) = some v := e
      cases hi : intsP xs with
      | some ns =>
        rw [hi] at e
        cases e
        rw [intsP_of hi] at rv
        have ev := rv.ints
        subst ev
        refine .inl ⟨a, ns, rfl, Same.sql st.zh h, fun ns' p hp hs n => fin n ?_ (reps_int ns') (by rw [sortI_eq hp hs])⟩
        rw [List.length_map, hp.length_eq]
        rw [List.length_map] at l
        exact l
      | none =>
        rw [hi] at e
        cases hs : strsP xs with
        | none => rw [hs] at e; cases e
        | some ss =>
          rw [hs] at e
          obtain ⟨l64, rfl⟩ := of_ite e
          rw [strsP_of hs] at rv
          obtain ⟨ev, ok⟩ := rv.strs
          subst ev
          refine .inr (.inl ⟨a, ss, rfl, Same.sql st.zh h, l64, fun ns' p hp hs n => fin n ?_ (reps_str ns' (all_perm hp ok)) (by rw [sortS_eq hp hs])⟩)
          rw [List.length_map, hp.length_eq]
          rw [List.length_map] at l
          exact l
  | dic ks vs =>
    cases ru with
    | dic h l ok rv =>
      rename_i a kvs
      have e : sortK (kvs.map (·.1)) = some v := e
      unfold sortK at e
      split at e
      · rename_i l64
        cases hi : intsK (kvs.map (·.1)) with
        | some ns =>
          rw [hi] at e
          cases e
          have ev := intsK_of hi
          have ln : ns.length < 64 := by rw [ev, List.length_map] at l64; exact l64
          refine .inr (.inr (.inr ⟨a, kvs, ns, rfl, Same.rd st.zh h, ev, ln, fun ns' p hp hs n => fin n ?_ (reps_int ns') (by rw [sortI_eq hp hs])⟩))
          rw [List.length_map, hp.length_eq]
          exact small64 ln
        | none =>
          rw [hi] at e
          cases hs : strsK (kvs.map (·.1)) with
          | none => rw [hs] at e; cases e
          | some ss =>
            rw [hs] at e
            cases e
            have ev := strsK_of hs
            have ln : ss.length < 64 := by rw [ev, List.length_map] at l64; exact l64
            have ok' : ss.all PyData.strOk = true := by
              rw [ev, List.all_map] at ok
              exact ok
            refine .inr (.inr (.inl ⟨a, kvs, ss, rfl, Same.rd st.zh h, ev, ln, fun ns' p hp hs n => fin n ?_ (reps_str ns' (all_perm hp ok')) (by rw [sortS_eq hp hs])⟩))
            rw [List.length_map, hp.length_eq]
            exact small64 ln
      · cases e
  | _ => cases e
theorem po_sorted (hc : X.calm = true) (hg : Gl X "sorted") (hm : X.mg "sorted" = none) (ha : PAX X W [a] ds) (he : starEach [a] X.env = (false, eval a X.env) :: starEach [] X.env := by rfl) : PO' X W (.Call (.Name "sorted" p) [a] [] pos) (dArgs qSorted ds) :=
  po_callB (call_srt hc) sortedP hg hm boot_sorted ha (he := he)
end

/-! ### a changing dict's name -/
/-- name, a changing dict, as data at this time, handed on for good -/
def dFreezeD (i : Nat) : Den PV := fun e => match e[i]? with
  | some (.d true ks vs) => some (.ok (.dic ks vs) (e.set i (.v (.dic ks vs))))
  | _ => none
def mergeK (kvs more : List (L2.Key × V)) : List (L2.Key × V) := more.foldl (fun acc kv => putK acc kv.1 kv.2) kvs
def mergeP (kps more : KP) : KP := more.foldl (fun acc kv => putP acc kv.1 kv.2) kps
theorem RepK.merge {g : G} {Z : Hp} {kvs more : List (L2.Key × V)} {kps mps : KP} (h : RepK g Z kvs kps) (h' : RepK g Z more mps) : RepK g Z (mergeK kvs more) (mergeP kps mps) := by
  induction h' generalizing kvs kps with
  | nil => exact h
  | cons k r t ih => exact ih (h.put k r)
theorem kv_merge {kvs more : List (L2.Key × V)} {vs ws : List (L2.Key × Value)} (h : KV kvs vs) (h' : KV more ws) : KV (mergeK kvs more) (merged vs ws) := by
  unfold KV at h'
  induction h' generalizing kvs vs with
  | nil => exact h
  | @cons p q ps qs hh t ih =>
    have e : KV (putK kvs p.1 p.2) (stored vs p.1 q.2) := h.put p.1 hh.2
    rw [hh.1] at e
    have : KV (mergeK (putK kvs q.1 p.2) ps) (merged (stored vs q.1 q.2) qs) := ih e
    rw [← hh.1] at this
    show KV (mergeK (putK kvs p.1 p.2) ps) (merged (stored vs q.1 q.2) qs)
    rw [← hh.1]
    exact this
theorem mergeK_len : ∀ (more kvs : List (L2.Key × V)), (mergeK kvs more).length ≤ kvs.length + more.length
  | [], kvs => Nat.le_refl _
  | p :: more, kvs => by
    have h1 := mergeK_len more (putK kvs p.1 p.2)
    have h2 := length_putK kvs p.1 p.2
    have h3 : mergeK kvs (p :: more) = mergeK (putK kvs p.1 p.2) more := rfl
    rw [h3, List.length_cons]
    omega
section
variable {X : Cx}
def rUpdK : V → List V → Hp → VK → Prop := fun x xs H Q => ∃ (a b : Addr) (kvs more : List (L2.Key × V)), x = .ref a ∧ xs = [.ref b] ∧ a ≠ b ∧ H a = some (.dK kvs) ∧ Rd H b (.dK more) ∧ kvs.length + more.length ≤ sizeLine ∧ Q .non (upd H a (.dK (mergeK kvs more)))
theorem mt_updK : MtR X "dict.update" rUpdK := by
  intro pins s σ H x xs v us Q I rx rxs h
  obtain ⟨a, b, kvs, more, rfl, rfl, hab, ha, hb, hz, q⟩ := h
  cases rx
  obtain ⟨u, rfl, ru⟩ := rxs.one
  cases ru
  obtain ⟨z, lo, vs, rel, dd⟩ := dk_of I.hok ha
  obtain ⟨z2, lo2, ws, rel2, dd2⟩ := dk_rd I.hok hb
  refine call_meetsIn PySem.F.slot_dict_update dd.typeIs PySem.F.entry_dict_update (PySem.F.args_dict_update_2 _ _) (meets_dict_update (mixKind X.prog X.w) a b hab lo2) ⟨vs, ws, dd, dd2, ?_, fun h' hd' ho' sb => ?_⟩
  · rw [← rel.length, ← rel2.length]; exact hz
  · have he : ∃ q, h'.get? a = some q := let ⟨q, _, _, hq, _⟩ := hd'; ⟨q, hq⟩
    exact ⟨.non, _, d_write (t' := s.toks) I (by rw [ha]; exact True.intro) sb he (dk_new (Nat.le_trans (mergeK_len more kvs) hz) lo (kv_merge rel rel2) hd'), rfl, q⟩
end
/-- name.update(e) of a changing dict -/
def dUpdM (i : Nat) (da : Den PV) : Den PV := fun e => match e[i]? with
  | some (.d _ _ _) => da.bind (fun y e1 => match e1[i]?, y with
    | some (.d own ks vs), .dic ks' vs' => if ks.length + ks'.length ≤ sizeLine then some (.ok .non (e1.set i (.dOf own (mergeP (ks.zip vs) (ks'.zip vs'))))) else none
    | _, _ => none) e
  | _ => none
section
variable {X : Cx} {W : WX} {i : Nat} {x : Str} {e b : Expr} {dv dk : Den PV} {p pos pos' apos cpos : Pos}
theorem px_updM (h : PE X (.Name x p) (tVar i)) (ha : PX X W e dv)
    (hbase : attributeBase (.Name x p) "update" X.env (eval (.Name x p) X.env) = eval (.Name x p) X.env := by rfl)
    (hfew : ((backTo cpos (starEach [e] X.env)).all (fun x => !x.1) && (backToKw cpos (keywordEach [] X.env)).all (fun x => x.1.isSome)
      && decide ([e].length + ([] : List Keyword).length + (if ([] : List Keyword).isEmpty then 0 else 1) < 30)) = true := by rfl)
    (hline : (apos.endLine == cpos.line) = true := by rfl) (hs : starEach [e] X.env = (false, eval e X.env) :: starEach [] X.env := by rfl) (hplain : (backTo cpos (starEach [] X.env)).any (·.1) = false := by rfl) :
    PX X W (.Call (.Attribute (.Name x p) "update" apos) [e] [] cpos) (dUpdM i dv) :=
  peimp (pe_bm PySem.F.plainAttrs_dict PySem.F.slot_dict_update PySem.F.type_dict_update mt_updK h (pax_cons ha pax_nil hs) hbase hfew hline hs hplain) fun σ H Q ⟨f, Z, env, st, o, e, pp⟩ => by
    unfold dUpdM at e
    split at e
    · rename_i own ks vs hx
      obtain ⟨a, kvs, e1, n, hH, l, hk, ho, r, ow⟩ := st.sl i _ hx
      refine ⟨.ref a, e1, .inr (.inr (.inl ⟨rfl, .inl ⟨_, hH⟩⟩)), ?_⟩
      have a0 : At (gOf X) W f Z env (dv.bind _) (RV (gOf X)) Q σ H := ⟨st, o, e, pp⟩
      have a1 := a0.bind (R := RV (gOf X))
      refine ⟨f, Z, env, a1.st, ?_⟩
      obtain ⟨o1, eo1, po1⟩ := a1.to
      unfold dCons dNil Den.bind
      cases hd : dv env with
      | none => rw [hd] at eo1; cases eo1
      | some od =>
        rw [hd] at eo1
        cases eo1
        cases o1 with
        | ex c e2 => exact ⟨_, rfl, fun cls dd Z' H' s st' r => po1 cls dd Z' H' s st' r⟩
        | ok y e2 =>
          refine ⟨_, rfl, fun us Z1 H1 s1 st1 r1 => ?_⟩
          obtain ⟨u, rfl, ru⟩ := r1.one
          obtain ⟨Z2, env2, y2, s2, r2, a2⟩ := po1 u Z1 H1 s1 st1 ru
          obtain ⟨st2, o2, eo2, po2⟩ := a2
          split at eo2
          · rename_i own' ks1 vs1 ks2 vs2 hx'
            split at eo2
            · rename_i hl
              cases eo2
              obtain ⟨a', kvs', e1', n', hH', l', hk', ho', r', ow'⟩ := st2.sl i _ hx'
              rw [e1] at e1'
              cases e1'
              cases r2 with
              | dic h2 l2 ok2 rv2 =>
                rename_i b more
                have ne : a ≠ b := fun z => by
                  subst z
                  rcases h2 with h2 | ⟨o', h2⟩ <;> rw [n'] at h2 <;> cases h2
                obtain ⟨k1, k2, k3⟩ := RepK.of hk' ho' r'
                obtain ⟨j1, j2, j3⟩ := RepK.of rfl ok2 rv2
                have km := k1.merge j1
                obtain ⟨m1, m2, m3⟩ := km.parts
                have lz : kvs'.length + more.length ≤ sizeLine := by
                  rw [← hk', List.length_map, List.length_map] at hl; exact hl
                refine ⟨a, b, kvs', more, rfl, rfl, ne, hH', Same.rd st2.zh h2, lz, ?_⟩
                refine po2 .non Z2 _ (Same.refl _) (st2.putC hx' rfl rfl e1 ⟨a, _, e1, n', upd_same, Nat.le_trans (mergeK_len more kvs') lz, m1, by rw [← m1]; exact m2, m3, ow'⟩) .non
            · cases eo2
          · cases eo2
    · cases e
end
end Pu
set_option Elab.async false
set_option linter.all false
set_option maxRecDepth 100000
set_option maxHeartbeats 4000000
/-! Pu, part J: defs whose first parameter is a list that they change; defs that make a list; written constants; a changing list, read. -/
namespace Pu
open PySem PySem.Spec PyProof.Rows L2

/-! ### the first parameter is changed -/
abbrev FnM := List PV → List PV → Option (PV × List PV)
structure ExtM (a : Addr) (Z H Z' H' : Hp) : Prop where
  zz : Same Z Z'
  hh : ∀ b o, b ≠ a → H b = some o → H' b = some o
  zh : Same Z' H'
  nz : ∀ b o, b ≠ a → H b = some o → Z b = none → Z' b = none
  na : Z' a = none
def SpM (g : G) (n : Nat) (F : FnM) : Sp := fun vs H Q E => ∃ Z a ws us xs args r ys, vs = V.ref a :: ws ∧ Same Z H ∧ Z a = none ∧ H a = some (.lst us) ∧ us.length ≤ sizeLine ∧ Reps g Z us xs ∧ Reps g Z ws args ∧ args.length + 1 = n ∧ F xs args = some (r, ys) ∧
  ∀ u Z' H' us', ExtM a Z H Z' H' → H' a = some (.lst us') → us'.length ≤ sizeLine → Reps g Z' us' ys → Rep g Z' u r → Q u H'
def cellsM (m : Nat) (xs args : List PV) : Cells := .m false xs :: (args.map .v ++ List.replicate (m - (args.length + 1)) .un)
def outM (v : PV) (e : Cells) : Option (PV × List PV) := match (e[(0 : Nat)]? : Option Cell) with
  | some (.m false ys) => some (v, ys)
  | _ => none
def fnDenM (m : Nat) (d : SDen) : FnM := fun xs args => match d (cellsM m xs args) with
  | some (.rt v e) => outM v e
  | some (.nx e) => outM .non e
  | _ => none
theorem stok_startM {g : G} {Z H : Hp} {N : List Str} {a : Addr} {ws us : List V} {xs args : List PV} (e : Same Z H) (n : Z a = none) (hH : H a = some (.lst us)) (l : us.length ≤ sizeLine) (rx : Reps g Z us xs) (r : Reps g Z ws args) (h : ws.length + 1 ≤ N.length) :
    StOk g ⟨Z, H, fun b => b = a⟩ Z H (start N (.ref a :: ws)) (cellsM N.length xs args) where
  z0 := Same.refl _
  zh := e
  fr := fun _ _ q _ => q
  nz := fun _ _ _ _ z => z
  pr := fun _ o q => ⟨o, q⟩
  mh := fun b m => by
    have m : b = a := m
    subst m; exact ⟨_, hH⟩
  ln := by
    rw [start_len (by rw [List.length_cons]; exact h)]
    unfold cellsM
    rw [List.length_cons, List.length_append, List.length_map, List.length_replicate, ← r.length]; omega
  sl := fun i c ei => by
    cases i with
    | zero =>
      cases ei
      exact ⟨a, us, rfl, n, hH, l, rx, rfl⟩
    | succ i =>
      have ei : (args.map Cell.v ++ List.replicate (N.length - (args.length + 1)) .un)[i]? = some c := ei
      by_cases hi : i < args.length
      · rw [List.getElem?_append_left (by rw [List.length_map]; exact hi), List.getElem?_map] at ei
        cases ea : args[i]? with
        | none => rw [ea] at ei; cases ei
        | some x =>
          rw [ea] at ei
          cases ei
          obtain ⟨v, hv, rv⟩ := r.get' ea
          refine ⟨v, ?_, rv⟩
          unfold L2.start
          show (((V.ref a) :: ws).map some ++ _)[i + 1]? = _
          rw [List.getElem?_append_left (by rw [List.length_map, List.length_cons, r.length]; omega), List.getElem?_map, List.getElem?_cons_succ, hv]
          rfl
      · rw [List.getElem?_append_right (by rw [List.length_map]; omega)] at ei
        rw [List.getElem?_replicate] at ei
        split at ei
        · cases ei; trivial
        · cases ei
  sep := fun i j x y b ei ej mx my si sj => by
    have no : ∀ {i : Nat} {c : Cell}, (cellsM N.length xs args)[i]? = some c → c.mut = true → i = 0 := fun {i c} ei m => by
      cases i with
      | zero => rfl
      | succ i =>
        have ei : (args.map Cell.v ++ List.replicate (N.length - (args.length + 1)) .un)[i]? = some c := ei
        rcases List.mem_append.mp (List.mem_of_getElem? ei) with h | h
        · obtain ⟨x, _, rfl⟩ := List.mem_map.mp h; cases m
        · rw [(List.mem_replicate.mp h).2] at m; cases m
    rw [no ei mx, no ej my]
section
variable {P : Program} {w : World} {K : PySem.W.Frag} {mg : Str → Option Value} {base : Heap}
theorem fnM {x qual : Str} {params : Arguments} {body : List Stmt} {scope : Scope} {dvs : List V} {kws : List (Str × V)} {f : Addr} {fd : FuncData} {N ps : List Str} {k : Nat} {d : SDen} (F : FunD K x qual params body scope dvs kws f fd) (S : FnScope N ps scope)
    (hb : ∀ (cdv : Value) (A : Around) (outer : List PySem.Env) (s : Shared) (H : Hp) (E : XK), RoomG k (A.deeper (envOfC qual scope s.heap.objs.size f cdv)) →
      Takes (cxOf (L2.CX P w) P w K mg base N qual scope f cdv A outer s H E) (fun cls dd _ H' => E cls dd H') →
      PSsX (cxOf (L2.CX P w) P w K mg base N qual scope f cdv A outer s H E) (fun cls dd _ H' => E cls dd H') body d) :
    FnG P w K mg base (L2.CX P w) (k + 1) f fd ps (SpM ⟨K, mg⟩ ps.length (fnDenM N.length d)) := by
  refine fnG_of F S (fun vs H Q E ⟨Z, a, ws, us, xs, args, r, ys, ev, _, _, _, _, _, rw', l, _⟩ => by rw [ev, List.length_cons, rw'.length]; exact l) fun cdv A outer s H vs Q E hr h => ?_
  refine ⟨_, hb cdv A outer s H E hr (takes_of rfl rfl rfl rfl), ?_⟩
  obtain ⟨Z, a, ws, us, xs, args, r, ys, ev, e, n, hH, lu, rx, ra, l, hF, ho⟩ := h
  subst ev
  have hpl : ps.length ≤ N.length := by have := congrArg List.length S.pre; rw [List.length_take] at this; omega
  have st : StOk ⟨K, mg⟩ ⟨Z, H, fun b => b = a⟩ Z H (start N (.ref a :: ws)) (cellsM N.length xs args) := stok_startM e n hH lu rx ra (by rw [ra.length]; omega)
  have fin : ∀ {Z' H' : Hp} {σ' : L2.St} {e' : Cells} {v : PV} {u : V}, Same Z Z' → StOk ⟨K, mg⟩ ⟨Z, H, fun b => b = a⟩ Z' H' σ' e' → Rep ⟨K, mg⟩ Z' u v → outM v e' = some (r, ys) → Q u H' := fun {Z' H' σ' e' v u} s st' rv eo => by
    unfold outM at eo
    split at eo
    · rename_i zs hz
      cases eo
      obtain ⟨b, vs, e1, n', hH', l', r', ow⟩ := st'.sl 0 _ hz
      have ow : b = a := ow
      subst ow
      exact ho u Z' H' vs ⟨s, fun c o hc q => st'.fr c o q hc, st'.zh, fun c o hc q z => st'.nz c o q hc z, n'⟩ hH' l' r' rv
    · cases eo
  refine ⟨_, Z, _, st, ?_⟩
  unfold fnDenM at hF
  cases hd : d (cellsM N.length xs args) with
  | none => rw [hd] at hF; cases hF
  | some so =>
    rw [hd] at hF
    cases so with
    | rt v e1 => exact ⟨_, rfl, fun u σ' Z' H' s st' rv => fin s st' rv hF⟩
    | nx e1 => exact ⟨_, rfl, fun σ' Z' H' s st' => fin s st' .non hF⟩
    | ex c e1 => cases hF
    | bk e1 => cases hF
    | ct e1 => cases hF
end
structure DefM (X : Cx) (x : Str) (ps : List Str) (k : Nat) (F : FnM) : Prop where
  ex : ∃ (f : Addr) (fd : FuncData), X.mg x = some (.ref f) ∧ PySem.W.keepIn X.K (.ref f) = true ∧ Binds X.K fd ps [] ∧
    FnG X.prog X.w X.K X.mg X.base (L2.CX X.prog X.w) k f fd ps (SpM (gOf X) ps.length F)
def dCallM (i : Nat) (F : FnM) (ds : Den (List PV)) : Den PV := fun e => match e[i]? with
  | some (.m _ _) => ds.bind (fun args e1 => match e1[i]? with
    | some (.m own xs) => (match F xs args with
      | some (r, ys) => some (.ok r (e1.set i (.m own ys)))
      | none => none)
    | _ => none) e
  | _ => none
section
variable {X : Cx} {W : WX} {k i : Nat} {x y : Str} {ps : List Str} {F : FnM} {p p2 pos : Pos} {es : List Expr} {ds : Den (List PV)}
theorem px_callM (D : DefM X x ps k F) (tk : Takes X W) (hr : RoomG k X.A) (hg : Gl X x) (hy : PE X (.Name y p2) (tVar i)) (ha : PAX X W es ds) {n : Nat} (hl : Len ds n) (hn : n + 1 = ps.length := by rfl) (hdb : (x == ("__debug__" : Str)) = false := by decide)
    (he : starEach (.Name y p2 :: es) X.env = (false, eval (.Name y p2) X.env) :: starEach es X.env := by rfl) (hpl : (backTo pos (starEach es X.env)).any (·.1) = false := by rfl) : PX X W (.Call (.Name x p) (.Name y p2 :: es) [] pos) (dCallM i F ds) := by
  obtain ⟨f, fd, hm, hk, hb, ok⟩ := D.ex
  refine peimp (pe_callSD (E := WE W) ok hr hg hm hk hb (dvs := []) .nil (passAt tk) (pa_cons hy ha he) hdb he hpl) fun σ H Q ⟨fr, Z, env, st, o, eo, po⟩ => ?_
  unfold dCallM at eo
  split at eo
  · rename_i own0 xs0 hx0
    obtain ⟨a, us0, ea, _, _, _, _, _⟩ := st.sl i _ hx0
    refine ⟨.ref a, ea, ?_⟩
    have a0 : At (gOf X) W fr Z env (ds.bind _) (RV (gOf X)) Q σ H := ⟨st, o, eo, po⟩
    obtain ⟨o0, e0, _⟩ := a0.bind (R := RVs (gOf X)) |>.to
    refine ⟨fr, Z, env, (a0.bind (R := RVs (gOf X))).st, o0, e0, ?_⟩
    obtain ⟨o1, e1, p1⟩ := a0.bind (R := RVs (gOf X)) |>.to
    rw [e0] at e1
    cases e1
    cases o0 with
    | ex c e1 => exact fun cls dd Z' H' s st' r => p1 cls dd Z' H' s st' r
    | ok args e1 =>
      intro ws Z1 H1 s1 st1 r1
      have la : args.length = n := hl _ _ _ e0
      obtain ⟨Z2, env2, args2, s2, r2, a2⟩ := p1 ws Z1 H1 s1 st1 r1
      obtain ⟨st2, o2, eo2, po2⟩ := a2
      have la2 : args2.length = n := by rw [← r2.length, r1.length]; exact la
      split at eo2
      · rename_i own xs hx
        cases hF : F xs args2 with
        | none => rw [hF] at eo2; cases eo2
        | some ry =>
          obtain ⟨r, ys⟩ := ry
          rw [hF] at eo2
          cases eo2
          obtain ⟨a', us, ea', n', hH', l', r', ow'⟩ := st2.sl i _ hx
          rw [ea] at ea'
          cases ea'
          refine ⟨Z2, a, ws, us, xs, args2, r, ys, by rw [List.append_nil], st2.zh, n', hH', l', r', r2, by rw [la2]; exact hn, hF, fun u Z' H' us' ex hA lA rA ru => ?_⟩
          have hmid : Ext Z2 H1 Z' (upd H' a (.lst us)) := ⟨ex.zz, fun b o q => by
            by_cases hb : b = a
            · subst hb; rw [upd_same, ← hH', q]
            · rw [upd_ne hb]; exact ex.hh b o hb q, fun b o q => by
            have hb : b ≠ a := fun z => by subst z; rw [ex.na] at q; cases q
            rw [upd_ne hb]; exact ex.zh _ _ q, fun b o q z => by
            by_cases hb : b = a
            · subst hb; exact ex.na
            · exact ex.nz b o hb q z⟩
          have st3 := (st2.ext hmid).putM (ys := ys) (vs := us') hx ea upd_same lA rA
          have eH : upd (upd H' a (.lst us)) a (.lst us') = H' := by
            funext b
            by_cases hb : b = a
            · subst hb; rw [upd_same, hA]
            · rw [upd_ne hb, upd_ne hb]
          rw [eH] at st3
          exact po2 u Z' H' ex.zz st3 ru
      · cases eo2
  · cases eo
end

/-! ### a def that makes a list of its own -/
def FnO := List PV → Option (List PV)
def SpO (g : G) (n : Nat) (F : FnO) : Sp := fun vs H Q _ => ∃ Z args xs, Same Z H ∧ Reps g Z vs args ∧ args.length = n ∧ F args = some xs ∧
  ∀ p us Z' H', Ext Z H Z' H' → Z' p = none → H p = none → H' p = some (.lst us) → us.length ≤ sizeLine → Reps g Z' us xs → Q (.ref p) H'
def fnDenO (m : Nat) (d : Den (List PV)) : FnO := fun args => match d (args.map .v ++ List.replicate (m - args.length) .un) with
  | some (.ok xs _) => some xs
  | _ => none
section
variable {P : Program} {w : World} {K : PySem.W.Frag} {mg : Str → Option Value} {base : Heap}
theorem fnO {x qual : Str} {params : Arguments} {e : Expr} {pos : Pos} {scope : Scope} {dvs : List V} {kws : List (Str × V)} {f : Addr} {fd : FuncData} {N ps : List Str} {k : Nat} {d : Den (List PV)} (F : FunD K x qual params [.Return (some e) pos] scope dvs kws f fd) (S : FnScope N ps scope)
    (hb : ∀ (cdv : Value) (A : Around) (outer : List PySem.Env) (s : Shared) (H : Hp) (E : XK), RoomG k (A.deeper (envOfC qual scope s.heap.objs.size f cdv)) →
      Takes (cxOf (L2.CX P w) P w K mg base N qual scope f cdv A outer s H E) (fun cls dd _ H' => E cls dd H') →
      PO' (cxOf (L2.CX P w) P w K mg base N qual scope f cdv A outer s H E) (fun cls dd _ H' => E cls dd H') e d) :
    FnG P w K mg base (L2.CX P w) (k + 1) f fd ps (SpO ⟨K, mg⟩ ps.length (fnDenO N.length d)) := by
  refine fnG_of F S (fun vs H Q E ⟨Z, args, xs, _, r, l, _⟩ => r.length.trans l) fun cdv A outer s H vs Q E hr h => ?_
  refine ⟨_, pss_one (ps_ret (hb cdv A outer s H E hr (takes_of rfl rfl rfl rfl))), ?_⟩
  obtain ⟨Z, args, xs, e, r, l, hF, ho⟩ := h
  have hpl : ps.length ≤ N.length := by have := congrArg List.length S.pre; rw [List.length_take] at this; omega
  have st : StOk ⟨K, mg⟩ ⟨Z, H, fun _ => False⟩ Z H (start N vs) (args.map .v ++ List.replicate (N.length - args.length) .un) := stok_start e r (by rw [r.length, l]; exact hpl)
  refine ⟨_, Z, _, st, ?_⟩
  unfold fnDenO at hF
  cases hd : d (args.map .v ++ List.replicate (N.length - args.length) .un) with
  | none => rw [hd] at hF; cases hF
  | some so =>
    rw [hd] at hF
    cases so with
    | ok v e1 =>
      cases hF
      refine ⟨_, rfl, fun u Z' H' s st' ⟨p, us, eu, n, hH, lu, ru, fn, _⟩ => ?_⟩
      subst eu
      exact ho p us Z' H' ⟨s, fun a o q => st'.fr a o q (fun z => z), st'.zh, fun a o q z => st'.nz a o q (fun z => z) z⟩ n fn hH lu ru
    | ex c e1 => cases hF
end
structure DefO (X : Cx) (x : Str) (ps : List Str) (k : Nat) (F : FnO) : Prop where
  ex : ∃ (f : Addr) (fd : FuncData), X.mg x = some (.ref f) ∧ PySem.W.keepIn X.K (.ref f) = true ∧ Binds X.K fd ps [] ∧
    FnG X.prog X.w X.K X.mg X.base (L2.CX X.prog X.w) k f fd ps (SpO (gOf X) ps.length F)
def dCallO (F : FnO) (ds : Den (List PV)) : Den (List PV) := ds.bind fun xs => Den.lift (F xs)
section
variable {X : Cx} {W : WX} {k : Nat} {x : Str} {ps : List Str} {F : FnO} {p pos : Pos} {e : Expr} {es : List Expr} {ds : Den (List PV)}
theorem po_callO (D : DefO X x ps k F) (tk : Takes X W) (hr : RoomG k X.A) (hg : Gl X x) (ha : PAX X W (e :: es) ds) {n : Nat} (hl : Len ds n) (hn : n = ps.length := by rfl) (hdb : (x == ("__debug__" : Str)) = false := by decide)
    (he : starEach (e :: es) X.env = (false, eval e X.env) :: starEach es X.env := by rfl) (hpl : (backTo pos (starEach es X.env)).any (·.1) = false := by rfl) : PO' X W (.Call (.Name x p) (e :: es) [] pos) (dCallO F ds) := by
  obtain ⟨f, fd, hm, hk, hb, ok⟩ := D.ex
  refine peimp (pe_callSD (E := WE W) ok hr hg hm hk hb (dvs := []) .nil (passAt tk) ha hdb he hpl) fun σ H Q ⟨fr, Z, env, a⟩ => ?_
  have a0 := a
  obtain ⟨o1, e1, p1⟩ := a0.bind (R := RVs (gOf X)) |>.to
  refine ⟨fr, Z, env, a.st, o1, e1, ?_⟩
  cases o1 with
  | ex c e2 => exact fun cls dd Z' H' s st' r => p1 cls dd Z' H' s st' r
  | ok args e2 =>
    intro ws Z1 H1 s1 st1 r1
    have la : args.length = n := hl _ _ _ e1
    obtain ⟨Z2, env2, args2, s2, r2, a2⟩ := p1 ws Z1 H1 s1 st1 r1
    have la2 : args2.length = n := by rw [← r2.length, r1.length]; exact la
    obtain ⟨xs, hF, kk⟩ := a2.lift
    refine ⟨Z2, args2, xs, a2.st.zh, by rw [List.append_nil]; exact r2, by rw [la2]; exact hn, hF, fun q us Z' H' ex n' hn' hH lu ru => ?_⟩
    have st3 := a2.st.ext ex
    exact kk (.ref q) Z' H' ex.zz st3 ⟨q, us, rfl, n', hH, lu, ru, a2.st.fH hn', fun m => by obtain ⟨_, ⟨o, z⟩, _⟩ := a2.st.muts m; rw [hn'] at z; cases z⟩
end

/-! ### written constants -/
section
variable {X : Cx} {W : WX} {i : Nat} {x : Str} {pos p p1 : Pos}
/-- a written tuple -/
theorem TupAt.written {K : PySem.W.Frag} {Z : Hp} {a : Addr} {vs : List V} {o : Obj} {its : Array Value} {n : Nat} (h : K.lookup a = some o) (c : o.cls = .type "tuple") (d : o.dict = none) (dt : o.data = .seq its n) (l : its.size ≤ sizeLine) (r : Vals vs its.toList) : TupAt K Z a vs :=
  .inr ⟨o, its, n, h, c, d, dt, l, r⟩
/-- a changing dict's name, for good -/
theorem px_freezeD (h : PE X (.Name x pos) (tVar i)) : PX X W (.Name x pos) (dFreezeD i) := peimp h fun σ H Q ⟨f, Z, env, st, o, e, pp⟩ => by
  unfold dFreezeD at e
  split at e
  · rename_i ks vs hx
    cases e
    obtain ⟨a, kvs, e1, n, hH, l, hk, ho, r, ow⟩ := st.sl i _ hx
    have nm : ¬ Muts σ (env.set i .un) a := fun ⟨j, c, ej, m, sj⟩ => by
      by_cases hj : i = j
      · subst hj
        rw [List.getElem?_set_self (List.getElem?_eq_some_iff.mp hx).1] at ej
        cases ej; cases m
      · rw [List.getElem?_set_ne hj] at ej
        exact hj (st.sep i j _ _ a hx ej rfl m e1 sj)
    obtain ⟨st2, zz⟩ := (st.forget (i := i)).ownZ n hH ow nm
    have hi : i < σ.length := by rw [← st.ln]; exact (List.getElem?_eq_some_iff.mp hx).1
    have rr : Rep (gOf X) (upd Z a (.dK kvs)) (.ref a) (.dic ks vs) := by
      rw [← hk]
      exact .dic (.inl upd_same) l (by rw [hk]; exact ho) (r.mono zz)
    have st3 := st2.setV rr hi
    rw [List.set_set] at st3
    have eσ : σ.set i (some (V.ref a)) = σ := by
      apply List.ext_getElem?
      intro j
      by_cases hj : i = j
      · subst hj; rw [List.getElem?_set_self hi, e1]
      · rw [List.getElem?_set_ne hj]
    rw [eσ] at st3
    exact ⟨.ref a, e1, pp _ _ H zz st3 rr⟩
  · cases e
end
end Pu
set_option Elab.async false
set_option linter.all false
set_option maxRecDepth 100000
set_option maxHeartbeats 4000000
/-! Pu, part K: sums of any kind; what stands behind the top; levels. -/
namespace Pu
open PySem PySem.Spec PyProof.Rows L2

/-! ### sums -/
def qAddG : PV → PV → Option PV
  | .int i, .int j => some (.int (i + j))
  | .str a, .str b => if a.length + b.length ≤ sizeLine ∧ PyData.strOk (a ++ b) = true then some (.str (a ++ b)) else none
  | .tup xs, .tup ys => if xs.length + ys.length ≤ 100000 then some (.tup (xs ++ ys)) else none
  | _, _ => none
def dAdd (da db : Den PV) : Den PV := da.bind fun x => db.bind fun y => Den.lift (qAddG x y)
section
variable {X : Cx} {W : WX} {a b : Expr} {da db : Den PV} {pos : Pos}
theorem px_add (ha : PX X W a da) (hb : PX X W b db) : PX X W (.BinOp a .Add b pos) (dAdd da db) := peimp (pe_op (op_add.or (op_add_str.or op_catF)) ha hb) fun σ H Q ⟨f, Z, env, at0⟩ => by
  refine (at0.bind.imp fun u H1 ⟨Z1, env1, x, s1, r1, a1⟩ => ?_).here
  refine (a1.bind.imp fun w H2 ⟨Z2, env2, y, s2, r2, a2⟩ => ?_).here
  obtain ⟨v, e, k⟩ := a2.lift
  have r1' := r1.mono s2
  clear a1 r1 at0
  suffices key : ∀ x y, Rep (gOf X) Z2 u x → Rep (gOf X) Z2 w y → qAddG x y = some v → ((fun x y H Q => (rI0 fun i j => V.int (i + j)) x y H Q ∨ (∃ i j, x = .str i ∧ y = .str j ∧ i.length + j.length ≤ sizeLine ∧ Q (.str (i ++ j)) H) ∨ rCatF X.K x y H Q) : R2) u w H2 Q by
    exact key x y r1' r2 e
  clear e r1' r2
  intro x y r1' r2 e
  unfold qAddG at e
  split at e
  · cases e; cases r1'; cases r2
    exact .inl ⟨_, _, rfl, rfl, k _ Z2 H2 (Same.refl _) a2.st (.int _)⟩
  · obtain ⟨⟨l, ok⟩, rfl⟩ := of_ite e
    cases r1'; cases r2
    exact .inr (.inl ⟨_, _, rfl, rfl, l, k _ Z2 H2 (Same.refl _) a2.st (.str _ ok)⟩)
  · rename_i xs ys
    obtain ⟨l, rfl⟩ := of_ite e
    have big : 100000 ≤ sizeLine := by decide
    generalize hx : PV.tup xs = x' at r1'
    generalize hy : PV.tup ys = y' at r2
    cases r1' with
    | @tup a' vs xs' ht l1 rv =>
      cases hx
      cases r2 with
      | @tup b' ws ys' ht2 l2 rw2 =>
        cases hy
        have z1 := rv.length
        have z2 := rw2.length
        refine .inr (.inr ⟨a', b', vs, ws, rfl, rfl, Same.sqt a2.st.zh ht.sqt, Same.sqt a2.st.zh ht2.sqt, by omega, fun e => ?_, fun _ e => ?_, fun _ _ p o n d => ?_⟩)
        · subst e
          cases rv
          exact k _ Z2 H2 (Same.refl _) a2.st (.tup ht2 l2 rw2)
        · subst e
          cases rw2
          rw [List.append_nil] at k
          exact k _ Z2 H2 (Same.refl _) a2.st (.tup ht l1 rv)
        · obtain ⟨Z3, s3, st3, r3⟩ := a2.st.tupF n d (by rw [List.length_append]; omega) (rv.append rw2)
          exact k _ Z3 _ s3 st3 r3
      | _ => cases hy
    | _ => cases hx
  · cases e
end

/-! ### what stands behind the top -/
abbrev DefK (P : Program) (w : World) (K : PySem.W.Frag) (mg : Str → Option Value) (base : Heap) (x : Str) (ps : List Str) (dv : List PV) (k : Nat) (F : Fn) : Prop :=
  ∃ (f : Addr) (fd : FuncData) (dvs : List V) (dsv : List Value), mg x = some (.ref f) ∧ PySem.W.keepIn K (.ref f) = true ∧ Binds K fd ps dsv ∧ Vals dvs dsv ∧ (∀ Z, Reps ⟨K, mg⟩ Z dvs dv) ∧
    FnG P w K mg base (L2.CX P w) k f fd ps (SpP ⟨K, mg⟩ ps.length F)
abbrev DefMK (P : Program) (w : World) (K : PySem.W.Frag) (mg : Str → Option Value) (base : Heap) (x : Str) (ps : List Str) (k : Nat) (F : FnM) : Prop :=
  ∃ (f : Addr) (fd : FuncData), mg x = some (.ref f) ∧ PySem.W.keepIn K (.ref f) = true ∧ Binds K fd ps [] ∧ FnG P w K mg base (L2.CX P w) k f fd ps (SpM ⟨K, mg⟩ ps.length F)
abbrev DefOK (P : Program) (w : World) (K : PySem.W.Frag) (mg : Str → Option Value) (base : Heap) (x : Str) (ps : List Str) (k : Nat) (F : FnO) : Prop :=
  ∃ (f : Addr) (fd : FuncData), mg x = some (.ref f) ∧ PySem.W.keepIn K (.ref f) = true ∧ Binds K fd ps [] ∧ FnG P w K mg base (L2.CX P w) k f fd ps (SpO ⟨K, mg⟩ ps.length F)
/-- a global constant -/
def GC (K : PySem.W.Frag) (mg : Str → Option Value) (x : Str) (v : PV) : Prop := ∃ (u : Value) (y : V), mg x = some u ∧ RelV y u ∧ ∀ Z, Rep ⟨K, mg⟩ Z y v
theorem px_glob {X : Cx} {W : WX} {x : Str} {v : PV} {pos : Pos} (h : GC X.K X.mg x v) (hg : Gl X x) (hd : (x == ("__debug__" : Str)) = false := by decide) : PX X W (.Name x pos) (Den.ret v) := by
  obtain ⟨u, y, hm, r, rep⟩ := h
  exact px_c (pe_glob hg hm r hd) rep
section
variable {P : Program} {w : World} {K : PySem.W.Frag} {mg : Str → Option Value} {base : Heap} {x : Str} {ps : List Str} {dv : List PV} {k : Nat}
/-- the level at which nothing is promised -/
theorem fn_none {CX : CXT} {f : Addr} {fd : FuncData} {g : G} : FnG P w K mg base CX k f fd ps (SpP g ps.length fun _ => none) :=
  ⟨fun vs H Q E ⟨_, args, _, _, r, l, _⟩ => r.length.trans l, fun _ _ _ _ _ _ _ _ _ _ _ _ _ ⟨_, _, _, _, _, _, h, _⟩ => by cases h⟩
theorem fn_noneM {CX : CXT} {f : Addr} {fd : FuncData} {g : G} : FnG P w K mg base CX k f fd ps (SpM g ps.length fun _ _ => none) :=
  ⟨fun vs H Q E ⟨Z, a, ws, us, xs, args, r, ys, ev, _, _, _, _, _, rw', l, _⟩ => by rw [ev, List.length_cons, rw'.length]; exact l, fun _ _ _ _ _ _ _ _ _ _ _ _ _ ⟨_, _, _, _, _, _, _, _, _, _, _, _, _, _, _, _, h, _⟩ => by cases h⟩
end

theorem defK_mono {P : Program} {w : World} {K : PySem.W.Frag} {mg : Str → Option Value} {base : Heap} {x : Str} {ps : List Str} {dv : List PV} {j k : Nat} {F : Fn} (h : DefK P w K mg base x ps dv j F) (l : j ≤ k) : DefK P w K mg base x ps dv k F := by
  obtain ⟨f, fd, dvs, dsv, h1, h2, h3, h4, h5, h6⟩ := h
  exact ⟨f, fd, dvs, dsv, h1, h2, h3, h4, h5, h6.mono l⟩
theorem defMK_mono {P : Program} {w : World} {K : PySem.W.Frag} {mg : Str → Option Value} {base : Heap} {x : Str} {ps : List Str} {j k : Nat} {F : FnM} (h : DefMK P w K mg base x ps j F) (l : j ≤ k) : DefMK P w K mg base x ps k F := by
  obtain ⟨f, fd, h1, h2, h3, h6⟩ := h
  exact ⟨f, fd, h1, h2, h3, h6.mono l⟩
theorem defOK_mono {P : Program} {w : World} {K : PySem.W.Frag} {mg : Str → Option Value} {base : Heap} {x : Str} {ps : List Str} {j k : Nat} {F : FnO} (h : DefOK P w K mg base x ps j F) (l : j ≤ k) : DefOK P w K mg base x ps k F := by
  obtain ⟨f, fd, h1, h2, h3, h6⟩ := h
  exact ⟨f, fd, h1, h2, h3, h6.mono l⟩
/-- a written tuple of texts and numbers -/
theorem gc_tup {K : PySem.W.Frag} {mg : Str → Option Value} {x : Str} {a : Addr} {its : Array Value} {n : Nat} {sl : Array (Option Value)} {vs : List V} {xs : List PV} (hm : mg x = some (.ref a)) (hl : K.lookup a = some ⟨.type "tuple", none, .seq its n, sl⟩)
    (hz : its.size ≤ sizeLine) (hv : Vals vs its.toList) (hr : ∀ Z, Reps ⟨K, mg⟩ Z vs xs) : GC K mg x (.tup xs) :=
  ⟨_, .ref a, hm, rfl, fun Z => .tup (.inr ⟨_, its, n, hl, rfl, rfl, rfl, hz, hv⟩) (by rw [hv.length]; simpa using hz) (hr Z)⟩
/-! ### the law -/
def spLaw (K : PySem.W.Frag) : Sp := fun vs H Q _ => ∃ (a : Addr) (ns : List Int), vs = [.ref a] ∧ SqL K H a (ns.map V.int) ∧ ns.length ≤ 63 ∧ ∀ H', Q (.bl true) H'
theorem law_imp {K : PySem.W.Frag} {mg : Str → Option Value} {F : Fn} (tr : ∀ ns : List Int, ns.length ≤ 63 → F [.lst (ns.map .int)] = some (.ok (.bl true))) (vs : List V) (H : Hp) (Q : VK) (E : XK) (h : spLaw K vs H Q E) : SpP ⟨K, mg⟩ 1 F vs H Q E := by
  obtain ⟨a, ns, rfl, hs, hl, q⟩ := h
  refine ⟨H, [.lst (ns.map .int)], _, Same.refl _, .cons (.lst hs (by rw [List.length_map]; exact Nat.le_trans hl (by decide)) (reps_int ns)) .nil, rfl, tr ns hl, fun u Z' H' _ r => ?_⟩
  cases r
  exact q H'
/-- the script's list at a is all that may be tracked -/
def one1 (a : Addr) (u : HO) : Hp := fun b => if b = a then some u else none
theorem lawG {P : Program} {w : World} {K : PySem.W.Frag} {mg mb : Str → Option Value} {k : Nat} {fa a : Addr} {fd : FuncData} {s1 : Shared} {vs : List Value} {ns : List Int}
    (KX : K.In s1.heap) (hns : s1.heap.Ns mainGlobals mg) (hb : s1.heap.Ns builtinsNs mb) (hbb : ∀ x : Str, x ≠ "__name__" → mb x = bootBuiltins x) (hlim : s1.heap.NoLimit) (hg : s1.gens = #[])
    (ha : s1.heap.get? a = some { cls := .type "list", data := .seq vs.toArray }) (hi : IntsAre vs ns) (hl : ns.length ≤ 63) (hr : RoomG k callerA)
    (F : ∀ base : Heap, K.In base → base.Ns mainGlobals mg → FnG P w K mg base (L2.CX P w) k fa fd ["script"] (spLaw K)) (hbind : ∀ (s : Shared) (u : Value), BindsTo s fd ⟨[u], []⟩ [("script", u)]) :
    codeAny (model P w) callerA (.call (.ref fa) ⟨[.ref a], []⟩) (fun r s' => r = .ok (.ret (.bool true)) ∧ PySem.OldK s1.heap s'.heap ∧ s'.os = s1.os ∧ AllBare s'.gens) s1 := by
  have rv : Vals (ns.map V.int) vs := vals_of_ints hi
  have lz : (ns.map V.int).length ≤ sizeLine := by rw [List.length_map]; exact Nat.le_trans hl (by decide)
  suffices core : ∀ H : Hp, SqL K H a (ns.map V.int) → HOk P w H s1.heap → (∀ b u, H b = some u → b = a ∧ K.lookup a = none ∧ ∃ o xs, u = .frz o (.lst xs)) →
      codeAny (model P w) callerA (.call (.ref fa) ⟨[.ref a], []⟩) (fun r s' => r = .ok (.ret (.bool true)) ∧ PySem.OldK s1.heap s'.heap ∧ s'.os = s1.os ∧ AllBare s'.gens) s1 by
    cases hk : K.lookup a with
    | some o =>
      have e := KX a o hk
      rw [ha] at e
      cases e
      exact core (fun _ => none) (.inr ⟨_, vs.toArray, _, hk, rfl, rfl, rfl, by rw [List.size_toArray, ← rv.length]; exact lz, by simpa using rv⟩) (fun b u z => by cases z) fun b u z => by cases z
    | none =>
      refine core (one1 a (.frz { cls := .type "list", data := .seq vs.toArray } (.lst (ns.map V.int)))) (.inl (.inr ⟨_, if_pos rfl⟩)) (fun b u z => ?_) fun b u z => ?_
      · unfold one1 at z
        split at z
        · rename_i hb'
          cases z
          subst hb'
          exact ⟨ha, lz, vs, 0, rv, ha⟩
        · cases z
      · unfold one1 at z
        split at z
        · rename_i hb'
          cases z
          exact ⟨hb', hk, _, _, rfl⟩
        · cases z
  intro H hS hok only
  have free : ∀ {b : Addr} {o : Obj}, s1.heap.get? b = some o → (b = a → False) → (hidT s1.heap H).get? b = some o := fun {b o} e n => hidT_get e (by
    cases q : H b with
    | none => rfl
    | some u => exact (n (only b u q).1).elim)
  have notA : ∀ {b : Addr} {m : Str → Option Value}, s1.heap.Ns b m → b ≠ a := fun {b m} ⟨o, es, ep, e, d, _⟩ z => by
    subst z
    rw [ha] at e
    cases e
    cases (show Data.seq vs.toArray _ = Data.dict es ep from d)
  have nsB : ∀ {b : Addr} {m : Str → Option Value}, s1.heap.Ns b m → (hidT s1.heap H).Ns b m := fun {b m} h => by
    have n := notA h
    obtain ⟨o, es, ep, e, d, r⟩ := h
    exact ⟨o, es, ep, free e n, d, r⟩
  have kB : K.In (hidT s1.heap H) := fun b o e => hidT_get (KX b o e) (by
    cases q : H b with
    | none => rfl
    | some u =>
      obtain ⟨rfl, hk, _⟩ := only b u q
      rw [hk] at e; cases e)
  have md : Mod K mg (hidT s1.heap H) := ⟨kB, nsB hns, ⟨mb, nsB hb, hbb⟩, by obtain ⟨mc, h1, h2⟩ := hlim; exact ⟨mc, nsB h1, h2⟩⟩
  have e0 : Env0 P w K mg (hidT s1.heap H) callerA [] s1 H := ⟨rfl, md, fun b o e => of_hidT e, Nat.le_of_eq (hidT_size _ _), trivial, fun b hb => (List.not_mem_nil hb).elim, hok, .of_eq hg⟩
  have run := (F _ kB (nsB hns)).run callerA [] s1 H ⟨[.ref a], []⟩ [.ref a] [.ref a] (fun v _ => v = .bl true) (fun _ _ _ => False) hr e0 (hbind s1 (.ref a)) (.cons rfl .nil) ⟨a, ns, rfl, hS, hl, fun _ => rfl⟩
  refine codeAny_mono run fun r s' h => ?_
  cases r with
  | error e =>
    obtain ⟨_, _, _, _, _, _, _, _, _, _, _, _, z⟩ := h
    exact z.elim
  | ok fl =>
    cases fl with
    | ret u =>
      obtain ⟨v, H', os, bare, un, hok', r', q⟩ := h
      cases (show v = .bl true from q)
      cases (show u = Value.bool true from r')
      refine ⟨rfl, OldK.of_keep fun b o e => ?_, os, bare⟩
      cases qb : H b with
      | none => exact un.keep b o e qb (fun z => (List.not_mem_nil z).elim) (fun z => (List.not_mem_nil z).elim)
      | some u =>
        obtain ⟨_, _, ob, xs, rfl⟩ := only b u qb
        have k1 := (hok b _ qb).1
        have k2 := (hok' b _ (un.frzs b ob _ qb)).1
        rw [e] at k1
        cases k1
        exact k2
    | next => exact False.elim h
    | brk => exact False.elim h
    | cont => exact False.elim h
theorem walkP {l : PySem.W.OpenLaw} {k : Nat} {q : Program} {loose : List Str} {XP : (Str → Option Value) → Heap → Prop} {YP : World → Heap → Prop} {d : DefRec} {K : Params → PySem.W.Frag} (hn : l.most = some 63) (hdf : d.params.defaults = []) (hr : RoomG k callerA)
    (hY : ∀ (w : World) (h : Heap), YP w h → (K w.params).In h)
    (F : ∀ (w : World) (mg : Str → Option Value) (fa : Addr) (h : Heap), (K w.params).In h → h.Ns mainGlobals mg → mg d.name = some (.ref fa) →
      ∃ fd : FuncData, (∀ (s : Shared) (u : Value), BindsTo s fd ⟨[u], []⟩ [("script", u)]) ∧ ∀ base : Heap, (K w.params).In base → base.Ns mainGlobals mg → FnG l.prog w (K w.params) mg base (L2.CX l.prog w) k fa fd ["script"] (spLaw (K w.params))) :
    PySem.W.WalkO q loose XP YP l.row.toRowW d [] (fun f vs => PySem.call f vs) :=
  Att.attach_call hn hdf fun w s0 s1 mg mb fa o pm cd doc a vs ns G Y _ _ _ hmg hobj hints hlen hg => by
    have KX := hY w _ Y
    obtain ⟨fd, hb, hF⟩ := F w mg fa _ KX G.T.g hmg
    exact lawG KX G.T.g G.T.b G.T.builtins G.T.nolimit hg hobj hints hlen hr hF hb
end Pu
set_option Elab.async false
set_option linter.all false
set_option maxRecDepth 100000
set_option maxHeartbeats 4000000
/-! Pu, part L: while. -/
namespace Pu
open PySem PySem.Spec PyProof.Rows L2

/-- at most n turns -/
def sWhile (c : Den PV) (b : SDen) : Nat → SDen
  | 0 => fun _ => none
  | n + 1 => fun e => match c e with
    | some (.ok (.bl true) e1) => (match b e1 with
      | some (.nx e2) => sWhile c b n e2
      | some (.ct e2) => sWhile c b n e2
      | some (.bk e2) => some (.nx e2)
      | o => o)
    | some (.ok (.bl false) e1) => some (.nx e1)
    | some (.ex x e1) => some (.ex x e1)
    | _ => none
section
variable {X : Cx} {W : WX} {c : Expr} {body : List Stmt} {pos : Pos} {dc : Den PV} {db : SDen}
theorem psx_while (n : Nat) (hp : PassesOwn (model X.prog X.w) X.A X.env X.xe) (hc : PTX X W c dc) (hb : PSsX X W body db) : PSX X W (.While c body [] pos) (sWhile dc db n) :=
  psimp (ps_while hp hc hb) fun D σ H ⟨f, Z, env, a⟩ => by
    refine ⟨fun m σ H => ∃ Z1 env1, SAt (gOf X) W f Z1 env1 (sWhile dc db m) D σ H, ⟨n, Z, env, a⟩, ?_⟩
    rintro m σ H ⟨Z1, env1, st, o, eo, po⟩
    cases m with
    | zero => cases eo
    | succ m =>
      refine ⟨f, Z1, env1, st, ?_⟩
      unfold sWhile at eo
      cases hd : dc env1 with
      | none => simp only [hd] at eo; cases eo
      | some oc =>
        cases oc with
        | ex x e1 =>
          simp only [hd] at eo
          cases eo
          exact ⟨_, rfl, fun cls dd Z' H' s st' r => po cls dd σ Z' H' s st' r⟩
        | ok v e1 =>
          refine ⟨_, rfl, fun u Z2 H2 s2 st2 r2 => ?_⟩
          cases v with
          | bl b =>
            cases r2
            refine ⟨b, rfl, ?_⟩
            cases b with
            | false =>
              simp only [hd] at eo
              cases eo
              rw [if_neg Bool.false_ne_true]
              exact po σ Z2 H2 s2 st2
            | true =>
              simp only [hd] at eo
              rw [if_pos rfl]
              refine ⟨fun σ' H' => ∃ Z3 env3, SAt (gOf X) W f Z3 env3 (sWhile dc db m) D σ' H', fun σ' H' h => ⟨m, Nat.lt_succ_self m, h⟩, f, Z2, e1, st2, ?_⟩
              cases hb' : db e1 with
              | none => rw [hb'] at eo; cases eo
              | some ob =>
                rw [hb'] at eo
                refine ⟨_, rfl, ?_⟩
                have po := po.weak s2
                cases ob with
                | nx e2 => exact fun σ' Z' H' s st' => ⟨Z', e2, st', o, eo, po.weak s⟩
                | ct e2 => exact fun σ' Z' H' s st' => ⟨Z', e2, st', o, eo, po.weak s⟩
                | bk e2 => cases eo; exact po
                | rt v e2 => cases eo; exact po
                | ex x e2 => cases eo; exact po
          | _ => simp only [hd] at eo; cases eo
end
end Pu
set_option Elab.async false
set_option linter.all false
set_option maxRecDepth 100000
set_option maxHeartbeats 4000000
/-! Pu, part M: changing lists and dicts, read and taken from. -/
namespace Pu
open PySem PySem.Spec PyProof.Rows L2

/-- len(name) of a changing list -/
def dLenM (i : Nat) : Den PV := fun e => match e[i]? with
  | some (.m _ xs) => some (.ok (.int xs.length) e)
  | _ => none
/-- name.pop() -/
def dPopM (i : Nat) : Den PV := fun e => match e[i]? with
  | some (.m own xs) => (match xs[xs.length - 1]? with
    | some x => some (.ok x (e.set i (.m own xs.dropLast)))
    | none => none)
  | _ => none
theorem Reps.dropLast {g : G} {Z : Hp} : ∀ {vs : List V} {xs : List PV}, Reps g Z vs xs → Reps g Z vs.dropLast xs.dropLast
  | _, _, .nil => .nil
  | _, _, .cons a .nil => .nil
  | _, _, .cons a (.cons b c) => .cons a (Reps.dropLast (.cons b c))
section
variable {X : Cx} {W : WX} {i : Nat} {x : Str} {p p2 pos apos cpos : Pos}
theorem px_lenM (hg : Gl X "len") (hm : X.mg "len" = none) (h : PE X (.Name x p) (tVar i)) (he : starEach [.Name x p] X.env = (false, eval (.Name x p) X.env) :: starEach [] X.env := by rfl) (hpl : (backTo pos (starEach [] X.env)).any (·.1) = false := by rfl) : PX X W (.Call (.Name "len" p2) [.Name x p] [] pos) (dLenM i) :=
  peimp (pe_callB call_lenP hg hm PySem.boot_len (pa_cons h pa_nil he) (by decide) (by decide) he hpl) fun σ H Q ⟨f, Z, env, st, o, e, pp⟩ => by
    unfold dLenM at e
    split at e
    · rename_i own xs hx
      cases e
      obtain ⟨a, vs, e1, n, hH, l, r, ow⟩ := st.sl i _ hx
      refine ⟨.ref a, e1, .inl ⟨a, vs, rfl, .inl (SqL.of hH), ?_⟩⟩
      rw [r.length]
      exact pp _ Z H (Same.refl _) st (.int _)
    · cases e
theorem px_popM (h : PE X (.Name x p) (tVar i))
    (hbase : attributeBase (.Name x p) "pop" X.env (eval (.Name x p) X.env) = eval (.Name x p) X.env := by rfl) (hline : (apos.endLine == cpos.line) = true := by rfl) :
    PX X W (.Call (.Attribute (.Name x p) "pop" apos) [] [] cpos) (dPopM i) :=
  peimp (pe_bm0 PySem.F.plainAttrs_list PySem.F.slot_list_pop PySem.F.type_list_pop mt_pop h hbase hline) fun σ H Q ⟨f, Z, env, st, o, e, pp⟩ => by
    unfold dPopM at e
    split at e
    · rename_i own xs hx
      obtain ⟨a, vs, e1, n, hH, l, r, ow⟩ := st.sl i _ hx
      cases hl : xs[xs.length - 1]? with
      | none => rw [hl] at e; cases e
      | some y =>
        rw [hl] at e
        cases e
        have hl' := hl
        rw [← r.length] at hl'
        obtain ⟨v, hv, rv⟩ := r.get' hl'
        refine ⟨.ref a, e1, .inl ⟨rfl, _, SqL.of hH⟩, a, vs, v, rfl, rfl, hH, hv, ?_⟩
        exact pp v Z _ (Same.refl _) (st.putM hx e1 hH (by rw [List.length_dropLast]; omega) r.dropLast) rv
    · cases e
end
end Pu
set_option Elab.async false
set_option linter.all false
set_option maxRecDepth 100000
set_option maxHeartbeats 4000000
/-! Pu, part N: keys in changing dicts; items of dicts. -/
namespace Pu
open PySem PySem.Spec PyProof.Rows L2

def rInK (neg : Bool) : R2 := fun x y H Q => ∃ (a : Addr) (kvs : List (L2.Key × V)) (k : L2.Key), y = .ref a ∧ x = kV k ∧ Rd H a (.dK kvs) ∧ Q (.bl (neg ^^ (valV kvs k).isSome)) H
section
variable {X : Cx} {k : Nat}
theorem op_inDK (hr : RoomG k X.A) : OpR X (compareOp .In) (rInK false) := by
  intro pins s σ H x y v u Q I rx ry h
  obtain ⟨a, kvs, kk, rfl, rfl, hd, q⟩ := h
  cases ry
  exact d_in (by have := hr.un; omega) I (.inl ⟨kvs, kk, hd, rfl, rfl⟩) rx fun s' I' => ⟨.bl _, H, I', rfl, by simpa using q⟩
theorem op_notInDK (hr : RoomG k X.A) : OpR X (compareOp .NotIn) (rInK true) := by
  intro pins s σ H x y v u Q I rx ry h
  obtain ⟨a, kvs, kk, rfl, rfl, hd, q⟩ := h
  cases ry
  exact d_notIn (by have := hr.un; omega) I (.inl ⟨kvs, kk, hd, rfl, rfl⟩) rx fun s' I' => ⟨.bl _, H, I', rfl, by simpa using q⟩
end
/-- k in name, name a changing dict -/
def dInM (neg : Bool) (i : Nat) (da : Den PV) : Den PV := da.bind fun x e => match e[i]?, x.key with
  | some (.d _ ks vs), some k => some (.ok (.bl (neg ^^ (getP (ks.zip vs) k).isSome)) e)
  | _, _ => none
theorem RepK.some {g : G} {Z : Hp} {kvs : List (L2.Key × V)} {kps : KP} (h : RepK g Z kvs kps) (k : L2.Key) : (valV kvs k).isSome = (getP kps k).isSome := by
  cases e : getP kps k with
  | none => rw [h.getN e]; rfl
  | some x => obtain ⟨v, e2, _⟩ := h.get e; rw [e2]; rfl
section
variable {X : Cx} {W : WX} {i k : Nat} {x : Str} {a : Expr} {da : Den PV} {p pos : Pos}
theorem t_inM {neg : Bool} {σ : L2.St} {H : Hp} {Q : VK} (h : tP (gOf X) W (dInM neg i da) σ H Q) : tOp (rInK neg) (tP (gOf X) W da) (tVar i) σ H Q := by
  obtain ⟨f, Z, env, a⟩ := h
  refine (a.bind.imp fun u H1 ⟨Z1, env1, y, s1, r1, a1⟩ => ?_).here
  obtain ⟨st, o, e, pp⟩ := a1
  split at e
  · rename_i own ks vs kk hx hk
    cases e
    obtain ⟨b, kvs, e1, n, hH, l, hks, ho, r, ow⟩ := st.sl i _ hx
    obtain ⟨rfl, ok⟩ := PV.key_of r1 hk
    obtain ⟨k1, k2, k3⟩ := RepK.of hks ho r
    refine ⟨.ref b, e1, b, kvs, kk, rfl, rfl, .inl hH, ?_⟩
    rw [k1.some kk]
    exact pp _ Z1 H1 (Same.refl _) st (.bl _)
  · cases e
theorem px_inM (hr : RoomG k X.A) (ha : PX X W a da) (h : PE X (.Name x p) (tVar i)) : PX X W (.Compare a [.In] [.Name x p] pos) (dInM false i da) := peimp (pe_cmpR (op_inDK hr) ha h (by with_unfolding_all rfl)) fun _ _ _ h => t_inM h
theorem px_notInM (hr : RoomG k X.A) (ha : PX X W a da) (h : PE X (.Name x p) (tVar i)) : PX X W (.Compare a [.NotIn] [.Name x p] pos) (dInM true i da) := peimp (pe_cmpR (op_notInDK hr) ha h (by with_unfolding_all rfl)) fun _ _ _ h => t_inM h
theorem ptx_inM (hr : RoomG k X.A) (ha : PX X W a da) (h : PE X (.Name x p) (tVar i)) : PTX X W (.Compare a [.In] [.Name x p] pos) (dInM false i da) := ptimp (pt_cmpR (op_inDK hr) ha h (by with_unfolding_all rfl)) fun _ _ _ h => tB_imp (fun _ h => t_inM h) h
theorem ptx_notInM (hr : RoomG k X.A) (ha : PX X W a da) (h : PE X (.Name x p) (tVar i)) : PTX X W (.Compare a [.NotIn] [.Name x p] pos) (dInM true i da) := ptimp (pt_cmpR (op_notInDK hr) ha h (by with_unfolding_all rfl)) fun _ _ _ h => tB_imp (fun _ h => t_inM h) h
end
/-- name[k] = v, name a changing dict -/
def sSetKM (i : Nat) (dv dk : Den PV) : SDen := sOf dv fun v e0 => match e0[i]? with
  | some (.d _ _ _) => sOf dk (fun y e => match e[i]?, y.key with
    | some (.d own ks vs), some k => if ks.length < sizeLine then some (.nx (e.set i (.dOf own (putP (ks.zip vs) k v)))) else none
    | _, _ => none) e0
  | _ => none
section
variable {X : Cx} {W : WX} {i k : Nat} {x : Str} {e b : Expr} {dv dk : Den PV} {p pos pos' : Pos}
theorem psx_setKM (hr : RoomG k X.A) (h : PE X (.Name x p) (tVar i)) (hv : PX X W e dv) (hk : PX X W b dk)
    (ha : ∀ v, assign (.Subscript (.Name x p) b pos) X.env v = (do
      let ov ← holding [v] (eval (.Name x p) X.env)
      let iv ← holding [v, ov] (eval b X.env)
      standAt pos
      holding [v, ov, iv] (setItem ov iv v)
      release [v, ov, iv] []) := by intro _; rfl) (hs : swapsWithSole [.Subscript (.Name x p) b pos] e pos'.line X.env = pure false := by rfl) (hw : swappedStores [.Subscript (.Name x p) b pos] e X.env = pure none := by rfl)
    (h1 : (assignEach [.Subscript (.Name x p) b pos] X.env).map (·.2) = [assign (.Subscript (.Name x p) b pos) X.env] := by rfl) : PSX X W (.Assign [.Subscript (.Name x p) b pos] e pos') (sSetKM i dv dk) :=
  psimp (ps_asg hv (pg_sub h hk (set_dict (by have := hr.un; omega)) ha) hs hw h1) fun D σ H ⟨f, Z, env, a⟩ => by
    refine (a.of.imp fun u H1 ⟨Z1, env1, v, s1, r1, a1⟩ => ?_).here
    obtain ⟨st1, o1, e1, p1⟩ := a1
    split at e1
    · rename_i own ks vs hx
      obtain ⟨q, kvs, eq, n, hH, l, hks, ho, r, ow⟩ := st1.sl i _ hx
      refine ⟨.ref q, eq, ?_⟩
      have a2 : SAt (gOf X) W f Z1 env1 (sOf dk _) D σ H1 := ⟨st1, o1, e1, p1⟩
      refine (a2.of.imp fun w H2 ⟨Z2, env2, y, s2, r2, a3⟩ => ?_).here
      obtain ⟨st2, o2, e2, p2⟩ := a3
      split at e2
      · rename_i own' ks' vs' kk hx' hkk
        split at e2
        · rename_i hl
          cases e2
          obtain ⟨q', kvs', eq', n', hH', l', hks', ho', r', ow'⟩ := st2.sl i _ hx'
          rw [eq] at eq'
          cases eq'
          obtain ⟨rfl, ok⟩ := PV.key_of r2 hkk
          obtain ⟨k1, k2, k3⟩ := RepK.of hks' ho' r'
          have kp := k1.put (k := kk) ok (r1.mono s2)
          obtain ⟨m1, m2, m3⟩ := kp.parts
          have lz : kvs'.length < sizeLine := by rw [← hks', List.length_map] at hl; exact hl
          refine ⟨q, _, rfl, .inl ⟨kvs', kk, hH', rfl, lz, rfl⟩, ?_⟩
          refine p2 σ Z2 _ (Same.refl _) (st2.putC hx' rfl rfl eq ⟨q, _, eq, n', upd_same, Nat.le_trans (length_putK kvs' kk u) lz, m1, by rw [← m1]; exact m2, m3, ow'⟩)
        · cases e2
      · cases e2
    · cases e1
end
end Pu
set_option Elab.async false
set_option linter.all false
set_option maxRecDepth 100000
set_option maxHeartbeats 4000000
/-! Pu, part O: repr of data. -/
namespace Pu
open PySem PySem.Spec PyProof.Rows L2

/-- data that repr shows -/
def PV.shows (x : PV) : Bool := x.plain && decide (x.depth ≤ 190) && x.toD.showable && !x.toD.hasDict && decide (x.toD.shown.length ≤ sizeLine) && PyData.strOk x.toD.shown
def qRepr1 : PV → Option PV
  | .tup xs => if (PV.tup xs).shows = true then some (.str (PV.tup xs).toD.shown) else none
  | .lst xs => if (PV.lst xs).shows = true then some (.str (PV.lst xs).toD.shown) else none
  | _ => none
abbrev qRepr := one qRepr1
section
variable {X : Cx} {W : WX} {k : Nat} {a : Expr} {ds : Den (List PV)} {p pos : Pos}
def rRep (K : PySem.W.Frag) : List V → Hp → VK → Prop := fun xs H Q => ∃ (a : Addr) (d : PyData), xs = [.ref a] ∧ Dp K H (.ref a) d ∧ d.showable = true ∧ d.hasDict = false ∧ d.depth ≤ 190 ∧ d.shown.length ≤ sizeLine ∧ Q (.str d.shown) H
theorem call_repr (hr : RoomG k X.A) : CallR X (.builtin "repr") (rRep X.K) := by
  intro pins s σ H xs us Q I r h
  obtain ⟨a, d, rfl, hd, h1, h2, h3, h4, q⟩ := h
  obtain ⟨u, rfl, rx⟩ := vals1 r
  obtain ⟨as, r1⟩ := Dp.reads I d (.ref a) u hd rx
  cases rx
  refine repr_of_reads' (h₀ := s.heap) r1 h1 (fun z => by rw [h2] at z; cases z) hr.gd (by have := hr.un; omega) (fun _ _ e => e) (fun h' u tk kp => ?_) h4
  exact ⟨.str d.shown, H, I.kept (t' := tk) kp, ⟨u, rfl⟩, q⟩
theorem shows_all {x : PV} (h : x.shows = true) : x.plain = true ∧ x.depth ≤ 190 ∧ x.toD.showable = true ∧ x.toD.hasDict = false ∧ x.toD.shown.length ≤ sizeLine ∧ PyData.strOk x.toD.shown = true := by
  unfold PV.shows at h
  simp only [Bool.and_eq_true, decide_eq_true_eq, Bool.not_eq_true'] at h
  obtain ⟨⟨⟨⟨⟨h1, h2⟩, h3⟩, h4⟩, h5⟩, h6⟩ := h
  exact ⟨h1, h2, h3, h4, h5, h6⟩
theorem reprP : CallP (gOf X) W (rRep X.K) qRepr := by
  refine callP_one fun f Z env σ H u x v Q st ru e kk => ?_
  have fin : ∀ a', u = .ref a' → x.shows = true → v = .str x.toD.shown → rRep X.K [u] H Q := fun a' eu hs ev => by
    subst eu ev
    obtain ⟨h1, h2, h3, h4, h5, h6⟩ := shows_all hs
    obtain ⟨d1, c1⟩ := ru.dp st.zh h1
    exact ⟨a', x.toD, rfl, d1, h3, h4, by rw [toD_depth x h1]; exact h2, h5, kk _ Z H (Same.refl _) st (.str _ h6)⟩
  cases x with
  | tup xs =>
    obtain ⟨hs, rfl⟩ := of_ite (show (if (PV.tup xs).shows = true then some (PV.str (PV.tup xs).toD.shown) else none) = some v from e)
    cases ru with | tup h l rv => exact fin _ rfl hs rfl
  | lst xs =>
    obtain ⟨hs, rfl⟩ := of_ite (show (if (PV.lst xs).shows = true then some (PV.str (PV.lst xs).toD.shown) else none) = some v from e)
    cases ru with | lst h l rv => exact fin _ rfl hs rfl
  | _ => cases e
theorem px_repr (hr : RoomG k X.A) (hg : Gl X "repr") (hm : X.mg "repr" = none) (ha : PAX X W [a] ds) (he : starEach [a] X.env = (false, eval a X.env) :: starEach [] X.env := by rfl) : PX X W (.Call (.Name "repr" p) [a] [] pos) (dArgs qRepr ds) :=
  px_callB (call_repr hr) reprP hg hm (by decide +kernel) ha (he := he)
end
end Pu
set_option Elab.async false
set_option linter.all false
set_option maxRecDepth 100000
set_option maxHeartbeats 4000000
/-! Pu, part P: name += e of numbers. -/
namespace Pu
open PySem PySem.Spec PyProof.Rows L2

/-- name op= e of numbers -/
def sAugI (i : Nat) (k : Int → Int → Int) (de : Den PV) : SDen := fun e0 => match e0[i]? with
  | some (.v (.int x)) => sOf de (fun y e => match y with
    | .int z => some (.nx (e.set i (.v (.int (k x z)))))
    | _ => none) e0
  | _ => none
section
variable {X : Cx} {W : WX} {i : Nat} {x : Str} {e : Expr} {de : Den PV} {pos pos' : Pos} {op : Operator} {k : Int → Int → Int}
theorem psx_augI (hp : PIp X op (ipI k)) (hN : X.N.Nodup) (hi : X.N[i]? = some x) (hx : Loc X.env.scope x) (h : PX X W e de) (hf : X.fn x = true ∨ X.env.scope.names.lookup x = some .local := by first | exact .inl rfl | exact .inr rfl | assumption) :
    PSX X W (.AugAssign (.Name x pos') op e pos) (sAugI i k de) := by
  refine ⟨fun pins s σ H D I ⟨f, Z, env, st, o, eo, po⟩ => (ps_aug hN hi hx h hp hf).run pins s σ H D I ?_⟩
  have hσ : i < σ.length := by rw [I.len]; exact (List.getElem?_eq_some_iff.mp hi).1
  unfold sAugI at eo
  split at eo
  · rename_i n hn
    obtain ⟨v, e1, r⟩ := st.sl i _ hn
    cases r
    refine ⟨.int n, e1, ?_⟩
    have a : SAt (gOf X) W f Z env (sOf de _) D σ H := ⟨st, o, eo, po⟩
    refine (a.of.imp fun w H1 ⟨Z1, env1, y, s1, r1, a1⟩ => ?_).here
    obtain ⟨st1, o1, e2, p1⟩ := a1
    split at e2
    · rename_i z
      cases e2
      cases r1
      exact ⟨n, z, rfl, rfl, p1 _ Z1 H1 (Same.refl _) (st1.setV (.int _) hσ)⟩
    · cases e2
  · cases eo
theorem psx_add (hN : X.N.Nodup) (hi : X.N[i]? = some x) (hx : Loc X.env.scope x) (h : PX X W e de) (hf : X.fn x = true ∨ X.env.scope.names.lookup x = some .local := by first | exact .inl rfl | exact .inr rfl | assumption) :
    PSX X W (.AugAssign (.Name x pos') .Add e pos) (sAugI i (fun a b => a + b) de) := psx_augI ip_add hN hi hx h hf
end
end Pu
set_option Elab.async false
set_option linter.all false
set_option maxRecDepth 100000
set_option maxHeartbeats 4000000
/-! Pu, part Q: name.extend of a list of its own. -/
namespace Pu
open PySem PySem.Spec PyProof.Rows L2

def dExtM (i : Nat) (d : Den (List PV)) : Den PV := fun e => match e[i]? with
  | some (.m _ _) => d.bind (fun ys e1 => match e1[i]? with
    | some (.m own xs) => if xs.length + ys.length ≤ sizeLine then some (.ok .non (e1.set i (.m own (xs ++ ys)))) else none
    | _ => none) e
  | _ => none
section
variable {X : Cx} {W : WX} {i : Nat} {x : Str} {e : Expr} {d : Den (List PV)} {p apos cpos : Pos}
theorem px_extM (h : PE X (.Name x p) (tVar i)) (ha : PO' X W e d)
    (hbase : attributeBase (.Name x p) "extend" X.env (eval (.Name x p) X.env) = eval (.Name x p) X.env := by rfl)
    (hfew : ((backTo cpos (starEach [e] X.env)).all (fun x => !x.1) && (backToKw cpos (keywordEach [] X.env)).all (fun x => x.1.isSome)
      && decide ([e].length + ([] : List Keyword).length + (if ([] : List Keyword).isEmpty then 0 else 1) < 30)) = true := by rfl)
    (hline : (apos.endLine == cpos.line) = true := by rfl) (hs : starEach [e] X.env = (false, eval e X.env) :: starEach [] X.env := by rfl) (hplain : (backTo cpos (starEach [] X.env)).any (·.1) = false := by rfl) :
    PX X W (.Call (.Attribute (.Name x p) "extend" apos) [e] [] cpos) (dExtM i d) :=
  peimp (pe_bm PySem.F.plainAttrs_list PySem.F.slot_list_extend PySem.F.type_list_extend mt_extend h (pa_cons ha pa_nil hs) hbase hfew hline hs hplain) fun σ H Q ⟨f, Z, env, st, o, e, pp⟩ => by
    unfold dExtM at e
    split at e
    · rename_i own xs hx
      obtain ⟨a, vs, e1, n, hH, l, r, ow⟩ := st.sl i _ hx
      refine ⟨.ref a, e1, .inl ⟨rfl, _, SqL.of hH⟩, ?_⟩
      have a0 : At (gOf X) W f Z env (d.bind _) (RV (gOf X)) Q σ H := ⟨st, o, e, pp⟩
      refine ⟨f, Z, env, a0.bind.imp fun u H1 ⟨Z1, env1, ys, s1, r1, a1⟩ => ?_⟩
      obtain ⟨q, us, rfl, nq, hq, lq, rq, fq, mq⟩ := r1
      obtain ⟨st2, o2, e2, p2⟩ := a1
      split at e2
      · rename_i own' xs' hx'
        split at e2
        · rename_i hl
          cases e2
          obtain ⟨a', vs', e1', n', hH', l', r', ow'⟩ := st2.sl i _ hx'
          rw [e1] at e1'
          cases e1'
          have lv : vs'.length + us.length ≤ sizeLine := by rw [r'.length, rq.length]; exact hl
          refine ⟨a, q, vs', us, rfl, rfl, hH', hq, lv, ?_⟩
          exact p2 .non Z1 _ (Same.refl _) (st2.putM hx' e1 hH' (by rw [List.length_append]; exact lv) (r'.append rq)) .non
        · cases e2
      · cases e2
    · cases e
end
end Pu
set_option Elab.async false
set_option linter.all false
set_option maxRecDepth 100000
set_option maxHeartbeats 4000000
/-! Pu, part R: fields of instances. -/
namespace Pu
open PySem PySem.Spec PyProof.Rows L2

/-- what the top has written of a class whose instances keep fields: no class of it has the names fs -/
def ClsF (K : PySem.W.Frag) (mg : Str → Option Value) (c : Str) (fs : List Str) : Prop := ∃ C : Addr, mg c = some (.ref C) ∧ Cls K C ∧ ∀ f ∈ fs, NoAttr K C f
def fldOf (f : Str) : List Str → List PV → Option PV
  | n :: ns, x :: xs => if f == n then some x else fldOf f ns xs
  | _, _ => none
/-- e.f, e an instance of one of the classes cs -/
def dFld (cs : List Str) (f : Str) (da : Den PV) : Den PV := da.bind fun x => Den.lift (match x with
  | .ins c ns vs => if c ∈ cs then fldOf f ns vs else none
  | _ => none)
theorem Reps.fld {g : G} {Z : Hp} {f : Str} : ∀ {fs : List (Str × V)} {vs : List PV} {y : PV}, Reps g Z (fs.map (·.2)) vs → fldOf f (fs.map (·.1)) vs = some y → ∃ v, fs.lookup f = some v ∧ Rep g Z v y
  | [], vs, y, r, e => by cases r; cases e
  | (n, v) :: fs, vs, y, r, e => by
    rw [List.map_cons] at r e
    cases r with
    | cons a b =>
      have e : (if f == n then some _ else fldOf f (fs.map (·.1)) _) = some y := e
      by_cases h : (f == n) = true
      · rw [if_pos h] at e
        cases e
        exact ⟨v, by rw [List.lookup_cons, h], a⟩
      · rw [if_neg h] at e
        obtain ⟨w, h1, h2⟩ := Reps.fld b e
        have h : (f == n) = false := by simpa using h
        exact ⟨w, by rw [List.lookup_cons, h]; exact h1, h2⟩
section
variable {X : Cx} {W : WX} {e : Expr} {de : Den PV} {f : Str} {cs : List Str} {pos : Pos}
theorem px_fld (hc : ∀ c ∈ cs, ClsF X.K X.mg c [f]) (he : PX X W e de) (hb : attributeBase e f X.env (eval e X.env) = eval e X.env := by rfl) : PX X W (.Attribute e f pos) (dFld cs f de) :=
  peimp (pe_fld he hb) fun σ H Q ⟨fr, Z, env, a⟩ => (a.bind.imp fun u H1 ⟨Z1, env1, x, s1, r1, a1⟩ => by
    obtain ⟨y, e, k⟩ := a1.lift
    cases x with
    | ins c ns vs =>
      obtain ⟨hm, e⟩ : c ∈ cs ∧ fldOf f ns vs = some y := by
        have e : (if c ∈ cs then fldOf f ns vs else none) = some y := e
        by_cases h : c ∈ cs
        · rw [if_pos h] at e; exact ⟨h, e⟩
        · rw [if_neg h] at e; cases e
      obtain ⟨C, h1, h2, h3⟩ := hc c hm
      cases r1 with
      | @ins a C' dx _ fs _ hz hg rv =>
        rw [show X.mg c = some (.ref C') from hg] at h1
        cases h1
        obtain ⟨v, l1, l2⟩ := rv.fld e
        exact ⟨a, C, dx, fs, v, rfl, a1.st.zh _ _ hz, h2, h3 f (List.mem_singleton.mpr rfl), l1, k v Z1 H1 (Same.refl _) a1.st l2⟩
    | _ => cases e).here
end
end Pu
set_option Elab.async false
set_option linter.all false
set_option maxRecDepth 100000
set_option maxHeartbeats 4000000
/-! Pu, part S: making an instance. -/
namespace Pu
open PySem PySem.Spec PyProof.Rows L2
theorem RoomG.make {k : Nat} {A : Around} (r : RoomG (k + 1) A) (C : Addr) (us : List Value) (kw : List (Str × Value)) : RoomG k (A.under (.builtin "type.__call__" ⟨.ref C :: us, kw⟩)) := ⟨r.toRoom.make C us kw, r.gd⟩
section
variable {X : Cx} {CX : CXT} {E : XK} {k : Nat} {f C : Addr} {fd : FuncData} {ps : List Str} {sp : Sp} {dvs : List V} {ds : List Value}
theorem run_makeG {pins : List (Addr × Obj)} {σ : L2.St} {H : Hp} {s : Shared} {Q : VK} {us : List Value} {vs : List V} (M : Mk X.K C f) (F : FnG X.prog X.w X.K X.mg X.base CX k f fd ps sp) (hr : RoomG (k + 1) X.A) (hb : Binds X.K fd ps ds) (hd : Vals dvs ds)
    (hx : PassesAt CX X σ E) (I : Inv X pins σ H s) (r : Vals vs us)
    (h : ∀ x dx, H x = none → H dx = none → dx ≠ x → sp (.ref x :: (vs ++ dvs)) (upd (upd H dx (.own x)) x (.ins C dx [])) (fun v H2 => v = .non ∧ Q (.ref x) H2) E) :
    wpAny (model X.prog X.w) X.A (call (.ref C) us) (EP X pins σ Q) X.xe s := by
  have n0 : H s.heap.objs.size = none := I.hok.fresh (Nat.le_refl _)
  have n1 : H (s.heap.objs.size + 1) = none := I.hok.fresh (Nat.le_succ _)
  have told := h _ _ n1 n0 (Nat.ne_of_lt (Nat.lt_succ_self _))
  have J := Inv.made (C := C) I
  have rel : Vals (V.ref (s.heap.objs.size + 1) :: (vs ++ dvs)) (Value.ref (s.heap.objs.size + 1) :: (us ++ ds)) := Paired.cons rfl (r.append hd)
  have len : (Value.ref (s.heap.objs.size + 1) :: us ++ ds).length = ps.length := rel.length.symm.trans (F.len _ _ _ _ told)
  have inner := F.run _ X.stack _ _ ⟨Value.ref (s.heap.objs.size + 1) :: us, []⟩ (Value.ref (s.heap.objs.size + 1) :: (us ++ ds)) _ _ E (hr.make C us [])
    (J.env0.make C us []) (hb _ (Value.ref (s.heap.objs.size + 1) :: us) J.kIn len) rel told
  refine wpAny_call (make_map (f := f) I.kIn M.makes M.init (beq_iff_eq.mp M.fn) (codeAny_mono inner ?_))
  intro r s' hq
  cases r with
  | ok fl =>
    cases fl with
    | ret u =>
      obtain ⟨v, H', I3, rv, ev, q3⟩ := J.after hq
      cases ev
      refine ⟨rv, .ref (s.heap.objs.size + 1), H', I3, ?_, q3⟩
      rfl
    | next => exact False.elim hq
    | brk => exact False.elim hq
    | cont => exact False.elim hq
  | error e => exact hx pins _ _ e s' J hq
end
end Pu
set_option Elab.async false
set_option linter.all false
set_option maxRecDepth 100000
set_option maxHeartbeats 4000000
/-! Pu, part T: fields of an instance under way. -/
namespace Pu
open PySem PySem.Spec PyProof.Rows L2

def putPF (f : Str) (y : PV) : List Str → List PV → List Str × List PV
  | n :: ns, x :: xs => if n = f then (n :: ns, y :: xs) else (n :: (putPF f y ns xs).1, x :: (putPF f y ns xs).2)
  | _, _ => ([f], [y])
theorem putF_rep {g : G} {Z : Hp} {f : Str} {v : V} {y : PV} (r : Rep g Z v y) : ∀ {fs : List (Str × V)} {vs : List PV}, Reps g Z (fs.map (·.2)) vs → (putF f v fs).map (·.1) = (putPF f y (fs.map (·.1)) vs).1 ∧ Reps g Z ((putF f v fs).map (·.2)) (putPF f y (fs.map (·.1)) vs).2
  | [], vs, h => by cases h; exact ⟨rfl, .cons r .nil⟩
  | (n, u) :: fs, vs, h => by
    rw [List.map_cons] at h ⊢
    cases h with
    | @cons _ _ x xs a b =>
      obtain ⟨k1, k2⟩ := putF_rep r b
      have e1 : putF f v ((n, u) :: fs) = if n = f then (n, v) :: fs else (n, u) :: putF f v fs := rfl
      have e2 : putPF f y (n :: fs.map (·.1)) (x :: xs) = if n = f then (n :: fs.map (·.1), y :: xs) else (n :: (putPF f y (fs.map (·.1)) xs).1, x :: (putPF f y (fs.map (·.1)) xs).2) := rfl
      show (putF f v ((n, u) :: fs)).map (·.1) = (putPF f y (n :: fs.map (·.1)) (x :: xs)).1 ∧ Reps g Z ((putF f v ((n, u) :: fs)).map (·.2)) (putPF f y (n :: fs.map (·.1)) (x :: xs)).2
      rw [e1, e2]
      by_cases hn : n = f
      · rw [if_pos hn, if_pos hn]
        exact ⟨rfl, .cons r b⟩
      · rw [if_neg hn, if_neg hn]
        exact ⟨by rw [List.map_cons, k1], .cons a k2⟩
/-- name.f = e -/
def sSetFld (cs : List Str) (i : Nat) (f : Str) (de : Den PV) : SDen := sOf de fun y e => match e[i]? with
  | some (.o own c ns vs) => if c ∈ cs ∧ ns.length < 1000 then some (.nx (e.set i (.o own c (putPF f y ns vs).1 (putPF f y ns vs).2))) else none
  | _ => none
/-- name.f -/
def dFldM (cs : List Str) (i : Nat) (f : Str) : Den PV := fun e => match e[i]? with
  | some (.o _ c ns vs) => if c ∈ cs then (match fldOf f ns vs with | some y => some (.ok y e) | none => none) else none
  | _ => none
section
variable {X : Cx} {W : WX} {e : Expr} {de : Den PV} {f x : Str} {cs : List Str} {i : Nat} {p pos pos' : Pos}
theorem psx_setFld (hc : ∀ c ∈ cs, ClsF X.K X.mg c [f]) (h : PE X (.Name x p) (tVar i)) (he : PX X W e de) (hs : swapsWith e (some (.Attribute (.Name x p) f pos')) pos.line X.env = pure false := by rfl) : PSX X W (.Assign [.Attribute (.Name x p) f pos'] e pos) (sSetFld cs i f de) :=
  psimp (ps_fld h he hs) fun D σ H ⟨fr, Z, env, a⟩ => by
    refine (a.of.imp fun u H1 ⟨Z1, env1, y, s1, r1, a1⟩ => ?_).here
    obtain ⟨st, o, eo, po⟩ := a1
    split at eo
    · rename_i own c ns vs hx
      obtain ⟨⟨hm, hl⟩, rfl⟩ := of_ite eo
      obtain ⟨b, fs, e1, n, ⟨C, dx, hH, hg⟩, hk, r, ow⟩ := st.sl i _ hx
      obtain ⟨C', h1, h2, h3⟩ := hc c hm
      rw [show X.mg c = some (.ref C) from hg] at h1
      cases h1
      subst hk
      obtain ⟨k1, k2⟩ := putF_rep (f := f) r1 r
      refine ⟨.ref b, e1, b, C, dx, fs, rfl, hH, h2, h3 f (List.mem_singleton.mpr rfl), by rw [List.length_map] at hl; exact hl, ?_⟩
      exact po σ Z1 _ (Same.refl _) (st.putC hx rfl rfl e1 ⟨b, _, e1, n, ⟨C, dx, upd_same, hg⟩, k1, k2, ow⟩)
    · cases eo
theorem px_fldM (hc : ∀ c ∈ cs, ClsF X.K X.mg c [f]) (h : PE X (.Name x p) (tVar i)) (hb : attributeBase (.Name x p) f X.env (eval (.Name x p) X.env) = eval (.Name x p) X.env := by rfl) : PX X W (.Attribute (.Name x p) f pos) (dFldM cs i f) :=
  peimp (pe_fld h hb) fun σ H Q ⟨fr, Z, env, st, o, eo, po⟩ => by
    unfold dFldM at eo
    split at eo
    · rename_i own c ns vs hx
      split at eo
      · rename_i hm
        cases hf : fldOf f ns vs with
        | none => rw [hf] at eo; cases eo
        | some y =>
          rw [hf] at eo
          cases eo
          obtain ⟨b, fs, e1, n, ⟨C, dx, hH, hg⟩, hk, r, ow⟩ := st.sl i _ hx
          obtain ⟨C', h1, h2, h3⟩ := hc c hm
          rw [show X.mg c = some (.ref C) from hg] at h1
          cases h1
          subst hk
          obtain ⟨v, l1, l2⟩ := r.fld hf
          exact ⟨.ref b, e1, b, C, dx, fs, v, rfl, hH, h2, h3 f (List.mem_singleton.mpr rfl), l1, po v Z H (Same.refl _) st l2⟩
      · cases eo
    · cases eo
end
end Pu
set_option Elab.async false
set_option linter.all false
set_option maxRecDepth 100000
set_option maxHeartbeats 4000000
/-! Pu, part U: defs whose first parameter is an instance under way. -/
namespace Pu
open PySem PySem.Spec PyProof.Rows L2

/-- as ExtM, whatever became of a -/
structure ExtE (a : Addr) (Z H Z' H' : Hp) : Prop where
  zz : Same Z Z'
  hh : ∀ b o, b ≠ a → H b = some o → H' b = some o
  zh : Same Z' H'
  nz : ∀ b o, b ≠ a → H b = some o → Z b = none → Z' b = none
/-- fields' names, their values, the arguments: the answer and the fields behind it, or an exception -/
abbrev FnI := List Str → List PV → List PV → Option (Except Exn (PV × List Str × List PV))
def SpI (g : G) (c : Str) (n : Nat) (F : FnI) : Sp := fun vs H Q E => ∃ Z a ws fs xs args o C dx, vs = V.ref a :: ws ∧ Same Z H ∧ Z a = none ∧ H a = some (.ins C dx fs) ∧ g.mg c = some (.ref C) ∧ Reps g Z (fs.map (·.2)) xs ∧ Reps g Z ws args ∧ args.length + 1 = n ∧ F (fs.map (·.1)) xs args = some o ∧ match o with
  | .ok (r, ns', vs') => ∀ u Z' H' fs' C' dx', ExtM a Z H Z' H' → H' a = some (.ins C' dx' fs') → g.mg c = some (.ref C') → fs'.map (·.1) = ns' → Reps g Z' (fs'.map (·.2)) vs' → Rep g Z' u r → Q u H'
  | .error x => ∀ cls dd Z' H', ExtE a Z H Z' H' → ExRep g x cls dd Z' H' → E cls dd H'
def cellsI (m : Nat) (c : Str) (ns : List Str) (xs args : List PV) : Cells := .o false c ns xs :: (args.map .v ++ List.replicate (m - (args.length + 1)) .un)
def outI (c : Str) (v : PV) (e : Cells) : Option (Except Exn (PV × List Str × List PV)) := match (e[(0 : Nat)]? : Option Cell) with
  | some (.o false c0 ns vs) => if c0 = c then some (.ok (v, ns, vs)) else none
  | _ => none
def fnDenI (m : Nat) (c : Str) (d : SDen) : FnI := fun ns xs args => match d (cellsI m c ns xs args) with
  | some (.rt v e) => outI c v e
  | some (.nx e) => outI c .non e
  | some (.ex x _) => some (.error x)
  | _ => none
theorem stok_startI {g : G} {Z H : Hp} {N : List Str} {a : Addr} {c : Str} {C dx : Addr} {fs : List (Str × V)} {ws : List V} {xs args : List PV} (e : Same Z H) (n : Z a = none) (hH : H a = some (.ins C dx fs)) (hg : g.mg c = some (.ref C)) (rx : Reps g Z (fs.map (·.2)) xs) (r : Reps g Z ws args) (h : ws.length + 1 ≤ N.length) :
    StOk g ⟨Z, H, fun b => b = a⟩ Z H (start N (.ref a :: ws)) (cellsI N.length c (fs.map (·.1)) xs args) where
  z0 := Same.refl _
  zh := e
  fr := fun _ _ q _ => q
  nz := fun _ _ _ _ z => z
  pr := fun _ o q => ⟨o, q⟩
  mh := fun b m => by
    have m : b = a := m
    subst m; exact ⟨_, hH⟩
  ln := by
    rw [start_len (by rw [List.length_cons]; exact h)]
    unfold cellsI
    rw [List.length_cons, List.length_append, List.length_map, List.length_replicate, ← r.length]; omega
  sl := fun i cc ei => by
    cases i with
    | zero =>
      cases ei
      exact ⟨a, fs, rfl, n, ⟨C, dx, hH, hg⟩, rfl, rx, rfl⟩
    | succ i =>
      have ei : (args.map Cell.v ++ List.replicate (N.length - (args.length + 1)) .un)[i]? = some cc := ei
      by_cases hi : i < args.length
      · rw [List.getElem?_append_left (by rw [List.length_map]; exact hi), List.getElem?_map] at ei
        cases ea : args[i]? with
        | none => rw [ea] at ei; cases ei
        | some x =>
          rw [ea] at ei
          cases ei
          obtain ⟨v, hv, rv⟩ := r.get' ea
          refine ⟨v, ?_, rv⟩
          unfold L2.start
          show (((V.ref a) :: ws).map some ++ _)[i + 1]? = _
          rw [List.getElem?_append_left (by rw [List.length_map, List.length_cons, r.length]; omega), List.getElem?_map, List.getElem?_cons_succ, hv]
          rfl
      · rw [List.getElem?_append_right (by rw [List.length_map]; omega)] at ei
        rw [List.getElem?_replicate] at ei
        split at ei
        · cases ei; trivial
        · cases ei
  sep := fun i j x y b ei ej mx my si sj => by
    have no : ∀ {i : Nat} {cc : Cell}, (cellsI N.length c (fs.map (·.1)) xs args)[i]? = some cc → cc.mut = true → i = 0 := fun {i cc} ei m => by
      cases i with
      | zero => rfl
      | succ i =>
        have ei : (args.map Cell.v ++ List.replicate (N.length - (args.length + 1)) .un)[i]? = some cc := ei
        rcases List.mem_append.mp (List.mem_of_getElem? ei) with h | h
        · obtain ⟨x, _, rfl⟩ := List.mem_map.mp h; cases m
        · rw [(List.mem_replicate.mp h).2] at m; cases m
    rw [no ei mx, no ej my]
section
variable {P : Program} {w : World} {K : PySem.W.Frag} {mg : Str → Option Value} {base : Heap}
theorem fnI {c : Str} {x qual : Str} {params : Arguments} {body : List Stmt} {scope : Scope} {dvs : List V} {kws : List (Str × V)} {f : Addr} {fd : FuncData} {N ps : List Str} {k : Nat} {d : SDen} (F : FunD K x qual params body scope dvs kws f fd) (S : FnScope N ps scope)
    (hb : ∀ (cdv : Value) (A : Around) (outer : List PySem.Env) (s : Shared) (H : Hp) (E : XK), RoomG k (A.deeper (envOfC qual scope s.heap.objs.size f cdv)) →
      Takes (cxOf (L2.CX P w) P w K mg base N qual scope f cdv A outer s H E) (fun cls dd _ H' => E cls dd H') →
      PSsX (cxOf (L2.CX P w) P w K mg base N qual scope f cdv A outer s H E) (fun cls dd _ H' => E cls dd H') body d) :
    FnG P w K mg base (L2.CX P w) (k + 1) f fd ps (SpI ⟨K, mg⟩ c ps.length (fnDenI N.length c d)) := by
  refine fnG_of F S (fun vs H Q E ⟨Z, a, ws, fs, xs, args, o, C, dx, ev, _, _, _, _, _, rw', l, _⟩ => by rw [ev, List.length_cons, rw'.length]; exact l) fun cdv A outer s H vs Q E hr h => ?_
  refine ⟨_, hb cdv A outer s H E hr (takes_of rfl rfl rfl rfl), ?_⟩
  obtain ⟨Z, a, ws, fs, xs, args, o, C, dx, ev, e, n, hH, hg, rx, ra, l, hF, ho⟩ := h
  subst ev
  have hpl : ps.length ≤ N.length := by have := congrArg List.length S.pre; rw [List.length_take] at this; omega
  have st : StOk ⟨K, mg⟩ ⟨Z, H, fun b => b = a⟩ Z H (start N (.ref a :: ws)) (cellsI N.length c (fs.map (·.1)) xs args) := stok_startI e n hH hg rx ra (by rw [ra.length]; omega)
  refine ⟨_, Z, _, st, ?_⟩
  have fin : ∀ {Z' H' : Hp} {σ' : L2.St} {e' : Cells} {v : PV} {u : V}, Same Z Z' → StOk ⟨K, mg⟩ ⟨Z, H, fun b => b = a⟩ Z' H' σ' e' → Rep ⟨K, mg⟩ Z' u v → outI c v e' = some o → Q u H' := fun {Z' H' σ' e' v u} s st' rv eo => by
    unfold outI at eo
    split at eo
    · rename_i c0 ns0 vs0 hz
      obtain ⟨rfl, rfl⟩ := of_ite eo
      obtain ⟨b, fs', e1, n', ⟨C', dx', hH', hg'⟩, hk, r', ow⟩ := st'.sl 0 _ hz
      have ow : b = a := ow
      subst ow
      exact ho u Z' H' fs' C' dx' ⟨s, fun c o hc q => st'.fr c o q hc, st'.zh, fun c o hc q z => st'.nz c o q hc z, n'⟩ hH' hg' hk r' rv
    · cases eo
  unfold fnDenI at hF
  cases hd : d (cellsI N.length c (fs.map (·.1)) xs args) with
  | none => rw [hd] at hF; cases hF
  | some so =>
    rw [hd] at hF
    cases so with
    | rt v e1 => exact ⟨_, rfl, fun u σ' Z' H' s st' rv => fin s st' rv hF⟩
    | nx e1 => exact ⟨_, rfl, fun σ' Z' H' s st' => fin s st' .non hF⟩
    | ex x e1 =>
      cases hF
      exact ⟨_, rfl, fun cls dd σ' Z' H' s st' r => ho cls dd Z' H' ⟨s, fun c o hc q => st'.fr c o q hc, st'.zh, fun c o hc q z => st'.nz c o q hc z⟩ r⟩
    | bk e1 => cases hF
    | ct e1 => cases hF
end
end Pu
set_option Elab.async false
set_option linter.all false
set_option maxRecDepth 100000
set_option maxHeartbeats 4000000
/-! Pu, part V: C(e, ..), an instance made and frozen. -/
namespace Pu
open PySem PySem.Spec PyProof.Rows L2

def dMake (c : Str) (F : FnI) (ds : Den (List PV)) : Den PV := ds.bind fun args e => match F [] [] args with
  | some (.ok (.non, ns, vs)) => some (.ok (.ins c ns vs) e)
  | some (.error x) => some (.ex x e)
  | _ => none
structure DefI (X : Cx) (c : Str) (ps : List Str) (k : Nat) (F : FnI) : Prop where
  ex : ∃ (C f : Addr) (fd : FuncData), X.mg c = some (.ref C) ∧ Mk X.K C f ∧ Binds X.K fd ps [] ∧ FnG X.prog X.w X.K X.mg X.base (L2.CX X.prog X.w) k f fd ps (SpI (gOf X) c ps.length F)
section
variable {X : Cx} {W : WX} {k : Nat} {c : Str} {ps : List Str} {F : FnI} {p pos : Pos} {e : Expr} {es : List Expr} {ds : Den (List PV)}
theorem px_make (D : DefI X c ps k F) (tk : Takes X W) (hr : RoomG (k + 1) X.A) (hg : Gl X c) (ha : PAX X W (e :: es) ds) {n : Nat} (hl : Len ds n) (hn : n + 1 = ps.length := by rfl) (hdb : (c == ("__debug__" : Str)) = false := by decide)
    (he : starEach (e :: es) X.env = (false, eval e X.env) :: starEach es X.env := by rfl) (hpl : (backTo pos (starEach es X.env)).any (·.1) = false := by rfl) : PX X W (.Call (.Name c p) (e :: es) [] pos) (dMake c F ds) := by
  obtain ⟨C, f, fd, hm, M, hb, ok⟩ := D.ex
  refine ⟨fun pins s σ H Q I ⟨fr, Z, env, a⟩ => ?_⟩
  refine wpAny_Call_Name_kw (ld_glob I hg hm ?_ hdb)
  have a0 := a
  obtain ⟨o1, e1, p1⟩ := a0.bind (R := RVs (gOf X)) |>.to
  refine PySem.W.callWith_K (h₀ := X.base) I.ok.mod.kin M.kp (thn (ha.run pos pins s σ H (fun vs H1 => ∃ Z1 env1 args, args.length = n ∧ Reps (gOf X) Z1 vs args ∧ At (gOf X) W fr Z1 env1 (fun e => match F [] [] args with
      | some (.ok (.non, ns, vs)) => some (.ok (.ins c ns vs) e)
      | some (.error x) => some (.ex x e)
      | _ => none) (RV (gOf X)) Q σ H1) I ⟨fr, Z, env, a.st, o1, e1, ?_⟩) fun us s1 ⟨vs, H1, I1, r, q⟩ => ⟨I1.kIn, ?_⟩) he hpl
  · cases o1 with
    | ex x e2 => exact fun cls dd Z' H' s st' r => p1 cls dd Z' H' s st' r
    | ok args e2 =>
      intro ws Z1 H1 s1 st1 r1
      have la : args.length = n := hl _ _ _ e1
      obtain ⟨Z2, env2, args2, s2, r2, a2⟩ := p1 ws Z1 H1 s1 st1 r1
      exact ⟨Z2, env2, args2, by rw [← r2.length, r1.length]; exact la, r2, a2⟩
  · obtain ⟨Z1, env1, args, la, ra, a1⟩ := q
    obtain ⟨st, o, eo, po⟩ := a1
    refine run_makeG (E := WE W σ) (dvs := []) M ok hr hb .nil (passAt tk σ) I1 r fun x dx nx ndx hne => ?_
    have sz : ∀ b u, H1 b = some u → (upd (upd H1 dx (.own x)) x (.ins C dx [])) b = some u := fun b u q => by
      rw [upd_ne (ne_of_none q nx), upd_ne (ne_of_none q ndx)]; exact q
    rw [List.append_nil]
    have zx : Z1 x = none := st.zn nx
    have go : ∀ {Z' H' : Hp} {Z2 : Hp}, (∀ b u, Z1 b = some u → Z2 b = some u) → ExtE x Z1 (upd (upd H1 dx (.own x)) x (.ins C dx [])) Z' H' → Same Z2 H' → (∀ b, b ≠ x → Z2 b = Z' b) → StOk (gOf X) fr Z2 H' σ env1 := fun {Z' H' Z2} hz ex zh eq =>
      st.grow hz (fun b u q => ex.hh b u (ne_of_none q nx) (sz b u q)) zh fun b u q z => by
        rw [eq b (ne_of_none q nx)]; exact ex.nz b u (ne_of_none q nx) (sz b u q) z
    cases hF : F [] [] args with
    | none => rw [hF] at eo; cases eo
    | some oF =>
      refine ⟨Z1, x, vs, [], [], args, oF, C, dx, rfl, fun b u q => sz b u (st.zh _ _ q), zx, upd_same, hm, .nil, ra, by rw [la]; exact hn, hF, ?_⟩
      cases oF with
      | error xx =>
        rw [hF] at eo
        cases eo
        exact fun cls dd Z' H' ex rr => po cls dd Z' H' ex.zz (go ex.zz ex ex.zh fun _ _ => rfl) rr
      | ok t =>
        obtain ⟨rv, ns', vs'⟩ := t
        intro u Z' H' fs' C' dx' ex hH hg' hk rr ru
        cases rv with
        | non =>
          rw [hF] at eo
          cases eo
          cases ru
          refine ⟨rfl, ?_⟩
          have zz' : Same Z' (upd Z' x (.ins C' dx' fs')) := same_upd ex.na
          have st3 : StOk (gOf X) fr (upd Z' x (.ins C' dx' fs')) H' σ env1 := go (Z' := Z') (fun b u q => zz' _ _ (ex.zz _ _ q)) ⟨ex.zz, ex.hh, ex.zh, ex.nz⟩ (fun b u q => by
            by_cases hb : b = x
            · subst hb; rw [upd_same] at q; cases q; exact hH
            · rw [upd_ne hb] at q; exact ex.zh _ _ q) fun b hb => upd_ne hb
          subst hk
          exact po (.ref x) _ H' (fun b u q => zz' _ _ (ex.zz _ _ q)) st3 (.ins upd_same hg' (rr.mono zz'))
        | _ => rw [hF] at eo; cases eo
end
end Pu
set_option Elab.async false
set_option linter.all false
set_option maxRecDepth 100000
set_option maxHeartbeats 4000000
/-! Pu, part W: o.m(e), list + list, list.index, targets that are tuples, zip, try .. except X: return. -/
namespace Pu
open PySem PySem.Spec PyProof.Rows L2 RZ

/-! ### o.m(e, ..) -/
/-- what a caller needs of a method of the class c -/
structure DefT (X : Cx) (c m : Str) (ps : List Str) (k : Nat) (F : Fn) : Prop where
  ex : ∃ (C f : Addr) (fd : FuncData), X.mg c = some (.ref C) ∧ Cls X.K C ∧ Meth X.K C m f ∧ Binds X.K fd ps [] ∧ FnG X.prog X.w X.K X.mg X.base (L2.CX X.prog X.w) k f fd ps (SpP (gOf X) ps.length F)
def dMeth (c m : Str) (F : Fn) (da : Den PV) (ds : Den (List PV)) : Den PV := da.bind fun x => match x with
  | .ins c' ns _ => if c' = c ∧ m ∉ ns then dCall F [] (ds.bind fun xs => Den.ret (x :: xs)) else fun _ => none
  | _ => fun _ => none
theorem lookup_notin {α : Type} {m : Str} : ∀ {fs : List (Str × α)}, m ∉ fs.map (·.1) → fs.lookup m = none
  | [], _ => rfl
  | (n, v) :: fs, h => by
    rw [List.map_cons, List.mem_cons, not_or] at h
    rw [List.lookup_cons, show (m == n) = false by simpa using h.1]
    exact lookup_notin h.2
section
variable {X : Cx} {W : WX} {k : Nat} {c m : Str} {ps : List Str} {F : Fn} {apos pos : Pos} {o e : Expr} {es : List Expr} {da : Den PV} {ds : Den (List PV)}
theorem px_meth {pl : Sem Bool} (D : DefT X c m ps k F) (tk : Takes X W) (hr : RoomG k X.A) (ho : PX X W o da) (ha : PAX X W (e :: es) ds) {n : Nat} (hl : Len ds n) (hn : n + 1 = ps.length := by rfl)
    (hst : starEach (e :: es) X.env = (false, eval e X.env) :: starEach es X.env := by rfl) (hpl : (backTo pos (starEach es X.env)).any (·.1) = false := by rfl)
    (ht : eval (.Call (.Attribute o m apos) (e :: es) [] pos) X.env = (eval o X.env >>= fun ov => standAt apos.atName >>= fun _ => holding [ov] (getMethod ov m pl) >>= fun p =>
      callWith pos p.1 p.2 (backTo pos (starEach (e :: es) X.env)) (backToKw pos (keywordEach [] X.env))) := by rfl) :
    PX X W (.Call (.Attribute o m apos) (e :: es) [] pos) (dMeth c m F da ds) := by
  obtain ⟨C, f, fd, hm, hc, me, hb, ok⟩ := D.ex
  refine ⟨fun pins s σ H Q I ⟨fr, Z, env, a⟩ => ?_⟩
  have q0 : tP (gOf X) W da σ H (fun x H1 => ∃ b dx fs, x = .ref b ∧ H1 b = some (.ins C dx fs) ∧ fs.lookup m = none ∧ tPs (gOf X) W ds σ H1 fun vs H2 => SpP (gOf X) ps.length F (.ref b :: vs) H2 Q (WE W σ)) := by
    refine (a.bind.imp fun u H1 ⟨Z1, env1, x, s1, r1, a1⟩ => ?_).here
    obtain ⟨st, o1, eo, po⟩ := a1
    cases x with
    | ins c' ns vs =>
      replace eo : (if c' = c ∧ m ∉ ns then dCall F [] (ds.bind fun xs => Den.ret (PV.ins c' ns vs :: xs)) else fun _ => none) env1 = some o1 := eo
      by_cases hcm : c' = c ∧ m ∉ ns
      · rw [if_pos hcm] at eo
        obtain ⟨rfl, hni⟩ := hcm
        have r1' := r1
        cases r1 with
        | @ins b C' dx _ fs _ hz hg rv =>
          rw [show X.mg c' = some (.ref C') from hg] at hm
          cases hm
          refine ⟨b, dx, fs, rfl, st.zh _ _ hz, lookup_notin hni, ?_⟩
          refine ⟨fr, Z1, env1, st, ?_⟩
          unfold dCall Den.bind at eo
          cases hds : ds env1 with
          | none => simp only [hds] at eo; cases eo
          | some o2 =>
            simp only [hds] at eo
            cases o2 with
            | ex c2 e2 =>
              have eo : some (Out.ex c2 e2) = some o1 := eo
              cases eo
              exact ⟨_, rfl, fun cls dd Z' H' s st' r => po cls dd Z' H' s st' r⟩
            | ok xs e2 =>
              have eo : callK F (PV.ins c' (fs.map (·.1)) vs :: xs ++ []) e2 = some o1 := eo
              refine ⟨_, rfl, fun us Z2 H2 s2 st2 r2 => ?_⟩
              rw [List.append_nil] at eo
              unfold callK at eo
              cases hF : F (PV.ins c' (fs.map (·.1)) vs :: xs) with
              | none => rw [hF] at eo; cases eo
              | some r =>
                rw [hF] at eo
                refine ⟨Z2, PV.ins c' (fs.map (·.1)) vs :: xs, r, st2.zh, .cons (r1'.mono s2) r2, by rw [List.length_cons, hl _ _ _ hds]; exact hn, hF, ?_⟩
                cases r with
                | ok v => cases eo; exact fun u Z' H' ex rv => po u Z' H' (s2.trans ex.zz) (st2.ext ex) rv
                | error cc => cases eo; exact fun cls dd Z' H' ex rv => po cls dd Z' H' (s2.trans ex.zz) (st2.ext ex) rv
      · rw [if_neg hcm] at eo; cases eo
    | _ => cases eo
  refine PySem.W.methodCall_KW (pl := pl) (thn (ho.run pins s σ H _ I q0) fun u s1 ⟨x, H1, I1, rx, b, dx, fs, ex, ea, l, q⟩ => ?_) ht
  subst ex
  obtain rfl : u = Value.ref b := rx
  refine getmeth_ok I1 ea hc me l (PySem.W.callWith_K (first := [.ref b]) (h₀ := X.base) I1.ok.mod.kin me.kp (thn (ha.run pos pins s1 σ H1 _ I1 q) fun us s2 ⟨vs, H2, I2, r, q2⟩ => ⟨I2.kIn, ?_⟩) hst hpl)
  exact run_fnSD (E := WE W) (us := .ref b :: us) (vs := .ref b :: vs) (dvs := []) ok hr hb .nil (passAt tk σ) I2 (.cons rfl r) (by rw [List.append_nil]; exact q2)
end

/-! ### list + list -/
def rCatL (K : PySem.W.Frag) : R2 := fun x y H Q => ∃ a b xs ys, x = .ref a ∧ y = .ref b ∧ SqL K H a xs ∧ SqL K H b ys ∧ xs.length + ys.length ≤ sizeLine ∧ ∀ p, H p = none → Q (.ref p) (upd H p (.lst (xs ++ ys)))
theorem op_catL {X : Cx} : OpR X (binaryOp .Add) (rCatL X.K) := by
  intro pins s σ H x y v u Q I rx ry h
  obtain ⟨a, b, xs, ys, rfl, rfl, ha, hb, hz, q⟩ := h
  cases rx
  cases ry
  obtain ⟨its, r1, p1, l1⟩ := I.list ha
  obtain ⟨its2, r2, p2, l2⟩ := I.list hb
  obtain ⟨⟨cls, dd, data, sl⟩, n, ho, hc, hd, ht⟩ := p1
  obtain ⟨⟨cls2, dd2, data2, sl2⟩, n2, ho2, hc2, hd2, ht2⟩ := p2
  simp only at hc hd ht hc2 hd2 ht2
  subst hc hd ht hc2 hd2 ht2
  have lz : its.toArray.size + its2.toArray.size ≤ sizeLine := by rw [List.size_toArray, List.size_toArray, ← r1.length, ← r2.length]; exact hz
  refine concat_meets ⟨_, ho, rfl⟩ ⟨_, ho2, rfl⟩ noFill_list_add seq_list_add PySem.F.slot_list_add PySem.F.entry_list_add (PySem.F.args_list_add_2 _ _) (list_addW a b its.toArray its2.toArray n n2 none none sl sl2 lz) ⟨ho, ho2, ?_⟩
  rw [show its.toArray ++ its2.toArray = (its ++ its2).toArray by simp]
  exact ⟨.ref s.heap.objs.size, _, I.lnew (t' := s.toks) (r1.append r2) (by rw [List.length_append]; exact hz), rfl, q _ I.fresh⟩
def dCatL (da db : Den PV) : Den (List PV) := da.bind fun x => db.bind fun y => Den.lift (match x, y with
  | .lst xs, .lst ys => if xs.length + ys.length ≤ 100000 then some (xs ++ ys) else none
  | _, _ => none)
section
variable {X : Cx} {W : WX} {a b : Expr} {da db : Den PV} {pos : Pos}
theorem po_catL (ha : PX X W a da) (hb : PX X W b db) : PO' X W (.BinOp a .Add b pos) (dCatL da db) := peimp (pe_op op_catL ha hb) fun σ H Q ⟨f, Z, env, at0⟩ => by
  refine (at0.bind.imp fun u H1 ⟨Z1, env1, x, s1, r1, a1⟩ => ?_).here
  refine (a1.bind.imp fun w H2 ⟨Z2, env2, y, s2, r2, a2⟩ => ?_).here
  obtain ⟨v, e, k⟩ := a2.lift
  have r1' := r1.mono s2
  have key : ∀ x y, Rep (gOf X) Z2 u x → Rep (gOf X) Z2 w y → (match x, y with
      | .lst xs, .lst ys => if xs.length + ys.length ≤ 100000 then some (xs ++ ys) else none
      | _, _ => none) = some v → rCatL X.K u w H2 Q := fun x y r1 r2 e => by
    split at e
    · rename_i xs ys
      obtain ⟨l, rfl⟩ := of_ite e
      have big : 100000 ≤ sizeLine := by decide
      generalize hx : PV.lst xs = x' at r1
      generalize hy : PV.lst ys = y' at r2
      cases r1 with
      | @lst a' vs xs' hs l1 rv =>
        cases hx
        cases r2 with
        | @lst b' ws ys' hs2 l2 rw2 =>
          cases hy
          have z1 := rv.length
          have z2 := rw2.length
          refine ⟨a', b', vs, ws, rfl, rfl, Same.sql a2.st.zh hs, Same.sql a2.st.zh hs2, by omega, fun p n => ?_⟩
          obtain ⟨st3, r3⟩ := a2.st.own n (by rw [List.length_append]; omega) (rv.append rw2)
          exact k _ Z2 _ (Same.refl _) st3 r3
        | _ => cases hy
      | _ => cases hx
    · cases e
  exact key x y r1' r2 e
end

/-! ### l.index(x) -/
/-- data to be compared with little room -/
def PV.small (x : PV) : Bool := x.plain && decide (x.depth ≤ 60)
def dIndexL (da db : Den PV) : Den PV := da.bind fun x => match x with
  | .lst xs => db.bind fun y => Den.lift (if (PV.lst xs).small = true ∧ y.small = true then (idxP y xs 0).map fun n => .int (n : Nat) else none)
  | _ => fun _ => none
section
variable {X : Cx} {W : WX} {k : Nat} {e o : Expr} {da db : Den PV} {apos cpos : Pos}
theorem px_indexL (hr : RoomG k X.A) (ho : PX X W o da) (ha : PX X W e db)
    (hbase : attributeBase o "index" X.env (eval o X.env) = eval o X.env := by rfl)
    (hfew : ((backTo cpos (starEach [e] X.env)).all (fun x => !x.1) && (backToKw cpos (keywordEach [] X.env)).all (fun x => x.1.isSome)
      && decide ([e].length + ([] : List Keyword).length + (if ([] : List Keyword).isEmpty then 0 else 1) < 30)) = true := by rfl)
    (hline : (apos.endLine == cpos.line) = true := by rfl) (hs : starEach [e] X.env = (false, eval e X.env) :: starEach [] X.env := by rfl) (hplain : (backTo cpos (starEach [] X.env)).any (·.1) = false := by rfl) :
    PX X W (.Call (.Attribute o "index" apos) [e] [] cpos) (dIndexL da db) :=
  peimp (pe_bm PySem.F.plainAttrs_list PySem.F.slot_list_index PySem.F.type_list_index (mt_indexD (by have := hr.un; omega)) ho (pa_cons ha pa_nil hs) hbase hfew hline hs hplain) fun σ H Q ⟨f, Z, env, a⟩ => by
    refine (a.bind.imp fun u H1 ⟨Z1, env1, x, s1, r1, a1⟩ => ?_).here
    cases x with
    | lst xs =>
      cases r1 with
      | @lst a' vs _ ht l rv =>
        refine ⟨.inl ⟨rfl, vs, Same.sql a1.st.zh ht⟩, ?_⟩
        refine ((show At (gOf X) W f Z1 env1 (db.bind fun y => Den.lift (if (PV.lst xs).small = true ∧ y.small = true then (idxP y xs 0).map fun n => PV.int (n : Nat) else none)) (RV (gOf X)) Q σ H1 from a1).bind.imp fun w H2 ⟨Z2, env2, y, s2, r2, a2⟩ => ?_).here
        obtain ⟨v, e, k⟩ := a2.lift
        split at e
        · rename_i hf
          cases hi : idxP y xs 0 with
          | none => rw [hi] at e; cases e
          | some j =>
            rw [hi] at e
            cases e
            obtain ⟨_, ⟨z, hz, hzy⟩, hno⟩ := idxP_spec hi
            obtain ⟨p1, l1⟩ := Bool.and_eq_true_iff.mp hf.1
            obtain ⟨p2, l2⟩ := Bool.and_eq_true_iff.mp hf.2
            have rl : Rep (gOf X) Z2 (.ref a') (.lst xs) := .lst (Same.sql s2 ht) l (rv.mono s2)
            obtain ⟨d1, c1⟩ := rl.dp a2.st.zh p1
            obtain ⟨d2, c2⟩ := r2.dp a2.st.zh p2
            refine ⟨a', w, y.toD, PV.toDs xs, j, z.toD, rfl, rfl, d1, d2, ?_, ?_, toDs_get (by simpa using hz), hzy, fun m z' hm hz' => ?_, k _ Z2 H2 (Same.refl _) a2.st (.int _)⟩
            · refine Bool.and_eq_true_iff.mpr ⟨c1, decide_eq_true ?_⟩
              have q := toD_depth (.lst xs) p1
              have l1 := of_decide_eq_true l1
              have q : (PyData.list (PV.toDs xs)).depth = (PV.lst xs).depth := q
              omega
            · refine Bool.and_eq_true_iff.mpr ⟨c2, decide_eq_true ?_⟩
              have q := toD_depth y p2
              have l2 := of_decide_eq_true l2
              omega
            · obtain ⟨z2, h1, rfl⟩ := toDs_get' hz'
              exact hno m z2 (by simpa using hm) h1
        · cases e
    | _ => obtain ⟨_, _, e, _⟩ := a1; cases e
end

/-! ### a, b = e -/
def sSetT (gx : PV → Cells → Option Cells) (de : Den PV) : SDen := sOf de fun x e => match gx x e with
  | some e' => some (.nx e')
  | none => none
theorem psx_setT {X : Cx} {W : WX} {tg e : Expr} {pos : Pos} {t : TG} {is : List Nat} {gx : PV → Cells → Option Cells} {de : Den PV} (hg : PGX X tg t is gx) (he : PX X W e de) (hs : swapsWithSole [tg] e pos.line X.env = pure false := by rfl) (hw : swappedStores [tg] e X.env = pure none := by rfl)
    (h1 : (assignEach [tg] X.env).map (·.2) = [assign tg X.env] := by rfl) : PSX X W (.Assign [tg] e pos) (sSetT gx de) := psimp (ps_asg he hg.pg hs hw h1) fun D σ H ⟨f, Z, env, a⟩ => by
  refine (a.of.imp fun u H1 ⟨Z1, env1, x, s1, r1, a1⟩ => ?_).here
  obtain ⟨st, o, e, p⟩ := a1
  cases hgx : gx x env1 with
  | none => rw [hgx] at e; cases e
  | some e2 =>
    rw [hgx] at e
    cases e
    exact hg.ok f Z1 env1 σ H1 u x e2 _ st r1 hgx fun σ' st' _ => p σ' Z1 H1 (Same.refl _) st'

/-! ### try: .. except C: .. -/
def sTryOnly (cn : Str) (db ds : SDen) : SDen := fun env => match db env with
  | some (.ex c e) => if c.c = cn ∧ c.ns = [] ∧ c.vs = [] then ds e else none
  | o => o
theorem psx_try_only {X : Cx} {W : WX} {C : Addr} {x : Str} {body suite : List Stmt} {b₀ : Stmt} {db ds : SDen} {np pos pos' : Pos} (hs : X.stack = X.env :: X.outer) (hf : X.env.frame = some X.env.locals) (hc : Names X x (.ref C)) (hmg : X.mg x = some (.ref C))
    (hcls : PySem.W.exmOne X.K (.ref C) (.ref C) = some true) (tk : Takes X W)
    (hb : ∀ (W : WX) (pn : List (Addr × Obj)) (xe : Value → Shared → Prop), Takes (X.tr pn xe) W → PassesOwn (model X.prog X.w) X.A X.env xe → PSsX (X.tr pn xe) W body db)
    (hsu : ∀ (a : Addr) (pn : List (Addr × Obj)), PSsX (X.suite a pn) W (b₀ :: suite) ds) :
    PSX X W (.Try body [.ExceptHandler (some (.Name x np)) none (b₀ :: suite) pos'] [] [] pos) (sTryOnly x db ds) := by
  refine psimp (ps_try_only (tb := fun W => tS (gOf X) W db) (ts := fun _ _ _ => tS (gOf X) W ds) hs hf hc tk hb fun a oe cls d pn _ _ => hsu a ((a, oe) :: pn)) fun D σ H ⟨f, Z, env, st, o, e, p⟩ => ?_
  refine ⟨f, Z, env, st, ?_⟩
  unfold sTryOnly at e
  cases hdb : db env with
  | none => rw [hdb] at e; cases e
  | some ob =>
    rw [hdb] at e
    cases ob with
    | nx e1 => cases e; exact ⟨_, rfl, p⟩
    | rt v e1 => cases e; exact ⟨_, rfl, p⟩
    | bk e1 => cases e; exact ⟨_, rfl, p⟩
    | ct e1 => cases e; exact ⟨_, rfl, p⟩
    | ex c e1 =>
      refine ⟨_, rfl, fun cls dd σ' Z' H' s st' r => ?_⟩
      have e : (if c.c = x ∧ c.ns = [] ∧ c.vs = [] then ds e1 else none) = some o := e
      by_cases hh : c.c = x ∧ c.ns = [] ∧ c.vs = []
      · rw [if_pos hh] at e
        obtain ⟨C', hC, rfl, _⟩ := r
        have hC : X.mg x = some (.ref C') := by rw [← hh.1]; exact hC
        rw [hmg] at hC
        cases hC
        exact ⟨true, hcls, fun _ a na => ⟨f, Z', e1, st', o, e, p.weak s⟩, fun z => by cases z⟩
      · rw [if_neg hh] at e; cases e

/-! ### zip -/
theorem walk_zipT {K : PySem.W.Frag} {a b : Addr} {xs ys : List V} {n : Nat} (hn : n = min xs.length ys.length) : Walk (ItzT K a b) n (fun H => SqT K H a xs ∧ SqT K H b ys) (YPair (fun i => xs[i]?) (fun i => ys[i]?)) := by
  have lt : ∀ i, i < n → i < xs.length ∧ i < ys.length := fun i h => by omega
  exact ⟨fun i _ hi q => ⟨xs, ys, xs[i]'(lt i hi).1, ys[i]'(lt i hi).2, q.1, q.2, by simp [lt i hi], by simp [lt i hi]⟩, fun _ q => ⟨xs, ys, q.1, q.2, by omega⟩, fun i H v H' _ q ⟨T, x, z, h1, h2, h3, h4, h5⟩ => ⟨T, x, z, h1, h2, h3, h4 xs q.1, h5 ys q.2⟩⟩
def zipP : List PV → List PV → List PV
  | x :: xs, y :: ys => .ktup [x, y] :: zipP xs ys
  | _, _ => []
theorem zipP_get : ∀ {xs ys : List PV} {i : Nat} {x y : PV}, xs[i]? = some x → ys[i]? = some y → (zipP xs ys)[i]? = some (.ktup [x, y])
  | x :: xs, y :: ys, 0, _, _, h1, h2 => by cases h1; cases h2; rfl
  | x :: xs, y :: ys, i + 1, _, _, h1, h2 => zipP_get (xs := xs) (ys := ys) (i := i) h1 h2
  | [], _, i, _, _, h1, _ => by simp at h1
  | _ :: _, [], i, _, _, _, h2 => by simp at h2
theorem zipP_length : ∀ (xs ys : List PV), (zipP xs ys).length = min xs.length ys.length
  | x :: xs, y :: ys => by unfold zipP; rw [List.length_cons, List.length_cons, List.length_cons, zipP_length xs ys]; omega
  | [], _ => by simp [zipP]
  | _ :: _, [] => by simp [zipP]
theorem iter_zip {g : G} {Z : Hp} {J : It} {vs ws : List V} {xs ys : List PV} {G' : Hp → Prop} (lz : vs.length ≤ sizeLine) (w : Walk J (min vs.length ws.length) G' (YPair (fun i => vs[i]?) (fun i => ws[i]?))) (hG : ∀ H, Same Z H → G' H) (r : Reps g Z vs xs) (r' : Reps g Z ws ys) : IterRep g Z J (zipP xs ys) :=
  ⟨_, G', _, w, by rw [zipP_length, r.length, r'.length], by omega, hG, fun i H v H' hi y => by
    obtain ⟨T, a, b, rfl, hT, rfl, ea, eb⟩ := y
    obtain ⟨x, ex, rx⟩ := r.get ea
    obtain ⟨z, ez, rz⟩ := r'.get eb
    refine ⟨.ktup [x, z], zipP_get ex ez, fun f Zc σ env q st => ⟨upd Zc T (.tup [a, b]), same_upd (st.zn hT), st.lay hT, ?_⟩⟩
    exact .ktup upd_same (by show 2 ≤ sizeLine; decide) (.cons ((rx.mono q).mono (same_upd (st.zn hT))) (.cons ((rz.mono q).mono (same_upd (st.zn hT))) .nil))⟩
def dZip (da db : Den PV) : Den (List PV) := da.bind fun x => db.bind fun y => Den.lift (match x, y with
  | .tup xs, .tup ys => some (zipP xs ys)
  | .lst xs, .lst ys => some (zipP xs ys)
  | _, _ => none)
theorem pix_zip {X : Cx} {W : WX} {a b : Expr} {da db : Den PV} {p pos tpos : Pos} {elts : List Expr} {kk : Nat} (hg : Gl X "zip") (hm : X.mg "zip" = none) (ha : PX X W a da) (hb : PX X W b db)
    (n1 : starEach [a, b] X.env = (false, eval a X.env) :: starEach [b] X.env := by rfl) (n2 : starEach [b] X.env = (false, eval b X.env) :: starEach [] X.env := by rfl) (hpl : (backTo pos (starEach [b] X.env)).any (·.1) = false := by rfl) :
    PIX X W (.Tuple elts kk tpos) (.Call (.Name "zip" p) [a, b] [] pos) (dZip da db) := piimp (pi_zipA hg hm (pa_cons ha (pa_cons hb pa_nil n2) n1) n1 hpl) fun σ H R ⟨f, Z, env, at0⟩ => by
  refine (at0.bind.imp fun u H1 ⟨Z1, env1, x, s1, r1, a1⟩ => ?_).here
  refine (a1.bind.imp fun w H2 ⟨Z2, env2, y, s2, r2, a2⟩ => ?_).here
  obtain ⟨v, e, k⟩ := a2.lift
  have r1' := r1.mono s2
  split at e
  · rename_i xs ys
    cases e
    cases r1' with
    | @tup a' vs _ ht l1 rv =>
      cases r2 with
      | @tup b' ws _ ht2 l2 rw2 =>
        exact ⟨a', b', vs, ws, rfl, .inr ⟨Same.sqt a2.st.zh ht.sqt, Same.sqt a2.st.zh ht2.sqt, k _ Z2 H2 (Same.refl _) a2.st (iter_zip l1 (walk_zipT (K := X.K) rfl) (fun H' q' => ⟨Same.sqt q' ht.sqt, Same.sqt q' ht2.sqt⟩) rv rw2)⟩⟩
  · rename_i xs ys
    cases e
    cases r1' with
    | @lst a' vs _ ht l1 rv =>
      cases r2 with
      | @lst b' ws _ ht2 l2 rw2 =>
        exact ⟨a', b', vs, ws, rfl, .inl ⟨Same.sql a2.st.zh ht, Same.sql a2.st.zh ht2, k _ Z2 H2 (Same.refl _) a2.st (iter_zip l1 (walk_zip (K := X.K) rfl) (fun H' q' => ⟨Same.sql q' ht, Same.sql q' ht2⟩) rv rw2)⟩⟩
  · cases e
end Pu
set_option Elab.async false
set_option linter.all false
set_option maxRecDepth 100000
set_option maxHeartbeats 4000000
/-! Pu, part X: list comprehensions with two fors. -/
namespace Pu
open PySem PySem.Spec PyProof.Rows L2

def lc2Loop (gx : PV → Cells → Option Cells) (dc : Den PV) (di1 : Den (List PV)) (gx1 : PV → Cells → Option Cells) (dc1 de : Den PV) (own own1 : List Nat) : List PV → List PV → Den (List PV)
  | [], acc => Den.ret acc
  | x :: xs, acc => fun e => match gx x e with
    | none => none
    | some e1 => match dc e1 with
      | some (.ok (.bl true) e2) => (match di1 e2 with
        | some (.ok ys e3) => if acc.length + ys.length ≤ 100000 then (match lcLoop gx1 dc1 de own1 ys acc (wipeE e3 own1) with
            | some (.ok acc' e4) => lc2Loop gx dc di1 gx1 dc1 de own own1 xs acc' (wipeE e4 own)
            | _ => none) else none
        | _ => none)
      | some (.ok (.bl false) e2) => lc2Loop gx dc di1 gx1 dc1 de own own1 xs acc (wipeE e2 own)
      | _ => none
def dLc2 (di : Den (List PV)) (gx : PV → Cells → Option Cells) (dc : Den PV) (di1 : Den (List PV)) (gx1 : PV → Cells → Option Cells) (dc1 de : Den PV) (own own1 : List Nat) : Den (List PV) := di.bind fun xs e => lc2Loop gx dc di1 gx1 dc1 de own own1 xs [] (wipeE e own)
section
variable {X : Cx} {W : WX} {tg it tg1 it1 elt : Expr} {ifs ifs1 : List Expr} {scope : Scope} {own : List (Str × Nat)} {vs1 : List Nat} {pos : Pos} {di di1 : Den (List PV)} {t t1 : TG} {is is1 : List Nat} {gx gx1 : PV → Cells → Option Cells} {dc dc1 de : Den PV}
/-- what a target's rule says, without the context -/
abbrev TgOk (g : G) (t : TG) (is : List Nat) (gx : PV → Cells → Option Cells) : Prop := ∀ (f : Frm) (Z : Hp) (env : Cells) (σ : L2.St) (H : Hp) (v : V) (x : PV) (env' : Cells) (Q : L2.St → Hp → Prop), StOk g f Z H σ env → Rep g Z v x → gx x env = some env' →
  (∀ σ', StOk g f Z H σ' env' → (∀ vs : List Nat, (∀ i ∈ is, i ∈ vs) → wipe σ' vs = wipe σ vs) → Q σ' H) → t v σ H Q
theorem t_lc2 {σ : L2.St} {H : Hp} {Q : VK} {own : List Nat} (hg : TgOk (gOf X) t is gx) (his : ∀ i ∈ is, i ∈ own) (hg1 : TgOk (gOf X) t1 is1 gx1) (his1 : ∀ i ∈ is1, i ∈ vs1) (hv : ∀ i ∈ vs1, i ∈ own)
    (h : tO (gOf X) W (dLc2 di gx dc di1 gx1 dc1 de own vs1) σ H Q) : tLc2 (tI (gOf X) W di) t (tB (tP (gOf X) W0 dc)) (tI (gOf X) W0 di1) t1 (tB (tP (gOf X) W0 dc1)) (tP (gOf X) W0 de) own vs1 σ H Q := by
  obtain ⟨f, Z, env, a⟩ := h
  refine ⟨f, Z, env, a.bind.imp fun J H1 ⟨Z1, env1, xs, s1, r1, a1⟩ D nD => ?_⟩
  obtain ⟨n, G', Y, w, en, lz, hG, hY⟩ := r1.ex
  obtain ⟨st1, o, eo, po⟩ := a1
  have fD : f.H D = none := st1.fH nD
  have fZD : f.Z D = none := by
    cases q : f.Z D with
    | none => rfl
    | some u => rw [st1.zh _ _ (st1.z0 _ _ q)] at nD; cases nD
  have big : 100000 < sizeLine := by decide
  let Pv : Nat → Hp → Prop := fun i H => ∃ Zi e acc vs, Same Z1 Zi ∧ H D = some (.lst vs) ∧ vs.length ≤ 100000 ∧ Reps (gOf X) Zi vs acc ∧ Zi D = none ∧ ¬ Muts (wipe σ own) (wipeE e own) D ∧ StOk (gOf X) f Zi H (wipe σ own) (wipeE e own) ∧
      lc2Loop gx dc di1 gx1 dc1 de own vs1 (xs.drop i) acc (wipeE e own) = some o
  have nm0 : ¬ Muts (wipe σ own) (wipeE env1 own) D := fun m => by
    obtain ⟨_, ⟨u, q⟩, _⟩ := (st1.wipes own).muts m
    rw [nD] at q; cases q
  have p0 : Pv 0 (upd H1 D (.lst [])) := ⟨Z1, env1, [], [], Same.refl _, upd_same, Nat.zero_le _, .nil, st1.zn nD, nm0, (st1.wipes own).new nD, eo⟩
  refine ⟨fun i m H => m = n - i ∧ i ≤ n ∧ Pv i H, ⟨n, by simp, Nat.zero_le _, p0⟩, ?_⟩
  rintro i m H ⟨rfl, hi, Zi, e, acc, vs, sz, hD, lv, rv, zD, nm, st, ei⟩
  have hGi := hG H (sz.trans st.zh)
  by_cases hlt : i < n
  · refine .inr ⟨w.goes i H hlt hGi, Pv (i + 1), fun H' p' => ⟨n - (i + 1), by omega, rfl, hlt, p'⟩, fun v H' yl => ?_⟩
    obtain ⟨x, ex, k⟩ := hY i H v H' hlt (w.yields i H v H' hlt hGi yl)
    rw [drop_at ex] at ei
    obtain ⟨Z2, s2, st2, r2⟩ := k (f.plus D (.lst vs)) Zi (wipe σ own) (wipeE e own) sz (st.plus fD hD zD nm)
    cases hgx : gx x (wipeE e own) with
    | none => simp only [lc2Loop, hgx] at ei; cases ei
    | some e1 =>
      simp only [lc2Loop, hgx] at ei
      refine hg (f.plus D (.lst vs)) Z2 (wipeE e own) (wipe σ own) H' v x e1 _ st2 r2 hgx fun σ' st3 hw => ?_
      have hw2 : wipe σ' own = wipe σ own := (hw own his).trans (wipe_twice σ own own fun _ h => h)
      refine ⟨hw2, ?_⟩
      cases hdc : dc e1 with
      | none => rw [hdc] at ei; cases ei
      | some oc =>
        rw [hdc] at ei
        cases oc with
        | ex c e2 => cases ei
        | ok b e2 =>
          cases b with
          | bl b =>
            refine ⟨f.plus D (.lst vs), Z2, e1, st3, _, hdc, fun u Z3 H3 s3 st4 r3 => ?_⟩
            cases r3
            refine ⟨b, rfl, ?_⟩
            cases b with
            | false =>
              rw [if_neg Bool.false_ne_true]
              have st5 := st4.wipes own
              rw [hw2] at st5
              obtain ⟨st6, h6, z6, m6⟩ := st5.minus st.mh fZD fD
              exact ⟨Z3, e2, acc, vs, (sz.trans s2).trans s3, h6, lv, (rv.mono s2).mono s3, z6, m6, st6, ei⟩
            | true =>
              rw [if_pos rfl]
              cases hd1 : di1 e2 with
              | none => simp only [hd1] at ei; cases ei
              | some o1 =>
                cases o1 with
                | ex c e3 => simp only [hd1] at ei; cases ei
                | ok ys e3 =>
                  simp only [hd1] at ei
                  by_cases hfew : acc.length + ys.length ≤ 100000
                  · rw [if_pos hfew] at ei
                    refine ⟨f.plus D (.lst vs), Z3, e2, st4, _, hd1, fun J1 Z4 H4 s4 st5 r4 => ?_⟩
                    obtain ⟨n1, G1, Y1, w1, en1, lz1, hG1, hY1⟩ := r4.ex
                    cases hin : lcLoop gx1 dc1 de vs1 ys acc (wipeE e3 vs1) with
                    | none => rw [hin] at ei; cases ei
                    | some oin =>
                      rw [hin] at ei
                      cases oin with
                      | ex c e4 => cases ei
                      | ok acc' e4 =>
                        have ei : lc2Loop gx dc di1 gx1 dc1 de own vs1 (xs.drop (i + 1)) acc' (wipeE e4 own) = some o := ei
                        let P1 : Nat → Hp → Prop := fun j H => ∃ Zj e ac us, Same Z4 Zj ∧ H D = some (.lst us) ∧ us.length ≤ vs.length + j ∧ Reps (gOf X) Zj us ac ∧ Zj D = none ∧ ¬ Muts (wipe σ' vs1) (wipeE e vs1) D ∧ StOk (gOf X) f Zj H (wipe σ' vs1) (wipeE e vs1) ∧
                          lcLoop gx1 dc1 de vs1 (ys.drop j) ac (wipeE e vs1) = some (.ok acc' e4)
                        have q0 : P1 0 H4 := by
                          obtain ⟨st6, h6, z6, m6⟩ := (st5.wipes vs1).minus st.mh fZD fD
                          exact ⟨Z4, e3, acc, vs, Same.refl _, h6, Nat.le_refl _, ((rv.mono s2).mono s3).mono s4, z6, m6, st6, hin⟩
                        have lva : vs.length = acc.length := rv.length
                        refine ⟨fun j m H => m = n1 - j ∧ j ≤ n1 ∧ P1 j H, ⟨n1, by simp, Nat.zero_le _, q0⟩, ?_⟩
                        rintro j m H5 ⟨rfl, hj, Zj, ej, ac, us, sz1, hD1, lu, ru, zD1, nm1, stj, el⟩
                        have hGj := hG1 H5 (sz1.trans stj.zh)
                        by_cases hlt1 : j < n1
                        · refine .inr ⟨w1.goes j H5 hlt1 hGj, P1 (j + 1), fun H' p' => ⟨n1 - (j + 1), by omega, rfl, hlt1, p'⟩, fun v1 H6 yl1 => ?_⟩
                          obtain ⟨x1, ex1, k1⟩ := hY1 j H5 v1 H6 hlt1 (w1.yields j H5 v1 H6 hlt1 hGj yl1)
                          rw [drop_at ex1] at el
                          obtain ⟨Z6, s6, st6, r6⟩ := k1 (f.plus D (.lst us)) Zj (wipe σ' vs1) (wipeE ej vs1) sz1 (stj.plus fD hD1 zD1 nm1)
                          cases hgx1 : gx1 x1 (wipeE ej vs1) with
                          | none => simp only [lcLoop, hgx1] at el; cases el
                          | some f1 =>
                            simp only [lcLoop, hgx1] at el
                            refine hg1 (f.plus D (.lst us)) Z6 (wipeE ej vs1) (wipe σ' vs1) H6 v1 x1 f1 _ st6 r6 hgx1 fun σ3 st7 hw1 => ?_
                            have hw3 : wipe σ3 vs1 = wipe σ' vs1 := (hw1 vs1 his1).trans (wipe_twice σ' vs1 vs1 fun _ h => h)
                            refine ⟨hw3, ?_⟩
                            cases hdc1 : dc1 f1 with
                            | none => rw [hdc1] at el; cases el
                            | some oc1 =>
                              rw [hdc1] at el
                              cases oc1 with
                              | ex c f2 => cases el
                              | ok b1 f2 =>
                                cases b1 with
                                | bl b1 =>
                                  refine ⟨f.plus D (.lst us), Z6, f1, st7, _, hdc1, fun u1 Z7 H7 s7 st8 r7 => ?_⟩
                                  cases r7
                                  refine ⟨b1, rfl, ?_⟩
                                  cases b1 with
                                  | false =>
                                    rw [if_neg Bool.false_ne_true]
                                    have st9 := st8.wipes vs1
                                    rw [hw3] at st9
                                    obtain ⟨st10, h10, z10, m10⟩ := st9.minus st.mh fZD fD
                                    exact ⟨Z7, f2, ac, us, (sz1.trans s6).trans s7, h10, by omega, (ru.mono s6).mono s7, z10, m10, st10, el⟩
                                  | true =>
                                    rw [if_pos rfl]
                                    cases hde : de f2 with
                                    | none => simp only [hde] at el; cases el
                                    | some oe =>
                                      cases oe with
                                      | ex c f3 => simp only [hde] at el; cases el
                                      | ok yv f3 =>
                                        simp only [hde] at el
                                        refine ⟨f.plus D (.lst us), Z7, f2, st8, _, hde, fun u4 Z8 H8 s8 st9 r8 => ?_⟩
                                        have st10 := st9.wipes vs1
                                        rw [hw3] at st10
                                        obtain ⟨st11, h11, z11, m11⟩ := st10.minus st.mh fZD fD
                                        exact ⟨us, h11, by omega, Z8, f3, ac ++ [yv], us ++ [u4], ((sz1.trans s6).trans s7).trans s8, upd_same, by rw [List.length_append, List.length_singleton]; omega,
                                          (((ru.mono s6).mono s7).mono s8).append (.cons r8 .nil), z11, m11, st11.poke fD z11 m11, el⟩
                                | _ => cases el
                        · have ej1 : j = n1 := by omega
                          subst ej1
                          rw [en1, List.drop_length] at el
                          cases el
                          have st8 := (stj.plus fD hD1 zD1 nm1).wipes own
                          rw [wipe_twice σ' own vs1 hv, hw2] at st8
                          obtain ⟨st9, h9, z9, m9⟩ := st8.minus st.mh fZD fD
                          refine .inl ⟨w1.stops H5 hGj, Zj, wipeE ej vs1, _, us, ((sz.trans s2).trans s3).trans (s4.trans sz1), h9, by omega, ru, z9, m9, st9, ei⟩
                  · rw [if_neg hfew] at ei; cases ei
          | _ => cases ei
  · have e' : i = n := by omega
    subst e'
    rw [en, List.drop_length] at ei
    cases ei
    have nm' : ¬ Muts σ (wipeE e own) D := fun ⟨j, c, ej, m, sj⟩ => by
      have nj : j ∉ own := fun h => by rw [wipeE_in h ej] at m; cases m
      exact nm ⟨j, c, ej, m, by rw [wipe_get nj]; exact sj⟩
    exact .inl ⟨w.stops H hGi, po (.ref D) Zi H sz st.unwipe ⟨D, vs, rfl, zD, hD, by omega, rv, fD, nm'⟩⟩
abbrev BX (X : Cx) (scope : Scope) (s : Shared) (H : Hp) (C : Addr) (cl : List (Str × Addr)) (fp : List Addr) : Cx := X.blk s H scope (compEnvC scope cl C X.env) fp
theorem po_lc2 (hc : X.calm = true) (hN : X.N.Nodup) (hi : PIX X W tg it di) (ok : BlkOk X.N X.env.scope scope own) (hv : ∀ i ∈ vs1, i ∈ own.map (·.2))
    (hg : ∀ s H C cl fp, PGX (BX X scope s H C cl fp) tg t is gx) (his : ∀ i ∈ is, i ∈ own.map (·.2)) (ht : ∀ s H C cl fp, PTsX (BX X scope s H C cl fp) W0 ifs dc)
    (hi1 : ∀ s H C cl fp, PIX (BX X scope s H C cl fp) W0 tg1 it1 di1) (hg1 : ∀ s H C cl fp, PGX (BX X scope s H C cl fp) tg1 t1 is1 gx1) (his1 : ∀ i ∈ is1, i ∈ vs1) (ht1 : ∀ s H C cl fp, PTsX (BX X scope s H C cl fp) W0 ifs1 dc1)
    (he : ∀ s H C cl fp, PX (BX X scope s H C cl fp) W0 elt de) (hs : ∀ x, foldedSetIterable it X.env x = pure x := by intro _; rfl) (hs1 : ∀ env x, foldedSetIterable it1 env x = pure x := by intro _ _; rfl) :
    PO' X W (.ListComp elt [⟨tg, it, ifs, 0⟩, ⟨tg1, it1, ifs1, 0⟩] scope pos) (dLc2 di gx dc di1 gx1 dc1 de (own.map (·.2)) vs1) :=
  ⟨fun pins s σ H Q I h => (pe_lc2 (tt := tB (tP (gOf X) W0 dc)) (wi1 := tI (gOf X) W0 di1) (tt1 := tB (tP (gOf X) W0 dc1)) (te := tP (gOf X) W0 de) hc hN hi ok hv (fun s H C cl fp => (hg s H C cl fp).pg) ht hi1 (fun s H C cl fp => (hg1 s H C cl fp).pg) ht1 he hs hs1).run pins s σ H Q I
    (t_lc2 (X := X) (is := is) (is1 := is1) (fun f Z env σ H v x env' Q st r e k => (hg s (fun _ => none) 0 [] []).ok f Z env σ H v x env' Q st r e k) his (fun f Z env σ H v x env' Q st r e k => (hg1 s (fun _ => none) 0 [] []).ok f Z env σ H v x env' Q st r e k) his1 hv h)⟩
/-- name = [.. for .. for ..] -/
theorem psx_setLc2 {i : Nat} {y : Str} {py spos : Pos} (hc : X.calm = true) (hN : X.N.Nodup) (hy : X.N[i]? = some y) (hyl : X.env.scope.names.lookup y = some .local) (hsw : swapsWith (.ListComp elt [⟨tg, it, ifs, 0⟩, ⟨tg1, it1, ifs1, 0⟩] scope pos) (some (.Name y py)) spos.line X.env = pure true)
    (hi : PIX X W tg it di) (ok : BlkOk X.N X.env.scope scope own) (hv : ∀ i ∈ vs1, i ∈ own.map (·.2))
    (hg : ∀ s H C cl fp, PGX (BX X scope s H C cl fp) tg t is gx) (his : ∀ i ∈ is, i ∈ own.map (·.2)) (ht : ∀ s H C cl fp, PTsX (BX X scope s H C cl fp) W0 ifs dc)
    (hi1 : ∀ s H C cl fp, PIX (BX X scope s H C cl fp) W0 tg1 it1 di1) (hg1 : ∀ s H C cl fp, PGX (BX X scope s H C cl fp) tg1 t1 is1 gx1) (his1 : ∀ i ∈ is1, i ∈ vs1) (ht1 : ∀ s H C cl fp, PTsX (BX X scope s H C cl fp) W0 ifs1 dc1)
    (he : ∀ s H C cl fp, PX (BX X scope s H C cl fp) W0 elt de) (hs : ∀ x, foldedSetIterable it X.env x = pure x := by intro _; rfl) (hs1 : ∀ env x, foldedSetIterable it1 env x = pure x := by intro _ _; rfl) :
    PSX X W (.Assign [.Name y py] (.ListComp elt [⟨tg, it, ifs, 0⟩, ⟨tg1, it1, ifs1, 0⟩] scope pos) spos) (sSet i (dLstOf (dLc2 di gx dc di1 gx1 dc1 de (own.map (·.2)) vs1))) := by
  refine ⟨fun pins s σ H D I ⟨f, Z, env, a⟩ => (ps_setLc2 (tt := tB (tP (gOf X) W0 dc)) (wi1 := tI (gOf X) W0 di1) (tt1 := tB (tP (gOf X) W0 dc1)) (te := tP (gOf X) W0 de) hc hN hy hyl hsw hi ok hv (fun s H C cl fp => (hg s H C cl fp).pg) ht hi1 (fun s H C cl fp => (hg1 s H C cl fp).pg) ht1 he hs hs1).run pins s σ H D I ?_⟩
  have hσ : i < σ.length := by rw [I.len]; exact (List.getElem?_eq_some_iff.mp hy).1
  refine t_lc2 (X := X) (is := is) (is1 := is1) (fun f Z env σ H v x env' Q st r e k => (hg s (fun _ => none) 0 [] []).ok f Z env σ H v x env' Q st r e k) his (fun f Z env σ H v x env' Q st r e k => (hg1 s (fun _ => none) 0 [] []).ok f Z env σ H v x env' Q st r e k) his1 hv ⟨f, Z, env, ?_⟩
  obtain ⟨st, o, eo, po⟩ := a
  refine ⟨st, ?_⟩
  unfold sSet sOf dLstOf Den.bind at eo
  cases hd : dLc2 di gx dc di1 gx1 dc1 de (own.map (·.2)) vs1 env with
  | none => rw [hd] at eo; cases eo
  | some o1 =>
    rw [hd] at eo
    cases o1 with
    | ex c e1 => cases eo; exact ⟨_, rfl, fun cls dd Z' H' s st' r => po cls dd σ Z' H' s st' r⟩
    | ok xs e1 =>
      cases eo
      refine ⟨_, rfl, fun u Z1 H1 s1 st1 r1 => ?_⟩
      obtain ⟨Z2, s2, st2, r2⟩ := st1.ownF r1
      exact po _ Z2 H1 (s1.trans s2) (st2.setV r2 hσ)
end
end Pu
set_option Elab.async false
set_option linter.all false
set_option maxRecDepth 100000
set_option maxHeartbeats 4000000
/-! Pu, part Y: makers and methods as what stands behind the top. -/
namespace Pu
open PySem PySem.Spec PyProof.Rows L2
/-- C(..) may be called with κ levels left -/
abbrev DefIK (P : Program) (w : World) (K : PySem.W.Frag) (mg : Str → Option Value) (base : Heap) (c : Str) (ps : List Str) (κ : Nat) (F : FnI) : Prop :=
  ∃ k, k + 1 ≤ κ ∧ ∃ (C f : Addr) (fd : FuncData), mg c = some (.ref C) ∧ Mk K C f ∧ Binds K fd ps [] ∧ FnG P w K mg base (L2.CX P w) k f fd ps (SpI ⟨K, mg⟩ c ps.length F)
/-- the method m of the class c -/
abbrev DefTK (P : Program) (w : World) (K : PySem.W.Frag) (mg : Str → Option Value) (base : Heap) (c m : Str) (ps : List Str) (κ : Nat) (F : Fn) : Prop :=
  ∃ (C f : Addr) (fd : FuncData), mg c = some (.ref C) ∧ Cls K C ∧ Meth K C m f ∧ Binds K fd ps [] ∧ FnG P w K mg base (L2.CX P w) κ f fd ps (SpP ⟨K, mg⟩ ps.length F)
section
variable {P : Program} {w : World} {K : PySem.W.Frag} {mg : Str → Option Value} {base : Heap} {c m : Str} {ps : List Str} {i j : Nat}
theorem defIK_mono {F : FnI} (h : DefIK P w K mg base c ps i F) (l : i ≤ j) : DefIK P w K mg base c ps j F := let ⟨k, a, b⟩ := h; ⟨k, Nat.le_trans a l, b⟩
theorem defTK_mono {F : Fn} (h : DefTK P w K mg base c m ps i F) (l : i ≤ j) : DefTK P w K mg base c m ps j F := let ⟨C, f, fd, a, b, d, e, g⟩ := h; ⟨C, f, fd, a, b, d, e, g.mono l⟩
end
section
variable {X : Cx} {W : WX} {κ : Nat} {c : Str} {ps : List Str} {F : FnI} {p pos : Pos} {e : Expr} {es : List Expr} {ds : Den (List PV)}
theorem px_makeK (D : DefIK X.prog X.w X.K X.mg X.base c ps κ F) (tk : Takes X W) (hr : RoomG κ X.A) (hg : Gl X c) (ha : PAX X W (e :: es) ds) {n : Nat} (hl : Len ds n) (hn : n + 1 = ps.length := by rfl) (hdb : (c == ("__debug__" : Str)) = false := by decide)
    (he : starEach (e :: es) X.env = (false, eval e X.env) :: starEach es X.env := by rfl) (hpl : (backTo pos (starEach es X.env)).any (·.1) = false := by rfl) : PX X W (.Call (.Name c p) (e :: es) [] pos) (dMake c F ds) := by
  obtain ⟨k, hk, D⟩ := D
  exact px_make ⟨D⟩ tk (hr.mono hk) hg ha hl hn hdb he hpl
end
theorem clsF_all {K : PySem.W.Frag} {mg : Str → Option Value} {c f : Str} {C : Addr} (g : mg c = some (.ref C)) (h : Cls K C) (n : NoAttr K C f) : ClsF K mg c [f] := ⟨C, g, h, fun x hx => by rw [List.mem_singleton.mp hx]; exact n⟩
theorem cls_nil {K : PySem.W.Frag} {mg : Str → Option Value} {f : Str} : ∀ c ∈ ([] : List Str), ClsF K mg c [f] := fun c h => by cases h
theorem cls_cons {K : PySem.W.Frag} {mg : Str → Option Value} {f c : Str} {cs : List Str} (a : ClsF K mg c [f]) (h : ∀ c ∈ cs, ClsF K mg c [f]) : ∀ d ∈ c :: cs, ClsF K mg d [f] := fun d hd => by
  rcases List.mem_cons.mp hd with e | e
  · rw [e]; exact a
  · exact h d e
end Pu
set_option Elab.async false
set_option linter.all false
set_option maxRecDepth 100000
set_option maxHeartbeats 4000000
/-! Pm, part A: how dens are worked out. -/
namespace Pu
open PySem L2
section
variable {α β : Type}
@[simp] theorem bind_at (d : Den α) (k : α → Den β) (e : Cells) : d.bind k e = match d e with
  | none => none
  | some (.ex c e') => some (.ex c e')
  | some (.ok a e') => k a e' := rfl
@[simp] theorem lift_at (o : Option α) (e : Cells) : Den.lift o e = match o with
  | none => none
  | some a => some (.ok a e) := rfl
@[simp] theorem ret_at (a : α) (e : Cells) : Den.ret a e = some (.ok a e) := rfl
@[simp] theorem sOf_at (d : Den α) (k : α → SDen) (e : Cells) : sOf d k e = match d e with
  | none => none
  | some (.ex c e') => some (.ex c e')
  | some (.ok a e') => k a e' := rfl
end
@[simp] theorem var_at (i : Nat) (e : Cells) : dVar i e = match e[i]? with
  | some (.v x) => some (.ok x e)
  | _ => none := rfl
@[simp] theorem seq_at (a b : SDen) (e : Cells) : sSeq a b e = match a e with
  | some (.nx e') => b e'
  | o => o := rfl
@[simp] theorem next_at (e : Cells) : sNext e = some (.nx e) := rfl
@[simp] theorem set_at (i : Nat) (d : Den PV) (e : Cells) : sSet i d e = match d e with
  | none => none
  | some (.ex c e') => some (.ex c e')
  | some (.ok a e') => some (.nx (e'.set i (.v a))) := by
  unfold sSet; rw [sOf_at]; rcases d e with _ | (_ | _) <;> rfl
@[simp] theorem ret_st (d : Den PV) (e : Cells) : sRet d e = match d e with
  | none => none
  | some (.ex c e') => some (.ex c e')
  | some (.ok a e') => some (.rt a e') := by
  unfold sRet; rw [sOf_at]; rcases d e with _ | (_ | _) <;> rfl
@[simp] theorem drop_st (d : Den PV) (e : Cells) : sDrop d e = match d e with
  | none => none
  | some (.ex c e') => some (.ex c e')
  | some (.ok _ e') => some (.nx e') := by
  unfold sDrop; rw [sOf_at]; rcases d e with _ | (_ | _) <;> rfl
@[simp] theorem if_at (c : Den PV) (a b : SDen) (e : Cells) : sIf c a b e = match c e with
  | none => none
  | some (.ex c e') => some (.ex c e')
  | some (.ok (.bl t) e') => if t then a e' else b e'
  | some (.ok _ e') => none := by
  unfold sIf
  rw [sOf_at]
  rcases d0 : c e with _ | (⟨x, e1⟩ | ⟨x, e1⟩)
  · rfl
  · cases x <;> first | rfl | (rename_i b; cases b <;> rfl)
  · rfl
@[simp] theorem bool_at {α : Type} (d : Den PV) (k : Bool → Den α) (e : Cells) : dBool d k e = match d e with
  | none => none
  | some (.ex c e') => some (.ex c e')
  | some (.ok (.bl t) e') => k t e'
  | some (.ok _ e') => none := by
  unfold dBool
  rw [bind_at]
  rcases d0 : d e with _ | (⟨x, e1⟩ | ⟨x, e1⟩)
  · rfl
  · cases x <;> first | rfl | (rename_i b; cases b <;> rfl)
  · rfl
@[simp] theorem callK_at (F : Fn) (xs : List PV) (e : Cells) : callK F xs e = match F xs with
  | none => none
  | some (.ok r) => some (.ok r e)
  | some (.error c) => some (.ex c e) := rfl
/-! equal data -/
@[simp] theorem eq_int (i j : Int) : pvEq (.int i) (.int j) = decide (i = j) := by
  show (i == j) = _
  by_cases h : i = j <;> simp [h]
@[simp] theorem eq_str (i j : Str) : pvEq (.str i) (.str j) = decide (i = j) := by
  show (i == j) = _
  by_cases h : i = j <;> simp [h]
@[simp] theorem eq_bl (i j : Bool) : pvEq (.bl i) (.bl j) = (i == j) := rfl
@[simp] theorem fit_int (i : Int) : (PV.int i).fit = true := rfl
@[simp] theorem fit_str (i : Str) : (PV.str i).fit = true := rfl
@[simp] theorem fit_bl (i : Bool) : (PV.bl i).fit = true := rfl
@[simp] theorem fit_non : PV.non.fit = true := rfl
@[simp] theorem qEq_int (i j : Int) : qEq (.int i) (.int j) = some (.bl (decide (i = j))) := by
  unfold qEq; simp
@[simp] theorem qEq_str (i j : Str) : qEq (.str i) (.str j) = some (.bl (decide (i = j))) := by
  unfold qEq; simp
@[simp] theorem qNe_int (i j : Int) : qNe (.int i) (.int j) = some (.bl (!decide (i = j))) := by
  unfold qNe; simp
@[simp] theorem qI_int (k : Int → Int → Option Int) (i j : Int) : qI k (.int i) (.int j) = (k i j).map .int := rfl
@[simp] theorem qB_int (k : Int → Int → Bool) (i j : Int) : qB k (.int i) (.int j) = some (.bl (k i j)) := rfl
section
variable {q q' : PV → PV → Option PV} {da db dc : Den PV} {F : Fn} {dv : List PV} {ds : Den (List PV)} {d : Den PV} {α : Type} {qa : List PV → Option α} {u : PV → Option PV} {dl : Den (List PV)} {dk : Den KP}
@[simp] theorem dOp_eq (e : Cells) : dOp q da db e = (da.bind fun x => db.bind fun y => Den.lift (q x y)) e := rfl
@[simp] theorem dAnd_eq (e : Cells) : dAnd da db e = (dBool da fun b => if b then db else Den.ret (.bl false)) e := rfl
@[simp] theorem dOr_eq (e : Cells) : dOr da db e = (dBool da fun b => if b then Den.ret (.bl true) else db) e := rfl
@[simp] theorem dNot_eq (e : Cells) : dNot da e = (dBool da fun b => Den.ret (.bl (!b))) e := rfl
@[simp] theorem dIf_eq (e : Cells) : dIf dc da db e = (dBool dc fun b => if b then da else db) e := rfl
@[simp] theorem dCall_eq (e : Cells) : dCall F dv ds e = (ds.bind fun xs => callK F (xs ++ dv)) e := rfl
@[simp] theorem dCons_eq (e : Cells) : dCons d ds e = (d.bind fun x => ds.bind fun xs => Den.ret (x :: xs)) e := rfl
@[simp] theorem dNil_eq (e : Cells) : dNil e = (Den.ret []) e := rfl
@[simp] theorem dTup_eq (e : Cells) : dTup ds e = (ds.bind fun xs => Den.lift (if xs.length ≤ 1000 then some (.tup xs) else none)) e := rfl
@[simp] theorem dArgs_eq (e : Cells) : dArgs qa ds e = (ds.bind fun xs => Den.lift (qa xs)) e := rfl
@[simp] theorem dUn_eq (e : Cells) : dUn u da e = (da.bind fun x => Den.lift (u x)) e := rfl
@[simp] theorem dLstOf_eq (e : Cells) : dLstOf dl e = (dl.bind fun xs => Den.ret (.lst xs)) e := rfl
@[simp] theorem dDicOf_eq (e : Cells) : dDicOf dk e = (dk.bind fun kps => Den.ret (PV.dicOf kps)) e := rfl
@[simp] theorem dShort_eq (e : Cells) : dShort dl e = (dl.bind fun xs => Den.lift (if xs.length ≤ 1000 then some xs else none)) e := rfl
@[simp] theorem dAdd_eq (e : Cells) : dAdd da db e = (da.bind fun x => db.bind fun y => Den.lift (qAddG x y)) e := rfl
@[simp] theorem dChain_eq (e : Cells) : dChain q q' da db dc e = (da.bind fun x => db.bind fun y => dBool (Den.lift (q x y)) fun z => if z then dc.bind fun w => Den.lift (q' y w) else Den.ret (.bl false)) e := rfl
end

/-! ### texts, items, slices -/
theorem char_inj {a b : Char} (h : a.toNat = b.toNat) : a = b := by
  apply Char.ext
  apply UInt32.toNat_inj.mp
  exact h
theorem map_toNat_inj : ∀ {a b : List Char}, a.map Char.toNat = b.map Char.toNat → a = b
  | [], [], _ => rfl
  | [], _ :: _, h => by cases h
  | _ :: _, [], h => by cases h
  | x :: a, y :: b, h => by
    rw [List.map_cons, List.map_cons] at h
    rw [char_inj (List.cons.inj h).1, map_toNat_inj (List.cons.inj h).2]
@[simp] theorem ofString_inj (a b : String) : (Str.ofString a = Str.ofString b) = (a = b) := by
  refine propext ⟨fun h => ?_, fun h => by rw [h]⟩
  rw [Str.ofString_eq_toList, Str.ofString_eq_toList] at h
  have h := congrArg Str.cps h
  have h := Array.mk.inj h
  exact String.toList_inj.mp (map_toNat_inj h)
theorem atI_nat {α : Type} (xs : List α) (n : Nat) : atI xs (n : Int) = xs[n]? := by
  unfold atI ixN
  rw [if_pos (Int.natCast_nonneg n)]
  by_cases h : n < xs.length
  · rw [if_pos (by omega)]
    simp
  · rw [if_neg (by omega)]
    simp only [Option.bind_none]
    rw [List.getElem?_eq_none (by omega)]
@[simp] theorem atI_lit {α : Type} (xs : List α) (n : Nat) : atI xs (no_index (@OfNat.ofNat Int n _)) = xs[n]? := atI_nat xs n
@[simp] theorem atI_cast {α : Type} (xs : List α) (n : Nat) : atI xs (n : Int) = xs[n]? := atI_nat xs n
@[simp] theorem qIx_tup (xs : List PV) (i : Int) : qIx (.tup xs) (.int i) = atI xs i := rfl
@[simp] theorem qIx_ktup (xs : List PV) (i : Int) : qIx (.ktup xs) (.int i) = atI xs i := rfl
@[simp] theorem qIx_lst (xs : List PV) (i : Int) : qIx (.lst xs) (.int i) = atI xs i := rfl
theorem cut_from {α : Type} (xs : List α) (n : Nat) : cutP xs (some (n : Int)) none = xs.drop n := by
  unfold cutP
  rw [HT.sIx_nat, HT.sIx_none]
  by_cases h : n ≤ xs.length
  · rw [Nat.min_eq_left h, List.take_of_length_le (by rw [List.length_drop]; exact Nat.le_refl _)]
  · have h : xs.length ≤ n := by omega
    rw [Nat.min_eq_right h, Nat.sub_self, List.take_zero, List.drop_of_length_le h]
theorem cut_to {α : Type} (xs : List α) (n : Nat) : cutP xs none (some (n : Int)) = xs.take n := by
  unfold cutP
  rw [HT.sIx_nat, HT.sIx_none, List.drop_zero, Nat.sub_zero]
  by_cases h : n ≤ xs.length
  · rw [Nat.min_eq_left h]
  · have h : xs.length ≤ n := by omega
    rw [Nat.min_eq_right h, List.take_of_length_le (Nat.le_refl _), List.take_of_length_le h]
@[simp] theorem cut_from_lit {α : Type} (xs : List α) (n : Nat) : cutP xs (some (no_index (@OfNat.ofNat Int n _))) none = xs.drop n := cut_from xs n
@[simp] theorem cut_to_lit {α : Type} (xs : List α) (n : Nat) : cutP xs none (some (no_index (@OfNat.ofNat Int n _))) = xs.take n := cut_to xs n
@[simp] theorem cut_from_cast {α : Type} (xs : List α) (n : Nat) : cutP xs (some (n : Int)) none = xs.drop n := cut_from xs n
@[simp] theorem cut_to_cast {α : Type} (xs : List α) (n : Nat) : cutP xs none (some (n : Int)) = xs.take n := cut_to xs n
@[simp] theorem qSl_tup (lo hi : Option Int) (xs : List PV) : qSl lo hi (.tup xs) = some (.tup (cutP xs lo hi)) := rfl
@[simp] theorem qSl_lst (lo hi : Option Int) (xs : List PV) : qSl lo hi (.lst xs) = some (.lst (cutP xs lo hi)) := rfl
@[simp] theorem dSl_eq (da : Den PV) (lo hi : Option (Den PV)) (e : Cells) : dSl da lo hi e = (da.bind fun x => (dPart lo).bind fun l => (dPart hi).bind fun h => Den.lift (qSl l h x)) e := rfl
@[simp] theorem dPart_none (e : Cells) : dPart none e = some (.ok none e) := rfl
@[simp] theorem dPart_some_eq (d : Den PV) (e : Cells) : dPart (some d) e = (d.bind fun x => Den.lift (match x with | .int i => some (some i) | _ => none)) e := rfl
@[simp] theorem qAddG_int (i j : Int) : qAddG (.int i) (.int j) = some (.int (i + j)) := rfl
@[simp] theorem qLen_tup (xs : List PV) : qLen [.tup xs] = some (.int xs.length) := rfl
@[simp] theorem qLen_ktup (xs : List PV) : qLen [.ktup xs] = some (.int xs.length) := rfl
@[simp] theorem qLen_lst (xs : List PV) : qLen [.lst xs] = some (.int xs.length) := rfl
@[simp] theorem qInt_int (i : Int) : qInt [.int i] = some (.int i) := rfl
@[simp] theorem qTuple_lst (xs : List PV) : qTuple [.lst xs] = some (.tup xs) := rfl
@[simp] theorem qTuple_tup (xs : List PV) : qTuple [.tup xs] = some (.tup xs) := rfl
@[simp] theorem qList_tup (xs : List PV) : qList [.tup xs] = some xs := rfl
@[simp] theorem qList_lst (xs : List PV) : qList [.lst xs] = some xs := rfl
/-! ### changing lists -/
@[simp] theorem ixM_at (i : Nat) (db : Den PV) (e : Cells) : dIxM i db e = match e[i]? with
  | some (.m _ _) => db.bind (fun y e1 => match e1[i]?, y with
    | some (.m _ xs), .int j => (match atI xs j with
      | some v => some (.ok v e1)
      | none => none)
    | _, _ => none) e
  | _ => none := rfl
@[simp] theorem setIxM_at (i : Nat) (dv dk : Den PV) (e : Cells) : sSetIxM i dv dk e = sOf dv (fun v e0 => match e0[i]? with
  | some (.m _ _) => sOf dk (fun k e => match e[i]?, k with
    | some (.m own xs), .int j => (match ixN xs.length j with
      | some n => some (.nx (e.set i (.m own (xs.set n v))))
      | none => none)
    | _, _ => none) e0
  | _ => none) e := rfl
theorem ixN_nat (l n : Nat) : ixN l (n : Int) = if n < l then some n else none := by
  unfold ixN
  rw [if_pos (Int.natCast_nonneg n)]
  by_cases h : n < l
  · rw [if_pos (by omega), if_pos h]; simp
  · rw [if_neg (by omega), if_neg h]
@[simp] theorem ixN_lit (l n : Nat) : ixN l (no_index (@OfNat.ofNat Int n _)) = if n < l then some n else none := ixN_nat l n
end Pu
set_option Elab.async false
set_option linter.all false
set_option maxRecDepth 100000
set_option maxHeartbeats 4000000
/-! Pm, part B: loops and comprehensions worked out; bits; the rest of the tables. -/
namespace Pu
open PySem L2

/-! ### comprehensions -/
/-- one turn: what is put in, the cells behind it -/
def lcTurn (gx : PV → Cells → Option Cells) (dc de : Den PV) (own : List Nat) (x : PV) (e : Cells) : Option (Option PV × Cells) := match gx x e with
  | none => none
  | some e1 => match dc e1 with
    | some (.ok (.bl true) e2) => (match de e2 with
      | some (.ok y e3) => some (some y, wipeE e3 own)
      | _ => none)
    | some (.ok (.bl false) e2) => some (none, wipeE e2 own)
    | _ => none
section
variable {gx : PV → Cells → Option Cells} {dc de dk dv : Den PV} {own : List Nat}
theorem lc_cons (x : PV) (xs acc : List PV) (e : Cells) : lcLoop gx dc de own (x :: xs) acc e = match lcTurn gx dc de own x e with
    | some (some y, e') => lcLoop gx dc de own xs (acc ++ [y]) e'
    | some (none, e') => lcLoop gx dc de own xs acc e'
    | none => none := by
  unfold lcTurn
  show (match gx x e with | none => none | some e1 => _) = _
  cases gx x e with
  | none => rfl
  | some e1 =>
    simp only
    rcases dc e1 with _ | (⟨b, e2⟩ | ⟨c, e2⟩)
    · rfl
    · cases b with
      | bl b =>
        cases b with
        | true =>
          simp only
          rcases de e2 with _ | (⟨y, e3⟩ | ⟨c, e3⟩) <;> rfl
        | false => rfl
      | _ => rfl
    · rfl
theorem lc_nil (acc : List PV) (e : Cells) : lcLoop gx dc de own [] acc e = some (.ok acc e) := rfl
/-- nothing is changed -/
theorem lc_pure (p : PV → Bool) (f : PV → PV) (e : Cells) : ∀ (xs acc : List PV), (∀ x ∈ xs, lcTurn gx dc de own x e = some (if p x = true then some (f x) else none, e)) → lcLoop gx dc de own xs acc e = some (.ok (acc ++ (xs.filter p).map f) e)
  | [], acc, _ => by rw [lc_nil, List.filter_nil, List.map_nil, List.append_nil]
  | x :: xs, acc, h => by
    rw [lc_cons, h x List.mem_cons_self]
    have ih := fun acc => lc_pure p f e xs acc fun y hy => h y (List.mem_cons_of_mem _ hy)
    by_cases c : p x = true
    · rw [if_pos c]
      simp only
      rw [ih, List.filter_cons_of_pos c, List.map_cons, List.append_assoc]
      rfl
    · rw [if_neg c]
      simp only
      rw [ih, List.filter_cons_of_neg c]
/-- cells change, what is put in is what is walked -/
theorem lc_some (I : Cells → Prop) : ∀ (xs acc : List PV) (e : Cells), I e → (∀ x ∈ xs, ∀ e, I e → ∃ o e', lcTurn gx dc de own x e = some (o, e') ∧ I e' ∧ (o = none ∨ o = some x)) → ∃ ys e', lcLoop gx dc de own xs acc e = some (.ok (acc ++ ys) e') ∧ I e' ∧ ys.Sublist xs
  | [], acc, e, i, _ => ⟨[], e, by rw [lc_nil, List.append_nil], i, List.Sublist.refl _⟩
  | x :: xs, acc, e, i, h => by
    obtain ⟨o, e', h1, h2, h3⟩ := h x List.mem_cons_self e i
    rw [lc_cons, h1]
    rcases h3 with rfl | rfl
    · obtain ⟨ys, e2, k1, k2, k3⟩ := lc_some I xs acc e' h2 fun y hy => h y (List.mem_cons_of_mem _ hy)
      exact ⟨ys, e2, k1, k2, k3.cons x⟩
    · obtain ⟨ys, e2, k1, k2, k3⟩ := lc_some I xs (acc ++ [x]) e' h2 fun y hy => h y (List.mem_cons_of_mem _ hy)
      exact ⟨x :: ys, e2, by simp only; rw [k1, List.append_assoc]; rfl, k2, k3.cons_cons x⟩
/-- the same with what is put in told by a relation -/
theorem lc_rel (I : Cells → Prop) (P : PV → Prop) : ∀ (xs acc : List PV) (e : Cells), I e → (∀ x ∈ xs, ∀ e, I e → ∃ o e', lcTurn gx dc de own x e = some (o, e') ∧ I e' ∧ (∀ y, o = some y → P y)) →
    ∃ ys e', lcLoop gx dc de own xs acc e = some (.ok (acc ++ ys) e') ∧ I e' ∧ (∀ y ∈ ys, P y) ∧ ys.length ≤ xs.length
  | [], acc, e, i, _ => ⟨[], e, by rw [lc_nil, List.append_nil], i, fun _ h => (List.not_mem_nil h).elim, Nat.le_refl _⟩
  | x :: xs, acc, e, i, h => by
    obtain ⟨o, e', h1, h2, h3⟩ := h x List.mem_cons_self e i
    rw [lc_cons, h1]
    cases o with
    | none =>
      obtain ⟨ys, e2, k1, k2, k3, k4⟩ := lc_rel I P xs acc e' h2 fun y hy => h y (List.mem_cons_of_mem _ hy)
      exact ⟨ys, e2, k1, k2, k3, Nat.le_succ_of_le k4⟩
    | some y =>
      obtain ⟨ys, e2, k1, k2, k3, k4⟩ := lc_rel I P xs (acc ++ [y]) e' h2 fun y hy => h y (List.mem_cons_of_mem _ hy)
      refine ⟨y :: ys, e2, by simp only; rw [k1, List.append_assoc]; rfl, k2, fun z hz => ?_, Nat.succ_le_succ k4⟩
      rcases List.mem_cons.mp hz with rfl | hz
      · exact h3 _ rfl
      · exact k3 z hz
@[simp] theorem dLc_at (di : Den (List PV)) (e : Cells) : dLc di gx dc de own e = match di e with
    | none => none
    | some (.ex c e') => some (.ex c e')
    | some (.ok xs e') => lcLoop gx dc de own xs [] (wipeE e' own) := by
  unfold dLc; rw [bind_at]; rcases di e with _ | (_ | _) <;> rfl
def dcTurn (gx : PV → Cells → Option Cells) (dc dk dv : Den PV) (own : List Nat) (x : PV) (e : Cells) : Option (Option (Key × PV) × Cells) := match gx x e with
  | none => none
  | some e1 => match dc e1 with
    | some (.ok (.bl true) e2) => (match dk e2 with
      | some (.ok y e3) => (match dv e3 with
        | some (.ok z e4) => (match y.key with
          | some k => some (some (k, z), wipeE e4 own)
          | none => none)
        | _ => none)
      | _ => none)
    | some (.ok (.bl false) e2) => some (none, wipeE e2 own)
    | _ => none
theorem dc_cons (x : PV) (xs : List PV) (acc : KP) (e : Cells) : dcLoop gx dc dk dv own (x :: xs) acc e = match dcTurn gx dc dk dv own x e with
    | some (some y, e') => dcLoop gx dc dk dv own xs (putP acc y.1 y.2) e'
    | some (none, e') => dcLoop gx dc dk dv own xs acc e'
    | none => none := by
  unfold dcTurn
  show (match gx x e with | none => none | some e1 => _) = _
  cases gx x e with
  | none => rfl
  | some e1 =>
    simp only
    rcases dc e1 with _ | (⟨b, e2⟩ | ⟨c, e2⟩)
    · rfl
    · cases b with
      | bl b =>
        cases b with
        | true =>
          simp only
          rcases dk e2 with _ | (⟨y, e3⟩ | ⟨c, e3⟩)
          · rfl
          · simp only
            rcases dv e3 with _ | (⟨z, e4⟩ | ⟨c, e4⟩)
            · rfl
            · simp only
              cases y.key <;> rfl
            · rfl
          · rfl
        | false => rfl
      | _ => rfl
    · rfl
theorem dc_nil (acc : KP) (e : Cells) : dcLoop gx dc dk dv own [] acc e = some (.ok acc e) := rfl
def putsP (acc : KP) (kvs : KP) : KP := kvs.foldl (fun a kv => putP a kv.1 kv.2) acc
theorem dc_pure (p : PV → Bool) (f : PV → Key × PV) (e : Cells) : ∀ (xs : List PV) (acc : KP), (∀ x ∈ xs, dcTurn gx dc dk dv own x e = some (if p x = true then some (f x) else none, e)) → dcLoop gx dc dk dv own xs acc e = some (.ok (putsP acc ((xs.filter p).map f)) e)
  | [], acc, _ => rfl
  | x :: xs, acc, h => by
    rw [dc_cons, h x List.mem_cons_self]
    have ih := fun acc => dc_pure p f e xs acc fun y hy => h y (List.mem_cons_of_mem _ hy)
    by_cases c : p x = true
    · rw [if_pos c]
      simp only
      rw [ih, List.filter_cons_of_pos c, List.map_cons]
      rfl
    · rw [if_neg c]
      simp only
      rw [ih, List.filter_cons_of_neg c]
@[simp] theorem dDc_at (di : Den (List PV)) (e : Cells) : dDc di gx dc dk dv own e = match di e with
    | none => none
    | some (.ex c e') => some (.ex c e')
    | some (.ok xs e') => dcLoop gx dc dk dv own xs [] (wipeE e' own) := by
  unfold dDc; rw [bind_at]; rcases di e with _ | (_ | _) <;> rfl
/-! ### for -/
variable {body : SDen}
@[simp] theorem sFor_at (di : Den (List PV)) (e : Cells) : sFor di gx body e = match di e with
    | none => none
    | some (.ex c e') => some (.ex c e')
    | some (.ok xs e') => sLoop gx body xs e' := by
  unfold sFor; rw [sOf_at]; rcases di e with _ | (_ | _) <;> rfl
def sTurn (gx : PV → Cells → Option Cells) (body : SDen) (x : PV) (e : Cells) : Option SOut := match gx x e with
  | none => none
  | some e1 => body e1
theorem loop_cons (x : PV) (xs : List PV) (e : Cells) : sLoop gx body (x :: xs) e = match sTurn gx body x e with
    | some (.nx e2) => sLoop gx body xs e2
    | some (.ct e2) => sLoop gx body xs e2
    | some (.bk e2) => some (.nx e2)
    | o => o := by
  unfold sTurn
  show (match gx x e with | none => none | some e1 => _) = _
  cases gx x e with
  | none => rfl
  | some e1 =>
    (simp only) <;> (rcases body e1 with _ | o) <;> first | rfl | (cases o <;> rfl)
theorem loop_nil (e : Cells) : sLoop gx body [] e = some (.nx e) := rfl
/-- an invariant; no turn leaves -/
theorem loop_inv (I : List PV → Cells → Prop) : ∀ (xs : List PV) (e : Cells), I xs e → (∀ x xs e, I (x :: xs) e → ∃ e', (sTurn gx body x e = some (.nx e') ∨ sTurn gx body x e = some (.ct e')) ∧ I xs e') → ∃ e', sLoop gx body xs e = some (.nx e') ∧ I [] e'
  | [], e, i, _ => ⟨e, rfl, i⟩
  | x :: xs, e, i, h => by
    obtain ⟨e', h1, h2⟩ := h x xs e i
    rw [loop_cons]
    rcases h1 with h1 | h1 <;> rw [h1] <;> exact loop_inv I xs e' h2 h
end
@[simp] theorem gxN_at (i : Nat) (x : PV) (e : Cells) : gxN i x e = if i < e.length then some (e.set i (.v x)) else none := rfl
@[simp] theorem gxT_tup (n : Nat) (r : List PV → Cells → Option Cells) (xs : List PV) (e : Cells) : gxT n r (.tup xs) e = if xs.length = n then r xs e else none := rfl
@[simp] theorem gxT_ktup (n : Nat) (r : List PV → Cells → Option Cells) (xs : List PV) (e : Cells) : gxT n r (.ktup xs) e = if xs.length = n then r xs e else none := rfl
@[simp] theorem gxCons_at (gx : PV → Cells → Option Cells) (r : List PV → Cells → Option Cells) (x : PV) (xs : List PV) (e : Cells) : gxCons gx r (x :: xs) e = (gx x e).bind (r xs) := rfl
@[simp] theorem gxNil_at (e : Cells) : gxNil [] e = some e := rfl
@[simp] theorem wipeE_nil (e : Cells) : wipeE e [] = e := rfl
@[simp] theorem wipeE_cons (e : Cells) (v : Nat) (vs : List Nat) : wipeE e (v :: vs) = (wipeE e vs).set v .un := rfl
@[simp] theorem dSeq_eq (da : Den PV) (e : Cells) : dSeq da e = (da.bind fun x => Den.lift x.seq) e := rfl
@[simp] theorem seq_tup (xs : List PV) : (PV.tup xs).seq = some xs := rfl
@[simp] theorem seq_ktup (xs : List PV) : (PV.ktup xs).seq = some xs := rfl
@[simp] theorem seq_lst (xs : List PV) : (PV.lst xs).seq = some xs := rfl
@[simp] theorem dEnum_eq (da : Den PV) (e : Cells) : dEnum da e = (da.bind fun x => Den.lift (x.items.map enumP)) e := rfl
@[simp] theorem items_tup (xs : List PV) : (PV.tup xs).items = some xs := rfl
@[simp] theorem items_lst (xs : List PV) : (PV.lst xs).items = some xs := rfl
@[simp] theorem items_ktup (xs : List PV) : (PV.ktup xs).items = some xs := rfl
@[simp] theorem dRg_at (da : Den PV) (e : Cells) : dRg da e = match da e with
    | none => none
    | some (.ex c e') => some (.ex c e')
    | some (.ok x e') => Den.lift (match x with | .int n => if -16777216 ≤ n ∧ n ≤ 16777216 then some (rgP n) else none | _ => none) e' := by
  unfold dRg; rw [bind_at]; rcases da e with _ | (_ | _) <;> rfl
@[simp] theorem sPar_at (i j : Nat) (da db : Den PV) (e : Cells) : sPar i j da db e = (sOf da fun x => sOf db fun y e => if i < e.length ∧ j < e.length then some (.nx ((e.set i (.v x)).set j (.v y))) else none) e := rfl
@[simp] theorem raise_at (c : Str) (e : Cells) : sRaise c e = some (.ex ⟨c, [], []⟩ e) := rfl
@[simp] theorem tryIs_at (cn : Str) (i : Nat) (db : SDen) (e : Cells) : sTryIs cn i db e = match db e with
  | some (.ex c e) => if c.c = cn ∧ c.ns = [] ∧ c.vs = [] ∧ i < e.length then some (.nx (e.set i .un)) else none
  | o => o := rfl
@[simp] theorem setM_at (i : Nat) (d : Den (List PV)) (e : Cells) : sSetM i d e = (sOf d fun v e => some (.nx (e.set i (.m true v)))) e := rfl
@[simp] theorem setD_at (i : Nat) (d : Den KP) (e : Cells) : sSetD i d e = (sOf d fun v e => some (.nx (e.set i (.dOf true v)))) e := rfl
@[simp] theorem freeze_at (i : Nat) (e : Cells) : dFreeze i e = match e[i]? with
  | some (.m true xs) => some (.ok (.lst xs) (e.set i (.v (.lst xs))))
  | _ => none := rfl
@[simp] theorem freezeD_at (i : Nat) (e : Cells) : dFreezeD i e = match e[i]? with
  | some (.d true ks vs) => some (.ok (.dic ks vs) (e.set i (.v (.dic ks vs))))
  | _ => none := rfl
@[simp] theorem appM_at (i : Nat) (da : Den PV) (e : Cells) : dAppM i da e = match e[i]? with
  | some (.m _ _) => da.bind (fun y e1 => match e1[i]? with
    | some (.m own xs) => if xs.length < sizeLine then some (.ok .non (e1.set i (.m own (xs ++ [y])))) else none
    | _ => none) e
  | _ => none := rfl
@[simp] theorem updM_at (i : Nat) (da : Den PV) (e : Cells) : dUpdM i da e = match e[i]? with
  | some (.d _ _ _) => da.bind (fun y e1 => match e1[i]?, y with
    | some (.d own ks vs), .dic ks' vs' => if ks.length + ks'.length ≤ sizeLine then some (.ok .non (e1.set i (.dOf own (mergeP (ks.zip vs) (ks'.zip vs'))))) else none
    | _, _ => none) e
  | _ => none := rfl
@[simp] theorem callM_at (i : Nat) (F : FnM) (ds : Den (List PV)) (e : Cells) : dCallM i F ds e = match e[i]? with
  | some (.m _ _) => ds.bind (fun args e1 => match e1[i]? with
    | some (.m own xs) => (match F xs args with
      | some (r, ys) => some (.ok r (e1.set i (.m own ys)))
      | none => none)
    | _ => none) e
  | _ => none := rfl
@[simp] theorem callO_eq (F : FnO) (ds : Den (List PV)) (e : Cells) : dCallO F ds e = (ds.bind fun xs => Den.lift (F xs)) e := rfl
@[simp] theorem indexT_at (da db : Den PV) (e : Cells) : dIndexT da db e = match da e with
    | none => none
    | some (.ex c e') => some (.ex c e')
    | some (.ok (.tup xs) e') => (db.bind fun y => Den.lift (qIndex (.tup xs) y)) e'
    | some (.ok _ _) => none := by
  unfold dIndexT
  rw [bind_at]
  rcases da e with _ | (⟨x, e1⟩ | ⟨x, e1⟩)
  · rfl
  · cases x <;> rfl
  · rfl
@[simp] theorem isT_eq (T : String) (da : Den PV) (e : Cells) : dIsT T da e = (da.bind fun x => Den.lift (if x.ty ≠ "" then some (.bl (isT T x)) else none)) e := rfl
/-! ### bits -/
theorem bitAnd_one (x : Int) : Builtin.bitAnd x 1 = x % 2 := by
  exact PyProof.Rows.bitAnd_m1 x
end Pu
set_option Elab.async false
set_option linter.all false
set_option maxRecDepth 100000
set_option maxHeartbeats 4000000
/-! Pm, part C: equal data, dicts with plain keys, steps. -/
namespace Pu
open PySem L2

/-! ### steps -/
theorem seq_nx {a b : SDen} {e e' : Cells} {o : Option SOut} (h : a e = some (.nx e')) (k : b e' = o) : sSeq a b e = o := by rw [seq_at, h]; exact k
theorem seq_rt {a b : SDen} {e e' : Cells} {v : PV} (h : a e = some (.rt v e')) : sSeq a b e = some (.rt v e') := by rw [seq_at, h]
theorem if_f {c : Den PV} {a b : SDen} {e e' : Cells} {o : Option SOut} (h : c e = some (.ok (.bl false) e')) (k : b e' = o) : sIf c a b e = o := by rw [if_at, h]; exact k
theorem if_t {c : Den PV} {a b : SDen} {e e' : Cells} {o : Option SOut} (h : c e = some (.ok (.bl true) e')) (k : a e' = o) : sIf c a b e = o := by rw [if_at, h]; exact k
/-- an if that only goes on -/
theorem if_nx {c : Den PV} {a : SDen} {e e' : Cells} (h : c e = some (.ok (.bl false) e')) : sIf c a sNext e = some (.nx e') := if_f h rfl

/-! ### fit -/
@[simp] theorem plain_tup (xs : List PV) : (PV.tup xs).plain = PV.plains xs := rfl
@[simp] theorem plain_ktup (xs : List PV) : (PV.ktup xs).plain = PV.plains xs := rfl
@[simp] theorem plain_lst (xs : List PV) : (PV.lst xs).plain = PV.plains xs := rfl
@[simp] theorem plain_int (i : Int) : (PV.int i).plain = true := rfl
@[simp] theorem plain_str (i : Str) : (PV.str i).plain = true := rfl
@[simp] theorem plain_bl (i : Bool) : (PV.bl i).plain = true := rfl
@[simp] theorem plain_non : PV.non.plain = true := rfl
@[simp] theorem plains_nil : PV.plains [] = true := rfl
@[simp] theorem plains_cons (x : PV) (xs : List PV) : PV.plains (x :: xs) = (x.plain && PV.plains xs) := rfl
@[simp] theorem depth_tup (xs : List PV) : (PV.tup xs).depth = PV.depths xs + 1 := rfl
@[simp] theorem depth_ktup (xs : List PV) : (PV.ktup xs).depth = PV.depths xs + 1 := rfl
@[simp] theorem depth_lst (xs : List PV) : (PV.lst xs).depth = PV.depths xs + 1 := rfl
@[simp] theorem depth_int (i : Int) : (PV.int i).depth = 0 := rfl
@[simp] theorem depth_str (i : Str) : (PV.str i).depth = 0 := rfl
@[simp] theorem depth_bl (i : Bool) : (PV.bl i).depth = 0 := rfl
@[simp] theorem depth_non : PV.non.depth = 0 := rfl
@[simp] theorem depths_nil : PV.depths [] = 0 := rfl
@[simp] theorem depths_cons (x : PV) (xs : List PV) : PV.depths (x :: xs) = max x.depth (PV.depths xs) := rfl
@[simp] theorem fit_eq_true (x : PV) : (x.fit = true) = (x.plain = true ∧ x.depth ≤ 190) := by
  unfold PV.fit
  simp
@[simp] theorem plains_int {α : Type} (f : α → Int) (l : List α) : PV.plains (l.map fun i => .int (f i)) = true := by
  induction l with
  | nil => rfl
  | cons a l ih => rw [List.map_cons, plains_cons, ih]; rfl
@[simp] theorem depths_int {α : Type} (f : α → Int) (l : List α) : PV.depths (l.map fun i => .int (f i)) = 0 := by
  induction l with
  | nil => rfl
  | cons a l ih => rw [List.map_cons, depths_cons, ih]; rfl
@[simp] theorem plains_intm (l : List Int) : PV.plains (l.map PV.int) = true := plains_int id l
@[simp] theorem depths_intm (l : List Int) : PV.depths (l.map PV.int) = 0 := depths_int id l
@[simp] theorem plains_strm (l : List Str) : PV.plains (l.map PV.str) = true := by
  induction l with
  | nil => rfl
  | cons a l ih => rw [List.map_cons, plains_cons, ih]; rfl
@[simp] theorem depths_strm (l : List Str) : PV.depths (l.map PV.str) = 0 := by
  induction l with
  | nil => rfl
  | cons a l ih => rw [List.map_cons, depths_cons, ih]; rfl
/-! ### equal data -/
theorem eqvAll_int : ∀ (a b : List Int), PyData.eqvAll (PV.toDs (a.map .int)) (PV.toDs (b.map .int)) = decide (a = b)
  | [], [] => rfl
  | [], _ :: _ => rfl
  | _ :: _, [] => rfl
  | x :: a, y :: b => by
    show ((x == y) && PyData.eqvAll (PV.toDs (a.map .int)) (PV.toDs (b.map .int))) = _
    rw [eqvAll_int a b]
    by_cases h1 : x = y <;> by_cases h2 : a = b <;> simp [h1, h2]
theorem eqvAll_str : ∀ (a b : List Str), PyData.eqvAll (PV.toDs (a.map .str)) (PV.toDs (b.map .str)) = decide (a = b)
  | [], [] => rfl
  | [], _ :: _ => rfl
  | _ :: _, [] => rfl
  | x :: a, y :: b => by
    show ((x == y) && PyData.eqvAll (PV.toDs (a.map .str)) (PV.toDs (b.map .str))) = _
    rw [eqvAll_str a b]
    by_cases h1 : x = y <;> by_cases h2 : a = b <;> simp [h1, h2]
@[simp] theorem eq_tup_int (a b : List Int) : pvEq (.tup (a.map .int)) (.tup (b.map .int)) = decide (a = b) := eqvAll_int a b
@[simp] theorem eq_lst_int (a b : List Int) : pvEq (.lst (a.map .int)) (.lst (b.map .int)) = decide (a = b) := eqvAll_int a b
@[simp] theorem eq_tup_str (a b : List Str) : pvEq (.tup (a.map .str)) (.tup (b.map .str)) = decide (a = b) := eqvAll_str a b
@[simp] theorem eq_lst_str (a b : List Str) : pvEq (.lst (a.map .str)) (.lst (b.map .str)) = decide (a = b) := eqvAll_str a b
mutual
theorem pvEq_refl : ∀ x : PV, x.plain = true → pvEq x x = true
  | .non, _ => rfl
  | .bl b, _ => by simp
  | .int i, _ => by simp
  | .str s, _ => by simp
  | .tup xs, h => eqvAll_refl xs h
  | .ktup xs, h => eqvAll_refl xs h
  | .lst xs, h => eqvAll_refl xs h
  | .dic _ _, h => by cases h
  | .ins _ _ _, h => by cases h
theorem eqvAll_refl : ∀ xs : List PV, PV.plains xs = true → PyData.eqvAll (PV.toDs xs) (PV.toDs xs) = true
  | [], _ => rfl
  | x :: xs, h => by
    have h := Bool.and_eq_true_iff.mp (show (x.plain && PV.plains xs) = true from h)
    show (pvEq x x && PyData.eqvAll (PV.toDs xs) (PV.toDs xs)) = true
    rw [pvEq_refl x h.1, eqvAll_refl xs h.2]
    rfl
end
theorem in_any (x : PV) (l : List Int) (i : Int) (hx : x = .int i) : ((l.map PV.int).any fun z => pvEq z x) = decide (i ∈ l) := by
  subst hx
  induction l with
  | nil => rfl
  | cons a l ih =>
    rw [List.map_cons, List.any_cons, ih, eq_int]
    by_cases h1 : a = i
    · simp [h1]
    · have : ¬ i = a := fun z => h1 z.symm
      simp [h1, this]
theorem in_anyS (l : List Str) (i : Str) : ((l.map PV.str).any fun z => pvEq z (.str i)) = decide (i ∈ l) := by
  induction l with
  | nil => rfl
  | cons a l ih =>
    rw [List.map_cons, List.any_cons, ih, eq_str]
    by_cases h1 : a = i
    · simp [h1]
    · have : ¬ i = a := fun z => h1 z.symm
      simp [h1, this]
@[simp] theorem qIn_ints (l : List Int) (i : Int) : qIn (.int i) (.tup (l.map .int)) = some (.bl (decide (i ∈ l))) := by
  show (if _ then some (PV.bl ((l.map PV.int).any fun z => pvEq z (.int i))) else none) = _
  rw [in_any _ l i rfl, if_pos (by simp)]
@[simp] theorem qIn_intsL (l : List Int) (i : Int) : qIn (.int i) (.lst (l.map .int)) = some (.bl (decide (i ∈ l))) := by
  show (if _ then some (PV.bl ((l.map PV.int).any fun z => pvEq z (.int i))) else none) = _
  rw [in_any _ l i rfl, if_pos (by simp)]
@[simp] theorem qNotIn_ints (l : List Int) (i : Int) : qNotIn (.int i) (.tup (l.map .int)) = some (.bl (!decide (i ∈ l))) := by
  show (if _ then some (PV.bl (!((l.map PV.int).any fun z => pvEq z (.int i)))) else none) = _
  rw [in_any _ l i rfl, if_pos (by simp)]
@[simp] theorem qNotIn_intsL (l : List Int) (i : Int) : qNotIn (.int i) (.lst (l.map .int)) = some (.bl (!decide (i ∈ l))) := by
  show (if _ then some (PV.bl (!((l.map PV.int).any fun z => pvEq z (.int i)))) else none) = _
  rw [in_any _ l i rfl, if_pos (by simp)]
@[simp] theorem qIn_strs (l : List Str) (i : Str) : qIn (.str i) (.tup (l.map .str)) = some (.bl (decide (i ∈ l))) := by
  show (if _ then some (PV.bl ((l.map PV.str).any fun z => pvEq z (.str i))) else none) = _
  rw [in_anyS, if_pos (by simp)]
/-- in a tuple of texts that is written -/
theorem qIn_lits (i : Str) (l : List Str) (xs : List PV) (h : xs = l.map .str) : qIn (.str i) (.tup xs) = some (.bl (decide (i ∈ l))) := by subst h; exact qIn_strs l i
@[simp] theorem qIn_two (i a b : Str) : qIn (.str i) (.tup [.str a, .str b]) = some (.bl (decide (i = a ∨ i = b))) := by
  exact (qIn_lits i [a, b] _ rfl).trans (by simp)
/-- the place of a text -/
theorem idxP_str (s : Str) : ∀ (ns : List Str) (k : Nat), s ∈ ns → idxP (.str s) (ns.map .str) k = some (k + ns.idxOf s)
  | [], k, h => (List.not_mem_nil h).elim
  | x :: ns, k, h => by
    rw [List.map_cons]
    unfold idxP
    rw [eq_str]
    by_cases e : x = s
    · subst e; simp
    · have hm : s ∈ ns := by
        rcases List.mem_cons.mp h with z | z
        · exact absurd z.symm e
        · exact z
      have e2 : ¬ s = x := fun z => e z.symm
      rw [if_neg (by simpa using e), idxP_str s ns (k + 1) hm, List.idxOf_cons]
      have e3 : (x == s) = false := by simpa using e
      rw [e3]
      simp only [cond_false]
      rw [Nat.add_right_comm, Nat.add_assoc]
theorem qIndex_str (s : Str) (ns : List Str) (h : s ∈ ns) : qIndex (.tup (ns.map .str)) (.str s) = some (.int ((ns.idxOf s : Nat) : Int)) := by
  show (if _ then (idxP (.str s) (ns.map .str) 0).map fun n => PV.int (n : Nat) else none) = _
  rw [if_pos (by simp), idxP_str s ns 0 h, Nat.zero_add]
  rfl
/-! ### all, any -/
theorem bls_map (bs : List Bool) : bls (bs.map .bl) = some bs := by
  induction bs with
  | nil => rfl
  | cons b bs ih =>
    show (bls (bs.map .bl)).map (b :: ·) = _
    rw [ih]; rfl
@[simp] theorem qAll_bls {α : Type} (f : α → Bool) (l : List α) : qAll [.lst (l.map fun x => .bl (f x))] = some (.bl (l.all f)) := by
  have e : (l.map fun x => PV.bl (f x)) = (l.map f).map .bl := by rw [List.map_map]; rfl
  rw [e]
  show (bls ((l.map f).map .bl)).map (fun bs => PV.bl (bs.all id)) = _
  rw [bls_map]
  simp [List.all_map]
@[simp] theorem qAny_bls {α : Type} (f : α → Bool) (l : List α) : qAny [.lst (l.map fun x => .bl (f x))] = some (.bl (l.any f)) := by
  have e : (l.map fun x => PV.bl (f x)) = (l.map f).map .bl := by rw [List.map_map]; rfl
  rw [e]
  show (bls ((l.map f).map .bl)).map (fun bs => PV.bl (bs.any id)) = _
  rw [bls_map]
  simp [List.any_map]
@[simp] theorem qAll_nil : qAll [.lst []] = some (.bl true) := rfl
@[simp] theorem qAll_one (a : Bool) : qAll [.lst [.bl a]] = some (.bl a) := by cases a <;> rfl
@[simp] theorem qAll_two (a b : Bool) : qAll [.lst [.bl a, .bl b]] = some (.bl (a && b)) := by cases a <;> cases b <;> rfl
/-! ### pairs of a dict -/
theorem zip_parts : ∀ kps : KP, (kps.map (·.1)).zip (kps.map (·.2)) = kps
  | [] => rfl
  | (k, v) :: r => by rw [List.map_cons, List.map_cons, List.zip_cons_cons, zip_parts r]
theorem putP_new {kps : KP} {k : Key} {v : PV} (h : k ∉ kps.map (·.1)) : putP kps k v = kps ++ [(k, v)] := by
  unfold putP
  rw [if_neg]
  rw [List.any_eq_true]
  rintro ⟨x, hx, he⟩
  exact h (List.mem_map.mpr ⟨x, hx, of_decide_eq_true he⟩)
theorem putP_keys {kps : KP} {k : Key} {v : PV} (h : k ∈ kps.map (·.1)) : (putP kps k v).map (·.1) = kps.map (·.1) := by
  unfold putP
  obtain ⟨x, hx, rfl⟩ := List.mem_map.mp h
  rw [if_pos (List.any_eq_true.mpr ⟨x, hx, by simp⟩), List.map_map]
  refine List.map_congr_left fun y _ => ?_
  simp only [Function.comp]
  split <;> rfl
theorem putP_mem {kps : KP} {k j : Key} {v : PV} (h : j ∈ (putP kps k v).map (·.1)) : j = k ∨ j ∈ kps.map (·.1) := by
  by_cases hk : k ∈ kps.map (·.1)
  · rw [putP_keys hk] at h; exact .inr h
  · rw [putP_new hk, List.map_append] at h
    rcases List.mem_append.mp h with h | h
    · exact .inr h
    · simp at h; exact .inl h
theorem putP_nodup {kps : KP} {k : Key} {v : PV} (h : (kps.map (·.1)).Nodup) : ((putP kps k v).map (·.1)).Nodup := by
  by_cases hk : k ∈ kps.map (·.1)
  · rw [putP_keys hk]; exact h
  · rw [putP_new hk, List.map_append, List.nodup_append]
    refine ⟨h, by simp, fun a ha b hb => ?_⟩
    simp at hb
    subst hb
    exact fun z => hk (z ▸ ha)
/-- distinct keys stand as they are put -/
theorem putsP_new : ∀ (kvs acc : KP), ((acc ++ kvs).map (·.1)).Nodup → putsP acc kvs = acc ++ kvs
  | [], acc, _ => by rw [List.append_nil]; rfl
  | (k, v) :: r, acc, h => by
    have hk : k ∉ acc.map (·.1) := by
      rw [List.map_append, List.nodup_append] at h
      exact fun z => h.2.2 k z k (by simp) rfl
    have e : putsP acc ((k, v) :: r) = putsP (putP acc k v) r := rfl
    rw [e, putP_new hk, putsP_new r (acc ++ [(k, v)]) (by rw [List.append_assoc]; exact h), List.append_assoc]
    rfl
theorem nodup_bound {α : Type} [DecidableEq α] : ∀ (ks ns : List α), ks.Nodup → (∀ k ∈ ks, k ∈ ns) → ks.length ≤ ns.length
  | [], ns, _, _ => Nat.zero_le _
  | k :: ks, ns, h, hm => by
    rw [List.nodup_cons] at h
    have hk := hm k List.mem_cons_self
    have ih := nodup_bound ks (ns.erase k) h.2 fun j hj => (List.mem_erase_of_ne (fun z => by subst z; exact h.1 hj)).mpr (hm j (List.mem_cons_of_mem _ hj))
    rw [List.length_erase_of_mem hk] at ih
    have : 0 < ns.length := List.length_pos_of_mem hk
    rw [List.length_cons]
    omega
theorem strsK_map (ss : List Str) : strsK (ss.map .inr) = some ss := by
  induction ss with
  | nil => rfl
  | cons s ss ih =>
    show (strsK (ss.map .inr)).map (s :: ·) = _
    rw [ih]; rfl
theorem intsK_map (ss : List Int) : intsK (ss.map .inl) = some ss := by
  induction ss with
  | nil => rfl
  | cons s ss ih =>
    show (intsK (ss.map .inl)).map (s :: ·) = _
    rw [ih]; rfl
theorem sortK_strs (ss : List Str) (h : ss.length < 64) : sortK (ss.map .inr) = some ((sortS ss).map .str) := by
  unfold sortK
  rw [if_pos (by rw [List.length_map]; exact h), strsK_map]
  cases ss with
  | nil => rfl
  | cons s ss => rfl
theorem sortK_ints (ss : List Int) (h : ss.length < 64) : sortK (ss.map .inl) = some ((sortI ss).map .int) := by
  unfold sortK
  rw [if_pos (by rw [List.length_map]; exact h), intsK_map]
theorem sortS_mem {s : Str} {ss : List Str} : s ∈ sortS ss ↔ s ∈ ss := (sortBy_perm ltS ss).mem_iff
theorem sortS_length (ss : List Str) : (sortS ss).length = ss.length := (sortBy_perm ltS ss).length_eq
theorem sortS_nodup {ss : List Str} (h : ss.Nodup) : (sortS ss).Nodup := (sortBy_perm ltS ss).nodup_iff.mpr h
theorem sortI_self {ns : List Int} (h : ns.Pairwise (· ≤ ·)) : sortI ns = ns := (sortI_eq (List.Perm.refl _) h).symm

theorem lc_map {α : Type} {gx : PV → Cells → Option Cells} {dc de : Den PV} {own : List Nat} (g : α → PV) (p : α → Bool) (f : α → PV) (e : Cells) : ∀ (xs : List α) (acc : List PV), (∀ x ∈ xs, lcTurn gx dc de own (g x) e = some (if p x = true then some (f x) else none, e)) → lcLoop gx dc de own (xs.map g) acc e = some (.ok (acc ++ (xs.filter p).map f) e)
  | [], acc, _ => by rw [List.map_nil, lc_nil, List.filter_nil, List.map_nil, List.append_nil]
  | x :: xs, acc, h => by
    rw [List.map_cons, lc_cons, h x List.mem_cons_self]
    have ih := fun acc => lc_map g p f e xs acc fun y hy => h y (List.mem_cons_of_mem _ hy)
    by_cases c : p x = true
    · rw [if_pos c]
      simp only
      rw [ih, List.filter_cons_of_pos c, List.map_cons, List.append_assoc]
      rfl
    · rw [if_neg c]
      simp only
      rw [ih, List.filter_cons_of_neg c]
theorem lc_mapT {α : Type} {gx : PV → Cells → Option Cells} {dc de : Den PV} {own : List Nat} (g : α → PV) (f : α → PV) (e : Cells) (xs : List α) (acc : List PV) (h : ∀ x ∈ xs, lcTurn gx dc de own (g x) e = some (some (f x), e)) : lcLoop gx dc de own (xs.map g) acc e = some (.ok (acc ++ xs.map f) e) := by
  have q := lc_map g (fun _ => true) f e xs acc (gx := gx) (dc := dc) (de := de) (own := own) fun x hx => by rw [h x hx]; rfl
  rw [q, List.filter_eq_self.mpr (fun _ _ => rfl)]
/-- 0 .. m - 1 -/
def rgI (m : Nat) : List Int := (List.range m).map fun i : Nat => Int.ofNat i
theorem rgP_eq (m : Nat) : rgP (m : Int) = (rgI m).map .int := by
  unfold rgP rgI
  rw [Int.toNat_natCast, List.map_map]
  rfl
theorem mem_rgI {m : Nat} {a : Int} : a ∈ rgI m ↔ 0 ≤ a ∧ a < m := by
  unfold rgI
  rw [List.mem_map]
  constructor
  · rintro ⟨i, hi, rfl⟩
    have := List.mem_range.mp hi
    exact ⟨Int.natCast_nonneg i, Int.ofNat_lt.mpr this⟩
  · rintro ⟨h1, h2⟩
    exact ⟨a.toNat, List.mem_range.mpr (by omega), Int.toNat_of_nonneg h1⟩
theorem rgI_length (m : Nat) : (rgI m).length = m := by unfold rgI; rw [List.length_map, List.length_range]
theorem rgI_sorted (m : Nat) : (rgI m).Pairwise (· < ·) := by
  unfold rgI
  rw [List.pairwise_map]
  exact List.pairwise_lt_range.imp fun {a b} h => Int.ofNat_lt.mpr h
theorem nodup_of_lt {l : List Int} (h : l.Pairwise (· < ·)) : l.Nodup := h.imp fun h e => by omega
/-! ### equal data, kind by kind -/
@[simp] theorem ne_non_bl  (b : Bool) : pvEq PV.non (PV.bl b) = false := rfl
@[simp] theorem ne_non_int  (i : Int) : pvEq PV.non (PV.int i) = false := rfl
@[simp] theorem ne_non_str  (s : Str) : pvEq PV.non (PV.str s) = false := rfl
@[simp] theorem ne_non_tup  (xs : List PV) : pvEq PV.non (PV.tup xs) = false := rfl
@[simp] theorem ne_non_lst  (ys : List PV) : pvEq PV.non (PV.lst ys) = false := rfl
@[simp] theorem ne_bl_non (b : Bool)  : pvEq (PV.bl b) PV.non = false := rfl
@[simp] theorem ne_bl_str (b : Bool) (s : Str) : pvEq (PV.bl b) (PV.str s) = false := rfl
@[simp] theorem ne_bl_tup (b : Bool) (xs : List PV) : pvEq (PV.bl b) (PV.tup xs) = false := rfl
@[simp] theorem ne_bl_lst (b : Bool) (ys : List PV) : pvEq (PV.bl b) (PV.lst ys) = false := rfl
@[simp] theorem ne_int_non (i : Int)  : pvEq (PV.int i) PV.non = false := rfl
@[simp] theorem ne_int_str (i : Int) (s : Str) : pvEq (PV.int i) (PV.str s) = false := rfl
@[simp] theorem ne_int_tup (i : Int) (xs : List PV) : pvEq (PV.int i) (PV.tup xs) = false := rfl
@[simp] theorem ne_int_lst (i : Int) (ys : List PV) : pvEq (PV.int i) (PV.lst ys) = false := rfl
@[simp] theorem ne_str_non (s : Str)  : pvEq (PV.str s) PV.non = false := rfl
@[simp] theorem ne_str_bl (s : Str) (b : Bool) : pvEq (PV.str s) (PV.bl b) = false := rfl
@[simp] theorem ne_str_int (s : Str) (i : Int) : pvEq (PV.str s) (PV.int i) = false := rfl
@[simp] theorem ne_str_tup (s : Str) (xs : List PV) : pvEq (PV.str s) (PV.tup xs) = false := rfl
@[simp] theorem ne_str_lst (s : Str) (ys : List PV) : pvEq (PV.str s) (PV.lst ys) = false := rfl
@[simp] theorem ne_tup_non (xs : List PV)  : pvEq (PV.tup xs) PV.non = false := rfl
@[simp] theorem ne_tup_bl (xs : List PV) (b : Bool) : pvEq (PV.tup xs) (PV.bl b) = false := rfl
@[simp] theorem ne_tup_int (xs : List PV) (i : Int) : pvEq (PV.tup xs) (PV.int i) = false := rfl
@[simp] theorem ne_tup_str (xs : List PV) (s : Str) : pvEq (PV.tup xs) (PV.str s) = false := rfl
@[simp] theorem ne_tup_lst (xs : List PV) (ys : List PV) : pvEq (PV.tup xs) (PV.lst ys) = false := rfl
@[simp] theorem ne_lst_non (ys : List PV)  : pvEq (PV.lst ys) PV.non = false := rfl
@[simp] theorem ne_lst_bl (ys : List PV) (b : Bool) : pvEq (PV.lst ys) (PV.bl b) = false := rfl
@[simp] theorem ne_lst_int (ys : List PV) (i : Int) : pvEq (PV.lst ys) (PV.int i) = false := rfl
@[simp] theorem ne_lst_str (ys : List PV) (s : Str) : pvEq (PV.lst ys) (PV.str s) = false := rfl
@[simp] theorem ne_lst_tup (ys : List PV) (xs : List PV) : pvEq (PV.lst ys) (PV.tup xs) = false := rfl
@[simp] theorem eq_non_non : pvEq .non .non = true := rfl
@[simp] theorem eq_tup_nil : pvEq (.tup []) (.tup []) = true := rfl
@[simp] theorem eq_tup_cons (x y : PV) (xs ys : List PV) : pvEq (.tup (x :: xs)) (.tup (y :: ys)) = (pvEq x y && pvEq (.tup xs) (.tup ys)) := rfl
@[simp] theorem eq_tup_nc (y : PV) (ys : List PV) : pvEq (.tup []) (.tup (y :: ys)) = false := rfl
@[simp] theorem eq_tup_cn (x : PV) (xs : List PV) : pvEq (.tup (x :: xs)) (.tup []) = false := rfl
@[simp] theorem eq_lst_nil : pvEq (.lst []) (.lst []) = true := rfl
@[simp] theorem eq_lst_cons (x y : PV) (xs ys : List PV) : pvEq (.lst (x :: xs)) (.lst (y :: ys)) = (pvEq x y && pvEq (.lst xs) (.lst ys)) := rfl
@[simp] theorem eq_lst_nc (y : PV) (ys : List PV) : pvEq (.lst []) (.lst (y :: ys)) = false := rfl
@[simp] theorem eq_lst_cn (x : PV) (xs : List PV) : pvEq (.lst (x :: xs)) (.lst []) = false := rfl
theorem qShl_one {k : Nat} (h : k ≤ 1000) : qShl (.int 1) (.int (k : Int)) = some (.int (2 ^ k)) := by
  show (if 0 ≤ (k : Int) ∧ (k : Int) ≤ 1000000 ∧ (1 : Int).natAbs < 2 ^ 64 then some ((1 : Int) * 2 ^ ((k : Int)).toNat) else none).map PV.int = _
  rw [if_pos ⟨by omega, by omega, by decide⟩, Int.toNat_natCast, Int.one_mul]
  rfl
/-! ### a def's end -/
theorem fn_rt {m : Nat} {d : SDen} {args : List PV} {v : PV} {c e' : Cells} (hc : args.map .v ++ List.replicate (m - args.length) .un = c) (h : d c = some (.rt v e')) : fnDen m d args = some (.ok v) := by
  unfold fnDen
  rw [hc, h]
theorem fn_nx {m : Nat} {d : SDen} {args : List PV} {c e' : Cells} (hc : args.map .v ++ List.replicate (m - args.length) .un = c) (h : d c = some (.nx e')) : fnDen m d args = some (.ok .non) := by
  unfold fnDen
  rw [hc, h]
theorem fn_ex {m : Nat} {d : SDen} {args : List PV} {x : Exn} {c e' : Cells} (hc : args.map .v ++ List.replicate (m - args.length) .un = c) (h : d c = some (.ex x e')) : fnDen m d args = some (.error x) := by
  unfold fnDen
  rw [hc, h]
end Pu
set_option Elab.async false
set_option linter.all false
set_option maxRecDepth 100000
set_option maxHeartbeats 4000000
/-! Pm, part D: the newer dens worked out; finite checks. -/
namespace Pu
open PySem L2
@[simp] theorem setT_at (gx : PV → Cells → Option Cells) (de : Den PV) (e : Cells) : sSetT gx de e = (sOf de fun x e => match gx x e with
  | some e' => some (.nx e')
  | none => none) e := rfl
@[simp] theorem tryOnly_at (cn : Str) (db ds : SDen) (e : Cells) : sTryOnly cn db ds e = match db e with
  | some (.ex c e) => if c.c = cn ∧ c.ns = [] ∧ c.vs = [] then ds e else none
  | o => o := rfl
theorem dFld_eq (cs : List Str) (f : Str) (da : Den PV) (e : Cells) : dFld cs f da e = (da.bind fun x => Den.lift (match x with
  | .ins c ns vs => if c ∈ cs then fldOf f ns vs else none
  | _ => none)) e := rfl
/-- what holds by computing at each of a list holds at each of its members -/
theorem at_each {α β : Type} {f g : α → β} {l : List α} (h : l.map f = l.map g) : ∀ a ∈ l, f a = g a := fun a ha => by
  induction l with
  | nil => exact (List.not_mem_nil ha).elim
  | cons x l ih =>
    rw [List.map_cons, List.map_cons] at h
    rcases List.mem_cons.mp ha with rfl | ha
    · exact (List.cons.inj h).1
    · exact ih (List.cons.inj h).2 ha
end Pu
set_option Elab.async false
set_option linter.all false
set_option maxRecDepth 100000
set_option maxHeartbeats 8000000
namespace Lk01
open PySem PySem.Spec PyProof.Rows L2 Pu
abbrev prg : Program := PySem.Challenge.pw_guardedways_k73_packets_and_looks
def top (i : Nat) : Stmt := prg.main.body.getD i (.Pass ⟨0, 0, 0, 0⟩)
/-- what the top has written of an exception class -/
structure ExT (K : PySem.W.Frag) (mg : Str → Option Value) (x : Str) (C : Addr) : Prop where
  q : PySem.W.excIn K C [.type "ValueError", .type "Exception", .type "BaseException", .type "object"] "ValueError.__new__" = true
  g : mg x = some (.ref C)
  k : PySem.W.keepIn K (.ref C) = true
  s : PySem.W.subIn K (.ref C) (.type "BaseException") = some true
  t : PySem.W.typeIn K (.ref C) = some (.type "type")
  self : PySem.W.exmOne K (.ref C) (.ref C) = some true
  c : ExcC K C
  v : PySem.W.kitOne K (.ref C) (.type "ValueError") = some true
theorem ExT.raises {X : Cx} {x : Str} {C : Addr} (h : ExT X.K X.mg x C) : ExC X x C := ⟨h.q, h.g, h.k, h.s, h.t⟩
theorem ExT.names {X : Cx} {x : Str} {C : Addr} (h : ExT X.K X.mg x C) (hg : Gl X x) (hd : (x == ("__debug__" : Str)) = false := by decide) : Names X x (.ref C) := ⟨hg, hd, .inl h.g⟩
structure Top (K : PySem.W.Frag) (mg : Str → Option Value) (X_BadTest : Addr) : Prop where
  b_all : mg "all" = none
  b_bool : mg "bool" = none
  b_int : mg "int" = none
  b_isinstance : mg "isinstance" = none
  b_len : mg "len" = none
  b_list : mg "list" = none
  b_range : mg "range" = none
  b_sorted : mg "sorted" = none
  b_str : mg "str" = none
  b_tuple : mg "tuple" = none
  b_zip : mg "zip" = none
  c_LETTERS : GC K mg "LETTERS" (.str "abcdefghijklmnopqrstuvwxyz")
  c_MOST_FIELDS : GC K mg "MOST_FIELDS" (.int 4)
  c_MOST_PACKETS : GC K mg "MOST_PACKETS" (.int 64)
  c_MOST_VALUES : GC K mg "MOST_VALUES" (.int 6)
  x_BadTest : ExT K mg "BadTest" X_BadTest
  cf_names : ∀ c ∈ (["Fields"] : List Str), ClsF K mg c ["names"]
  cf_packets : ∀ c ∈ (["Fields"] : List Str), ClsF K mg c ["packets"]
  cf_rows : ∀ c ∈ (["Fields"] : List Str), ClsF K mg c ["rows"]
/-! ### _law_draws -/
abbrev s__law_draws : Stmt := top 22
abbrev N__law_draws : List Str := ["script"]
abbrev P__law_draws : List Str := ["script"]
def d__law_draws : Den (List PV) :=
  (dShort (dCons (dLstOf (dArgs qList (dCons (dVar 0) dNil))) (dCons (Den.ret (.int 0)) (dCons (Den.ret (.int 0)) (dCons (Den.ret (.int 1)) dNil)))))
def F__law_draws : FnO := fnDenO 1 d__law_draws
/-! ### all_rows -/
abbrev s_all_rows : Stmt := top 13
abbrev N_all_rows : List Str := ["sizes", "found", "size", "row", "value"]
abbrev P_all_rows : List Str := ["sizes"]
def d_all_rows : SDen :=
  (sSeq (sSet 1 (dLstOf (dShort (dCons (dTup dNil) dNil)))) (sSeq (sFor (dSeq (dVar 0)) (gxN 2) (sSet 1 (dLstOf (dLc2 (dSeq (dVar 1)) (gxN 3) (Den.ret (.bl true)) (dRg (dVar 2)) (gxN 4) (Den.ret (.bl true)) (dAdd (dVar 3) (dTup (dCons (dVar 4) dNil))) [3, 4] [4])))) (sRet (dArgs qTuple (dCons (dVar 1) dNil)))))
def F_all_rows : Fn := fnDen 5 d_all_rows
/-! ### is_name -/
abbrev s_is_name : Stmt := top 6
abbrev N_is_name : List Str := ["value", "one"]
abbrev P_is_name : List Str := ["value"]
def d_is_name : SDen :=
  (sRet (dAnd (dIsT "str" (dVar 0)) (dAnd (dChain qLt qLe (Den.ret (.int 0)) (dArgs qLen (dCons (dVar 0) dNil)) (Den.ret (.int 12))) (dArgs qAll (dCons (dLstOf (dLc (dSeq (dVar 0)) (gxN 1) (Den.ret (.bl true)) (dOp qIn (dVar 1) (Den.ret (.str "abcdefghijklmnopqrstuvwxyz"))) [1])) dNil)))))
def F_is_name : Fn := fnDen 2 d_is_name
/-! ### is_integer -/
abbrev s_is_integer : Stmt := top 5
abbrev N_is_integer : List Str := ["value"]
abbrev P_is_integer : List Str := ["value"]
def d_is_integer : SDen :=
  (sRet (dAnd (dIsT "int" (dVar 0)) (dNot (dIsT "bool" (dVar 0)))))
def F_is_integer : Fn := fnDen 1 d_is_integer
/-! ### Fields____init__ -/
abbrev s_Fields____init__ : Stmt := inClass (top 12) 0
abbrev N_Fields____init__ : List Str := ["self", "rows", "row", "names", "packets", "name"]
abbrev P_Fields____init__ : List Str := ["self", "rows"]
def d_Fields____init__ (fall_rows : Fn) (fis_name : Fn) (fis_integer : Fn) : SDen :=
  (sSeq (sIf (dOr (dNot (dIsT "tuple" (dVar 1))) (dNot (dChain qLt qLe (Den.ret (.int 0)) (dArgs qLen (dCons (dVar 1) dNil)) (Den.ret (.int 4))))) (sRaise "BadTest") sNext) (sSeq (sFor (dSeq (dVar 1)) (gxN 2) (sSeq (sIf (dOr (dNot (dIsT "tuple" (dVar 2))) (dOr (dOp qNe (dArgs qLen (dCons (dVar 2) dNil)) (Den.ret (.int 2))) (dOr (dNot (dCall fis_name [] (dCons (dOp qIx (dVar 2) (Den.ret (.int 0))) dNil))) (dNot (dCall fis_integer [] (dCons (dOp qIx (dVar 2) (Den.ret (.int 1))) dNil)))))) (sRaise "BadTest") sNext) (sIf (dNot (dChain qLe qLe (Den.ret (.int 1)) (dOp qIx (dVar 2) (Den.ret (.int 1))) (Den.ret (.int 6)))) (sRaise "BadTest") sNext))) (sSeq (sSet 3 (dLstOf (dLc (dSeq (dVar 1)) (gxN 2) (Den.ret (.bl true)) (dOp qIx (dVar 2) (Den.ret (.int 0))) [2]))) (sSeq (sSet 4 (dCall fall_rows [] (dCons (dLstOf (dLc (dSeq (dVar 1)) (gxN 2) (Den.ret (.bl true)) (dOp qIx (dVar 2) (Den.ret (.int 1))) [2])) dNil))) (sSeq (sIf (dOr (dOp qNe (dVar 3) (dLstOf (dArgs qSorted (dCons (dDicOf (dDc (dSeq (dVar 3)) (gxN 5) (Den.ret (.bl true)) (dVar 5) (Den.ret (.bl true)) [5])) dNil)))) (dOp qGt (dArgs qLen (dCons (dVar 4) dNil)) (Den.ret (.int 64)))) (sRaise "BadTest") sNext) (sSeq (sSetFld ["Fields"] 0 "rows" (dVar 1)) (sSeq (sSetFld ["Fields"] 0 "names" (dArgs qTuple (dCons (dVar 3) dNil))) (sSetFld ["Fields"] 0 "packets" (dVar 4)))))))))
def F_Fields____init__ : FnI := fnDenI 6 "Fields" (d_Fields____init__ F_all_rows F_is_name F_is_integer)
/-! ### _law_draw -/
abbrev s__law_draw : Stmt := top 23
abbrev N__law_draw : List Str := ["draws", "limit", "cell", "value"]
abbrev P__law_draw : List Str := ["draws", "limit"]
def d__law_draw : SDen :=
  (sSeq (sIf (dAnd (dOp qEq (dIxM 0 (Den.ret (.int 2))) (Den.ret (.int 0))) (dOp qLt (dIxM 0 (Den.ret (.int 1))) (dArgs qLen (dCons (dIxM 0 (Den.ret (.int 0))) dNil)))) (sSeq (sSet 2 (dOp qIx (dIxM 0 (Den.ret (.int 0))) (dIxM 0 (Den.ret (.int 1))))) (sSeq (sSetIxM 0 (dAdd (dIxM 0 (Den.ret (.int 1))) (Den.ret (.int 1))) (Den.ret (.int 1))) (sSeq (sIf (dOp qGe (dVar 2) (dOp qPow (Den.ret (.int 10)) (Den.ret (.int 18)))) (sSetIxM 0 (dVar 2) (Den.ret (.int 2))) sNext) (sSetIxM 0 (dOp qMod (dArgs qInt (dCons (dAdd (dAdd (dOp qMul (dIxM 0 (Den.ret (.int 3))) (Den.ret (.int 48271))) (dVar 2)) (Den.ret (.int 13))) dNil)) (Den.ret (.int 2147483647))) (Den.ret (.int 3)))))) sNext) (sSeq (sIf (dOp qGt (dIxM 0 (Den.ret (.int 2))) (Den.ret (.int 0))) (sSeq (sSet 3 (dOp qMod (dArgs qInt (dCons (dIxM 0 (Den.ret (.int 2))) dNil)) (dVar 1))) (sSeq (sSetIxM 0 (dOp qDiv (dIxM 0 (Den.ret (.int 2))) (dVar 1)) (Den.ret (.int 2))) (sRet (dVar 3)))) sNext) (sSeq (sSetIxM 0 (dOp qMod (dArgs qInt (dCons (dAdd (dOp qMul (dIxM 0 (Den.ret (.int 3))) (Den.ret (.int 69621))) (Den.ret (.int 7))) dNil)) (Den.ret (.int 2147483629))) (Den.ret (.int 3))) (sRet (dOp qMod (dArgs qInt (dCons (dOp qDiv (dIxM 0 (Den.ret (.int 3))) (Den.ret (.int 11))) dNil)) (dVar 1))))))
def F__law_draw : FnM := fnDenM 4 d__law_draw
/-! ### _law_fields -/
abbrev s__law_fields : Stmt := top 25
abbrev N__law_fields : List Str := ["draws"]
abbrev P__law_fields : List Str := ["draws"]
def d__law_fields (f_law_draw : FnM) : SDen :=
  (sRet (dOp qIx (dLstOf (dShort (dCons (dTup (dCons (dTup (dCons (Den.ret (.str "sw")) (dCons (Den.ret (.int 2)) dNil))) dNil)) (dCons (dTup (dCons (dTup (dCons (Den.ret (.str "pt")) (dCons (Den.ret (.int 2)) dNil))) (dCons (dTup (dCons (Den.ret (.str "sw")) (dCons (Den.ret (.int 2)) dNil))) dNil))) (dCons (dTup (dCons (dTup (dCons (Den.ret (.str "pt")) (dCons (Den.ret (.int 2)) dNil))) (dCons (dTup (dCons (Den.ret (.str "sw")) (dCons (Den.ret (.int 3)) dNil))) dNil))) (dCons (dTup (dCons (dTup (dCons (Den.ret (.str "sw")) (dCons (Den.ret (.int 3)) dNil))) dNil)) (dCons (dTup (dCons (dTup (dCons (Den.ret (.str "sw")) (dCons (Den.ret (.int 4)) dNil))) dNil)) (dCons (dTup (dCons (dTup (dCons (Den.ret (.str "a")) (dCons (Den.ret (.int 1)) dNil))) (dCons (dTup (dCons (Den.ret (.str "b")) (dCons (Den.ret (.int 3)) dNil))) dNil))) dNil)))))))) (dCallM 0 f_law_draw (dCons (Den.ret (.int 6)) dNil))))
def F__law_fields : FnM := fnDenM 1 (d__law_fields F__law_draw)
/-! ### _law_rows -/
abbrev s__law_rows : Stmt := top 26
abbrev N__law_rows : List Str := ["rows", "found", "name", "many", "more", "row", "value"]
abbrev P__law_rows : List Str := ["rows"]
def d__law_rows : SDen :=
  (sSeq (sSet 1 (dLstOf (dShort (dCons (dTup dNil) dNil)))) (sSeq (sFor (dSeq (dVar 0)) (gxT 2 (gxCons (gxN 2) (gxCons (gxN 3) gxNil))) (sSeq (sSet 4 (dLstOf (dShort dNil))) (sSeq (sFor (dSeq (dVar 1)) (gxN 5) (sSet 4 (dLstOf (dCatL (dVar 4) (dLstOf (dLc (dRg (dVar 3)) (gxN 6) (Den.ret (.bl true)) (dAdd (dVar 5) (dTup (dCons (dVar 6) dNil))) [6])))))) (sSet 1 (dVar 4))))) (sRet (dVar 1))))
def F__law_rows : Fn := fnDen 7 d__law_rows
/-! ### _law_look -/
abbrev s__law_look : Stmt := top 27
abbrev N__law_look : List Str := ["draws", "rows", "deep", "form", "name", "many"]
abbrev P__law_look : List Str := ["draws", "rows", "deep"]
def d__law_look (f_law_draw : FnM) (f_law_look : FnM) : SDen :=
  (sSeq (sSet 3 (dIf (dOp qGt (dVar 2) (Den.ret (.int 0))) (dCallM 0 f_law_draw (dCons (Den.ret (.int 6)) dNil)) (Den.ret (.int 2)))) (sSeq (sIf (dOp qEq (dVar 3) (Den.ret (.int 0))) (sRet (dTup (dCons (Den.ret (.str "not")) (dCons (dCallM 0 f_law_look (dCons (dVar 1) (dCons (dOp qSub (dVar 2) (Den.ret (.int 1))) dNil))) dNil)))) sNext) (sSeq (sIf (dOp qEq (dVar 3) (Den.ret (.int 1))) (sRet (dTup (dCons (dOp qIx (dLstOf (dShort (dCons (Den.ret (.str "and")) (dCons (Den.ret (.str "or")) dNil)))) (dCallM 0 f_law_draw (dCons (Den.ret (.int 2)) dNil))) (dCons (dCallM 0 f_law_look (dCons (dVar 1) (dCons (dOp qSub (dVar 2) (Den.ret (.int 1))) dNil))) (dCons (dCallM 0 f_law_look (dCons (dVar 1) (dCons (dOp qSub (dVar 2) (Den.ret (.int 1))) dNil))) dNil))))) sNext) (sSeq (sIf (dOp qEq (dVar 3) (Den.ret (.int 5))) (sRet (dOp qIx (dLstOf (dShort (dCons (dTup (dCons (Den.ret (.str "yes")) dNil)) (dCons (dTup (dCons (Den.ret (.str "no")) dNil)) dNil)))) (dCallM 0 f_law_draw (dCons (Den.ret (.int 2)) dNil)))) sNext) (sSeq (sSetT (gxT 2 (gxCons (gxN 4) (gxCons (gxN 5) gxNil))) (dOp qIx (dVar 1) (dCallM 0 f_law_draw (dCons (dArgs qLen (dCons (dVar 1) dNil)) dNil)))) (sRet (dTup (dCons (Den.ret (.str "at")) (dCons (dVar 4) (dCons (dCallM 0 f_law_draw (dCons (dVar 5) dNil)) dNil))))))))))
def F__law_look : Nat → FnM
  | 0 => fun _ _ => none
  | n + 1 => fnDenM 6 (d__law_look F__law_draw (F__law_look n))
/-! ### Fields__place -/
abbrev s_Fields__place : Stmt := inClass (top 12) 1
abbrev N_Fields__place : List Str := ["self", "field"]
abbrev P_Fields__place : List Str := ["self", "field"]
def d_Fields__place : SDen :=
  (sRet (dIndexT (dFld ["Fields"] "names" (dVar 0)) (dVar 1)))
def F_Fields__place : Fn := fnDen 2 d_Fields__place
/-! ### is_value -/
abbrev s_is_value : Stmt := top 15
abbrev N_is_value : List Str := ["fields", "field", "value"]
abbrev P_is_value : List Str := ["fields", "field", "value"]
def d_is_value (fis_name : Fn) (fis_integer : Fn) (fFields__place : Fn) : SDen :=
  (sSeq (sIf (dOr (dNot (dCall fis_name [] (dCons (dVar 1) dNil))) (dOr (dOp qNotIn (dVar 1) (dFld ["Fields"] "names" (dVar 0))) (dNot (dCall fis_integer [] (dCons (dVar 2) dNil))))) (sRet (Den.ret (.bl false))) sNext) (sRet (dChain qLe qLt (Den.ret (.int 0)) (dVar 2) (dOp qIx (dOp qIx (dFld ["Fields"] "rows" (dVar 0)) (dMeth "Fields" "place" fFields__place (dVar 0) (dCons (dVar 1) dNil))) (Den.ret (.int 1))))))
def F_is_value : Fn := fnDen 3 (d_is_value F_is_name F_is_integer F_Fields__place)
/-! ### is_look -/
abbrev s_is_look : Stmt := top 16
abbrev N_is_look : List Str := ["fields", "value", "deep", "word", "part"]
abbrev P_is_look : List Str := ["fields", "value", "deep"]
def d_is_look (fis_value : Fn) (fis_look : Fn) : SDen :=
  (sSeq (sIf (dOr (dOp qEq (dVar 2) (Den.ret (.int 0))) (dOr (dNot (dIsT "tuple" (dVar 1))) (dOr (dOp qEq (dArgs qLen (dCons (dVar 1) dNil)) (Den.ret (.int 0))) (dNot (dIsT "str" (dOp qIx (dVar 1) (Den.ret (.int 0)))))))) (sRet (Den.ret (.bl false))) sNext) (sSeq (sSet 3 (dOp qIx (dVar 1) (Den.ret (.int 0)))) (sSeq (sIf (dOp qIn (dVar 3) (dTup (dCons (Den.ret (.str "yes")) (dCons (Den.ret (.str "no")) dNil)))) (sRet (dOp qEq (dArgs qLen (dCons (dVar 1) dNil)) (Den.ret (.int 1)))) sNext) (sSeq (sIf (dOp qEq (dVar 3) (Den.ret (.str "at"))) (sRet (dAnd (dOp qEq (dArgs qLen (dCons (dVar 1) dNil)) (Den.ret (.int 3))) (dCall fis_value [] (dCons (dVar 0) (dCons (dOp qIx (dVar 1) (Den.ret (.int 1))) (dCons (dOp qIx (dVar 1) (Den.ret (.int 2))) dNil)))))) sNext) (sSeq (sIf (dOp qEq (dVar 3) (Den.ret (.str "not"))) (sRet (dAnd (dOp qEq (dArgs qLen (dCons (dVar 1) dNil)) (Den.ret (.int 2))) (dCall fis_look [] (dCons (dVar 0) (dCons (dOp qIx (dVar 1) (Den.ret (.int 1))) (dCons (dOp qSub (dVar 2) (Den.ret (.int 1))) dNil)))))) sNext) (sRet (dAnd (dOp qIn (dVar 3) (dTup (dCons (Den.ret (.str "and")) (dCons (Den.ret (.str "or")) dNil)))) (dAnd (dOp qEq (dArgs qLen (dCons (dVar 1) dNil)) (Den.ret (.int 3))) (dArgs qAll (dCons (dLstOf (dLc (dSeq (dSl (dVar 1) (some (Den.ret (.int 1))) none)) (gxN 4) (Den.ret (.bl true)) (dCall fis_look [] (dCons (dVar 0) (dCons (dVar 4) (dCons (dOp qSub (dVar 2) (Den.ret (.int 1))) dNil)))) [4])) dNil))))))))))
def F_is_look : Nat → Fn
  | 0 => fun _ => none
  | n + 1 => fnDen 5 (d_is_look F_is_value (F_is_look n))
/-! ### _law_bad_fields -/
abbrev s__law_bad_fields : Stmt := top 34
abbrev N__law_bad_fields : List Str := ["value"]
abbrev P__law_bad_fields : List Str := ["value"]
def d__law_bad_fields (fFields____init__ : FnI) : SDen :=
  (sSeq (sTryOnly "BadTest" (sDrop (dMake "Fields" fFields____init__ (dCons (dVar 0) dNil))) (sRet (Den.ret (.bl true)))) (sRet (Den.ret (.bl false))))
def F__law_bad_fields : Fn := fnDen 1 (d__law_bad_fields F_Fields____init__)
/-! ### _law_same -/
abbrev s__law_same : Stmt := top 24
abbrev N__law_same : List Str := ["actual", "expected", "k"]
abbrev P__law_same : List Str := ["actual", "expected"]
def d__law_same (f_law_same : Fn) : SDen :=
  (sSeq (sIf (dOr (dIsT "tuple" (dVar 1)) (dIsT "list" (dVar 1))) (sSeq (sIf (dOr (dOp qNe (dIsT "tuple" (dVar 1)) (dIsT "tuple" (dVar 0))) (dOp qNe (dIsT "list" (dVar 1)) (dIsT "list" (dVar 0)))) (sRet (Den.ret (.bl false))) sNext) (sSeq (sIf (dOp qNe (dArgs qLen (dCons (dVar 0) dNil)) (dArgs qLen (dCons (dVar 1) dNil))) (sRet (Den.ret (.bl false))) sNext) (sRet (dOp qEq (dArgs qLen (dCons (dLstOf (dLc (dRg (dArgs qLen (dCons (dVar 1) dNil))) (gxN 2) (dNot (dCall f_law_same [] (dCons (dOp qIx (dVar 0) (dVar 2)) (dCons (dOp qIx (dVar 1) (dVar 2)) dNil)))) (dVar 2) [2])) dNil)) (Den.ret (.int 0)))))) sNext) (sSeq (sIf (dIsT "str" (dVar 1)) (sRet (dAnd (dIsT "str" (dVar 0)) (dOp qEq (dVar 0) (dVar 1)))) sNext) (sSeq (sIf (dOp (qIs false) (dVar 1) (Den.ret (.non))) (sRet (dOp (qIs false) (dVar 0) (Den.ret (.non)))) sNext) (sSeq (sIf (dOr (dIsT "bool" (dVar 1)) (dIsT "bool" (dVar 0))) (sRet (dAnd (dIsT "bool" (dVar 1)) (dAnd (dIsT "bool" (dVar 0)) (dOp qEq (dVar 0) (dVar 1))))) sNext) (sRet (dAnd (dIsT "int" (dVar 0)) (dAnd (dIsT "int" (dVar 1)) (dOp qEq (dVar 0) (dVar 1)))))))))
def F__law_same : Nat → Fn
  | 0 => fun _ => none
  | n + 1 => fnDen 3 (d__law_same (F__law_same n))
/-! ### is_packet -/
abbrev s_is_packet : Stmt := top 14
abbrev N_is_packet : List Str := ["fields", "value", "one", "row"]
abbrev P_is_packet : List Str := ["fields", "value"]
def d_is_packet (fis_integer : Fn) : SDen :=
  (sSeq (sIf (dOr (dNot (dIsT "tuple" (dVar 1))) (dOp qNe (dArgs qLen (dCons (dVar 1) dNil)) (dArgs qLen (dCons (dFld ["Fields"] "rows" (dVar 0)) dNil)))) (sRet (Den.ret (.bl false))) sNext) (sRet (dArgs qAll (dCons (dLstOf (dLc (dZip (dVar 1) (dFld ["Fields"] "rows" (dVar 0))) (gxT 2 (gxCons (gxN 2) (gxCons (gxN 3) gxNil))) (Den.ret (.bl true)) (dAnd (dCall fis_integer [] (dCons (dVar 2) dNil)) (dChain qLe qLt (Den.ret (.int 0)) (dVar 2) (dOp qIx (dVar 3) (Den.ret (.int 1))))) [2, 3])) dNil))))
def F_is_packet : Fn := fnDen 4 (d_is_packet F_is_integer)
/-! ### sees -/
abbrev s_sees : Stmt := top 17
abbrev N_sees : List Str := ["fields", "look", "packet", "word"]
abbrev P_sees : List Str := ["fields", "look", "packet"]
def d_sees (fsees : Fn) (fFields__place : Fn) : SDen :=
  (sSeq (sSet 3 (dOp qIx (dVar 1) (Den.ret (.int 0)))) (sSeq (sIf (dOp qEq (dVar 3) (Den.ret (.str "at"))) (sRet (dOp qEq (dOp qIx (dVar 2) (dMeth "Fields" "place" fFields__place (dVar 0) (dCons (dOp qIx (dVar 1) (Den.ret (.int 1))) dNil))) (dOp qIx (dVar 1) (Den.ret (.int 2))))) sNext) (sSeq (sIf (dOp qEq (dVar 3) (Den.ret (.str "not"))) (sRet (dNot (dCall fsees [] (dCons (dVar 0) (dCons (dOp qIx (dVar 1) (Den.ret (.int 1))) (dCons (dVar 2) dNil)))))) sNext) (sSeq (sIf (dOp qEq (dVar 3) (Den.ret (.str "and"))) (sRet (dAnd (dCall fsees [] (dCons (dVar 0) (dCons (dOp qIx (dVar 1) (Den.ret (.int 1))) (dCons (dVar 2) dNil)))) (dCall fsees [] (dCons (dVar 0) (dCons (dOp qIx (dVar 1) (Den.ret (.int 2))) (dCons (dVar 2) dNil)))))) sNext) (sSeq (sIf (dOp qEq (dVar 3) (Den.ret (.str "or"))) (sRet (dOr (dCall fsees [] (dCons (dVar 0) (dCons (dOp qIx (dVar 1) (Den.ret (.int 1))) (dCons (dVar 2) dNil)))) (dCall fsees [] (dCons (dVar 0) (dCons (dOp qIx (dVar 1) (Den.ret (.int 2))) (dCons (dVar 2) dNil)))))) sNext) (sRet (dOp qEq (dVar 3) (Den.ret (.str "yes")))))))))
def F_sees : Nat → Fn
  | 0 => fun _ => none
  | n + 1 => fnDen 4 (d_sees (F_sees n) F_Fields__place)
/-! ### packets_of -/
abbrev s_packets_of : Stmt := top 18
abbrev N_packets_of : List Str := ["fields", "look", "packet"]
abbrev P_packets_of : List Str := ["fields", "look"]
def d_packets_of (fis_look : Fn) (fsees : Fn) : SDen :=
  (sSeq (sIf (dNot (dCall fis_look [.int 40] (dCons (dVar 0) (dCons (dVar 1) dNil)))) (sRaise "BadTest") sNext) (sRet (dArgs qTuple (dCons (dLstOf (dLc (dSeq (dFld ["Fields"] "packets" (dVar 0))) (gxN 2) (dCall fsees [] (dCons (dVar 0) (dCons (dVar 1) (dCons (dVar 2) dNil)))) (dVar 2) [2])) dNil))))
def F_packets_of : Fn := fnDen 3 (d_packets_of (F_is_look 60) (F_sees 60))
/-! ### _law_bad_look -/
abbrev s__law_bad_look : Stmt := top 33
abbrev N__law_bad_look : List Str := ["fields", "value"]
abbrev P__law_bad_look : List Str := ["fields", "value"]
def d__law_bad_look (fpackets_of : Fn) : SDen :=
  (sSeq (sTryOnly "BadTest" (sDrop (dCall fpackets_of [] (dCons (dVar 0) (dCons (dVar 1) dNil)))) (sRet (Den.ret (.bl true)))) (sRet (Den.ret (.bl false))))
def F__law_bad_look : Fn := fnDen 2 (d__law_bad_look F_packets_of)
/-! ### _law_sees -/
abbrev s__law_sees : Stmt := top 28
abbrev N__law_sees : List Str := ["rows", "look", "packet", "word", "name", "many"]
abbrev P__law_sees : List Str := ["rows", "look", "packet"]
def d__law_sees (f_law_sees : Fn) : SDen :=
  (sSeq (sSet 3 (dOp qIx (dVar 1) (Den.ret (.int 0)))) (sSeq (sIf (dOp qEq (dVar 3) (Den.ret (.str "at"))) (sRet (dOp qEq (dOp qIx (dVar 2) (dIndexL (dLstOf (dLc (dSeq (dVar 0)) (gxT 2 (gxCons (gxN 4) (gxCons (gxN 5) gxNil))) (Den.ret (.bl true)) (dVar 4) [4, 5])) (dOp qIx (dVar 1) (Den.ret (.int 1))))) (dOp qIx (dVar 1) (Den.ret (.int 2))))) sNext) (sSeq (sIf (dOp qEq (dVar 3) (Den.ret (.str "not"))) (sRet (dNot (dCall f_law_sees [] (dCons (dVar 0) (dCons (dOp qIx (dVar 1) (Den.ret (.int 1))) (dCons (dVar 2) dNil)))))) sNext) (sSeq (sIf (dOp qEq (dVar 3) (Den.ret (.str "and"))) (sRet (dAnd (dCall f_law_sees [] (dCons (dVar 0) (dCons (dOp qIx (dVar 1) (Den.ret (.int 1))) (dCons (dVar 2) dNil)))) (dCall f_law_sees [] (dCons (dVar 0) (dCons (dOp qIx (dVar 1) (Den.ret (.int 2))) (dCons (dVar 2) dNil)))))) sNext) (sRet (dOr (dOp qEq (dVar 3) (Den.ret (.str "yes"))) (dAnd (dOp qEq (dVar 3) (Den.ret (.str "or"))) (dOr (dCall f_law_sees [] (dCons (dVar 0) (dCons (dOp qIx (dVar 1) (Den.ret (.int 1))) (dCons (dVar 2) dNil)))) (dCall f_law_sees [] (dCons (dVar 0) (dCons (dOp qIx (dVar 1) (Den.ret (.int 2))) (dCons (dVar 2) dNil))))))))))))
def F__law_sees : Nat → Fn
  | 0 => fun _ => none
  | n + 1 => fnDen 6 (d__law_sees (F__law_sees n))
/-! ### put -/
abbrev s_put : Stmt := top 19
abbrev N_put : List Str := ["fields", "packet", "field", "value", "at"]
abbrev P_put : List Str := ["fields", "packet", "field", "value"]
def d_put (fFields__place : Fn) : SDen :=
  (sSeq (sSet 4 (dMeth "Fields" "place" fFields__place (dVar 0) (dCons (dVar 2) dNil))) (sRet (dAdd (dAdd (dSl (dVar 1) none (some (dVar 4))) (dTup (dCons (dVar 3) dNil))) (dSl (dVar 1) (some (dAdd (dVar 4) (Den.ret (.int 1)))) none))))
def F_put : Fn := fnDen 5 (d_put F_Fields__place)
/-! ### _law_put -/
abbrev s__law_put : Stmt := top 29
abbrev N__law_put : List Str := ["rows", "packet", "field", "value", "at", "name", "many"]
abbrev P__law_put : List Str := ["rows", "packet", "field", "value"]
def d__law_put : SDen :=
  (sSeq (sSet 4 (dIndexL (dLstOf (dLc (dSeq (dVar 0)) (gxT 2 (gxCons (gxN 5) (gxCons (gxN 6) gxNil))) (Den.ret (.bl true)) (dVar 5) [5, 6])) (dVar 2))) (sRet (dAdd (dAdd (dSl (dVar 1) none (some (dVar 4))) (dTup (dCons (dVar 3) dNil))) (dSl (dVar 1) (some (dAdd (dVar 4) (Den.ret (.int 1)))) none))))
def F__law_put : Fn := fnDen 7 d__law_put
/-! ### just -/
abbrev s_just : Stmt := top 20
abbrev N_just : List Str := ["fields", "packet", "found", "name", "value"]
abbrev P_just : List Str := ["fields", "packet"]
def d_just : SDen :=
  (sSeq (sSet 2 (dTup (dCons (Den.ret (.str "at")) (dCons (dOp qIx (dFld ["Fields"] "names" (dVar 0)) (Den.ret (.int 0))) (dCons (dOp qIx (dVar 1) (Den.ret (.int 0))) dNil))))) (sSeq (sFor (dZip (dSl (dFld ["Fields"] "names" (dVar 0)) (some (Den.ret (.int 1))) none) (dSl (dVar 1) (some (Den.ret (.int 1))) none)) (gxT 2 (gxCons (gxN 3) (gxCons (gxN 4) gxNil))) (sSet 2 (dTup (dCons (Den.ret (.str "and")) (dCons (dVar 2) (dCons (dTup (dCons (Den.ret (.str "at")) (dCons (dVar 3) (dCons (dVar 4) dNil)))) dNil)))))) (sRet (dVar 2))))
def F_just : Fn := fnDen 5 d_just
/-! ### law -/
abbrev s_law : Stmt := top 35
abbrev N_law : List Str := ["script", "draws", "turn", "rows", "fields", "packets", "look", "due", "packet", "value", "wrong", "bad", "name", "many", "k", "deep"]
abbrev P_law : List Str := ["script"]
def d_law (f_law_draws : FnO) (fFields____init__ : FnI) (f_law_fields : FnM) (f_law_rows : Fn) (f_law_look : FnM) (f_law_draw : FnM) (fis_look : Fn) (f_law_bad_fields : Fn) (f_law_same : Fn) (fis_packet : Fn) (fis_value : Fn) (f_law_bad_look : Fn) (fall_rows : Fn) (f_law_sees : Fn) (fpackets_of : Fn) (fsees : Fn) (fput : Fn) (f_law_put : Fn) (fjust : Fn) (fFields__place : Fn) : SDen :=
  (sSeq (sSetM 1 (dCallO f_law_draws (dCons (dVar 0) dNil))) (sSeq (sFor (dRg (Den.ret (.int 4))) (gxN 2) (sSeq (sSet 3 (dCallM 1 f_law_fields dNil)) (sSeq (sSet 4 (dMake "Fields" fFields____init__ (dCons (dVar 3) dNil))) (sSeq (sSet 5 (dCall f_law_rows [] (dCons (dVar 3) dNil))) (sSeq (sIf (dOr (dNot (dCall f_law_same [] (dCons (dTup (dCons (dFld ["Fields"] "rows" (dVar 4)) (dCons (dFld ["Fields"] "packets" (dVar 4)) dNil))) (dCons (dTup (dCons (dVar 3) (dCons (dArgs qTuple (dCons (dVar 5) dNil)) dNil))) dNil)))) (dNot (dCall f_law_same [] (dCons (dFld ["Fields"] "names" (dVar 4)) (dCons (dArgs qTuple (dCons (dLstOf (dLc (dSeq (dVar 3)) (gxT 2 (gxCons (gxN 12) (gxCons (gxN 13) gxNil))) (Den.ret (.bl true)) (dVar 12) [12, 13])) dNil)) dNil))))) (sRet (Den.ret (.bl false))) sNext) (sSeq (sIf (dOr (dNot (dCall f_law_same [] (dCons (dCall fall_rows [] (dCons (dLstOf (dLc (dSeq (dVar 3)) (gxT 2 (gxCons (gxN 12) (gxCons (gxN 13) gxNil))) (Den.ret (.bl true)) (dVar 13) [12, 13])) dNil)) (dCons (dArgs qTuple (dCons (dVar 5) dNil)) dNil)))) (dOp qGt (dArgs qLen (dCons (dLstOf (dLc (dRg (dArgs qLen (dCons (dVar 3) dNil))) (gxN 14) (dOp qNe (dMeth "Fields" "place" fFields__place (dVar 4) (dCons (dOp qIx (dOp qIx (dVar 3) (dVar 14)) (Den.ret (.int 0))) dNil)) (dVar 14)) (dVar 14) [14])) dNil)) (Den.ret (.int 0)))) (sRet (Den.ret (.bl false))) sNext) (sSeq (sSet 6 (dCallM 1 f_law_look (dCons (dVar 3) (dCons (Den.ret (.int 3)) dNil)))) (sSeq (sSet 7 (dArgs qTuple (dCons (dLstOf (dLc (dSeq (dVar 5)) (gxN 8) (dCall f_law_sees [] (dCons (dVar 3) (dCons (dVar 6) (dCons (dVar 8) dNil)))) (dVar 8) [8])) dNil))) (sSeq (sIf (dOr (dOp (qIs true) (dCall fis_look [.int 40] (dCons (dVar 4) (dCons (dVar 6) dNil))) (Den.ret (.bl true))) (dNot (dCall f_law_same [] (dCons (dCall fpackets_of [] (dCons (dVar 4) (dCons (dVar 6) dNil))) (dCons (dVar 7) dNil))))) (sRet (Den.ret (.bl false))) sNext) (sSeq (sSet 8 (dOp qIx (dVar 5) (dCallM 1 f_law_draw (dCons (dArgs qLen (dCons (dVar 5) dNil)) dNil)))) (sSeq (sIf (dOr (dNot (dCall f_law_same [] (dCons (dCall fsees [] (dCons (dVar 4) (dCons (dVar 6) (dCons (dVar 8) dNil)))) (dCons (dOp qIn (dVar 8) (dVar 7)) dNil)))) (dOr (dOp (qIs true) (dCall fis_packet [] (dCons (dVar 4) (dCons (dVar 8) dNil))) (Den.ret (.bl true))) (dNot (dCall f_law_same [] (dCons (dCall fpackets_of [] (dCons (dVar 4) (dCons (dCall fjust [] (dCons (dVar 4) (dCons (dVar 8) dNil))) dNil))) (dCons (dTup (dCons (dVar 8) dNil)) dNil)))))) (sRet (Den.ret (.bl false))) sNext) (sSeq (sSetT (gxT 2 (gxCons (gxN 12) (gxCons (gxN 13) gxNil))) (dOp qIx (dVar 3) (dCallM 1 f_law_draw (dCons (dArgs qLen (dCons (dVar 3) dNil)) dNil)))) (sSeq (sSet 9 (dCallM 1 f_law_draw (dCons (dVar 13) dNil))) (sSeq (sIf (dOr (dNot (dCall f_law_same [] (dCons (dCall fput [] (dCons (dVar 4) (dCons (dVar 8) (dCons (dVar 12) (dCons (dVar 9) dNil))))) (dCons (dCall f_law_put [] (dCons (dVar 3) (dCons (dVar 8) (dCons (dVar 12) (dCons (dVar 9) dNil))))) dNil)))) (dOr (dOp (qIs true) (dCall fis_value [] (dCons (dVar 4) (dCons (dVar 12) (dCons (dVar 9) dNil)))) (Den.ret (.bl true))) (dOp (qIs true) (dCall fis_value [] (dCons (dVar 4) (dCons (dVar 12) (dCons (dVar 13) dNil)))) (Den.ret (.bl false))))) (sRet (Den.ret (.bl false))) sNext) (sSeq (sSet 10 (dLstOf (dShort (dCons (Den.ret (.non)) (dCons (dTup dNil) (dCons (dTup (dCons (Den.ret (.str "at")) dNil)) (dCons (dTup (dCons (Den.ret (.str "at")) (dCons (dVar 12) dNil))) (dCons (dTup (dCons (Den.ret (.str "at")) (dCons (Den.ret (.str "zz")) (dCons (Den.ret (.int 0)) dNil)))) (dCons (dTup (dCons (Den.ret (.str "at")) (dCons (dVar 12) (dCons (dVar 13) dNil)))) (dCons (dTup (dCons (Den.ret (.str "at")) (dCons (dVar 12) (dCons (Den.ret (.bl true)) dNil)))) (dCons (dTup (dCons (Den.ret (.str "not")) dNil)) (dCons (dTup (dCons (Den.ret (.str "and")) (dCons (dVar 6) dNil))) (dCons (dLstOf (dShort (dCons (Den.ret (.str "yes")) dNil))) (dCons (dTup (dCons (Den.ret (.str "is")) (dCons (dVar 12) dNil))) (dCons (dTup (dCons (Den.ret (.str "yes")) (dCons (dVar 6) dNil))) dNil))))))))))))))) (sSeq (sSet 11 (dOp qIx (dVar 10) (dCallM 1 f_law_draw (dCons (Den.ret (.int 12)) dNil)))) (sSeq (sIf (dOr (dOp (qIs true) (dCall fis_look [.int 40] (dCons (dVar 4) (dCons (dVar 11) dNil))) (Den.ret (.bl false))) (dNot (dCall f_law_bad_look [] (dCons (dVar 4) (dCons (dVar 11) dNil))))) (sRet (Den.ret (.bl false))) sNext) (sFor (dSeq (dLstOf (dShort (dCons (Den.ret (.non)) (dCons (dLstOf (dArgs qList (dCons (dVar 8) dNil))) (dCons (dAdd (dVar 8) (dTup (dCons (Den.ret (.int 0)) dNil))) (dCons (dSl (dVar 8) (some (Den.ret (.int 1))) none) (dCons (dAdd (dSl (dVar 8) none (some (dOp qSub (dArgs qLen (dCons (dVar 8) dNil)) (Den.ret (.int 1))))) (dTup (dCons (Den.ret (.int 9)) dNil))) (dCons (dAdd (dSl (dVar 8) none (some (dOp qSub (dArgs qLen (dCons (dVar 8) dNil)) (Den.ret (.int 1))))) (dTup (dCons (dUn qNeg (Den.ret (.int 1))) dNil))) (dCons (dAdd (dSl (dVar 8) none (some (dOp qSub (dArgs qLen (dCons (dVar 8) dNil)) (Den.ret (.int 1))))) (dTup (dCons (Den.ret (.bl false)) dNil))) dNil)))))))))) (gxN 9) (sIf (dOp (qIs true) (dCall fis_packet [] (dCons (dVar 4) (dCons (dVar 9) dNil))) (Den.ret (.bl false))) (sRet (Den.ret (.bl false))) sNext))))))))))))))))))) (sSeq (sSet 15 (dTup (dCons (Den.ret (.str "at")) (dCons (Den.ret (.str "a")) (dCons (Den.ret (.int 0)) dNil))))) (sSeq (sFor (dRg (Den.ret (.int 39))) (gxN 14) (sSet 15 (dTup (dCons (Den.ret (.str "not")) (dCons (dVar 15) dNil))))) (sSeq (sSet 4 (dMake "Fields" fFields____init__ (dCons (dTup (dCons (dTup (dCons (Den.ret (.str "a")) (dCons (Den.ret (.int 1)) dNil))) dNil)) dNil))) (sSeq (sIf (dOr (dOp (qIs true) (dCall fis_look [.int 40] (dCons (dVar 4) (dCons (dVar 15) dNil))) (Den.ret (.bl true))) (dOp (qIs true) (dCall fis_look [.int 40] (dCons (dVar 4) (dCons (dTup (dCons (Den.ret (.str "not")) (dCons (dVar 15) dNil))) dNil))) (Den.ret (.bl false)))) (sRet (Den.ret (.bl false))) sNext) (sSeq (sFor (dSeq (dLstOf (dShort (dCons (dTup dNil) (dCons (Den.ret (.non)) (dCons (dLstOf (dShort (dCons (dTup (dCons (Den.ret (.str "a")) (dCons (Den.ret (.int 2)) dNil))) dNil))) (dCons (dTup (dCons (dTup (dCons (Den.ret (.str "a")) (dCons (Den.ret (.int 0)) dNil))) dNil)) (dCons (dTup (dCons (dTup (dCons (Den.ret (.str "a")) (dCons (Den.ret (.int 7)) dNil))) dNil)) (dCons (dTup (dCons (dTup (dCons (Den.ret (.str "b")) (dCons (Den.ret (.int 2)) dNil))) (dCons (dTup (dCons (Den.ret (.str "a")) (dCons (Den.ret (.int 2)) dNil))) dNil))) (dCons (dTup (dCons (dTup (dCons (Den.ret (.str "a")) (dCons (Den.ret (.int 2)) dNil))) (dCons (dTup (dCons (Den.ret (.str "a")) (dCons (Den.ret (.int 2)) dNil))) dNil))) (dCons (dTup (dCons (dTup (dCons (Den.ret (.str "a")) dNil)) dNil)) (dCons (dTup (dCons (dTup (dCons (Den.ret (.str "A")) (dCons (Den.ret (.int 2)) dNil))) dNil)) (dCons (dTup (dCons (dTup (dCons (Den.ret (.str "a")) (dCons (Den.ret (.int 6)) dNil))) (dCons (dTup (dCons (Den.ret (.str "b")) (dCons (Den.ret (.int 6)) dNil))) (dCons (dTup (dCons (Den.ret (.str "c")) (dCons (Den.ret (.int 2)) dNil))) dNil)))) (dCons (dTup (dCons (dTup (dCons (Den.ret (.str "a")) (dCons (Den.ret (.bl true)) dNil))) dNil)) dNil)))))))))))))) (gxN 9) (sIf (dNot (dCall f_law_bad_fields [] (dCons (dVar 9) dNil))) (sRet (Den.ret (.bl false))) sNext)) (sRet (dOp qEq (dArgs qLen (dCons (dFld ["Fields"] "packets" (dMake "Fields" fFields____init__ (dCons (dTup (dCons (dTup (dCons (Den.ret (.str "a")) (dCons (Den.ret (.int 4)) dNil))) (dCons (dTup (dCons (Den.ret (.str "b")) (dCons (Den.ret (.int 4)) dNil))) (dCons (dTup (dCons (Den.ret (.str "c")) (dCons (Den.ret (.int 4)) dNil))) dNil)))) dNil))) dNil)) (Den.ret (.int 64)))))))))))
def F_law : Fn := fnDen 16 (d_law F__law_draws F_Fields____init__ F__law_fields F__law_rows (F__law_look 60) F__law_draw (F_is_look 60) F__law_bad_fields (F__law_same 60) F_is_packet F_is_value F__law_bad_look F_all_rows (F__law_sees 60) F_packets_of (F_sees 60) F_put F__law_put F_just F_Fields__place)
section
variable {P : Program} {w : World} {K : PySem.W.Frag} {mg : Str → Option Value} {base : Heap} {X_BadTest : Addr}
/-! ### _law_draws -/
theorem sc__law_draws : FnScope N__law_draws P__law_draws (defScope s__law_draws) := ⟨rfl, rfl, rfl, by decide +kernel, rfl, by decide +kernel, by decide +kernel⟩
theorem b__law_draws (T : Top K mg X_BadTest)  {κ : Nat}  (f : Addr) (cdv : Value) (A : Around) (outer : List PySem.Env) (s : Shared) (H : Hp) (E : XK) (hr : RoomG κ (A.deeper (envOfC "_law_draws" (defScope s__law_draws) s.heap.objs.size f cdv)))
    (tk : Takes (cxOf (L2.CX P w) P w K mg base N__law_draws "_law_draws" (defScope s__law_draws) f cdv A outer s H E) (fun cls dd _ H' => E cls dd H')) : PO' (cxOf (L2.CX P w) P w K mg base N__law_draws "_law_draws" (defScope s__law_draws) f cdv A outer s H E) (fun cls dd _ H' => E cls dd H') (match defBody s__law_draws with | [.Return (some e) _] => e | _ => .Constant .none 0 ⟨0, 0, 0, 0⟩) d__law_draws :=
  have sc := sc__law_draws
  (po_lst (pax_cons (px_own (po_list rfl T.b_list (pax_cons (px_var (pv 0)) pax_nil))) (pax_cons px_int (pax_cons px_int (pax_cons px_int pax_nil)))))
/-! ### all_rows -/
theorem sc_all_rows : FnScope N_all_rows P_all_rows (defScope s_all_rows) := ⟨rfl, rfl, rfl, by decide +kernel, rfl, by decide +kernel, by decide +kernel⟩
theorem b_all_rows (T : Top K mg X_BadTest)  {κ : Nat}  (f : Addr) (cdv : Value) (A : Around) (outer : List PySem.Env) (s : Shared) (H : Hp) (E : XK) (hr : RoomG κ (A.deeper (envOfC "all_rows" (defScope s_all_rows) s.heap.objs.size f cdv)))
    (tk : Takes (cxOf (L2.CX P w) P w K mg base N_all_rows "all_rows" (defScope s_all_rows) f cdv A outer s H E) (fun cls dd _ H' => E cls dd H')) : PSsX (cxOf (L2.CX P w) P w K mg base N_all_rows "all_rows" (defScope s_all_rows) f cdv A outer s H E) (fun cls dd _ H' => E cls dd H') (defBody s_all_rows) d_all_rows :=
  have sc := sc_all_rows
  (psx_cons (psx_set (i := 1) sc.nd rfl (Or.inl rfl) (px_own (po_lst (pax_cons (px_tup pax_nil) pax_nil)))) (psx_cons (psx_for (passes_of rfl) rfl (pix_seq (px_var (pv 0))) (pgx_name sc.nd (i := 2) rfl (Or.inr rfl)) (psx_one (psx_setLc2 (i := 1) (own := [("row", 3), ("value", 4)]) (vs1 := [4]) (t := (gName 3)) (is := [3]) (t1 := (gName 4)) (is1 := [4]) rfl sc.nd rfl rfl (sw_true rfl rfl rfl (by kernel_rfl)) (pix_seq (px_var (pv 1))) (blkOk_by (by kernel_rfl)) (by decide) (fun _ _ _ _ _ => (pgx_name sc.nd (i := 3) rfl (Or.inl rfl))) (by decide) (fun _ _ _ _ _ => ptsx_nil) (fun _ _ _ _ _ => (pix_range rfl T.b_range (px_var (pv 2)))) (fun _ _ _ _ _ => (pgx_name sc.nd (i := 4) rfl (Or.inl rfl))) (by decide) (fun _ _ _ _ _ => ptsx_nil) (fun _ _ _ _ _ => (px_add (px_var (pv 3)) (px_tup (pax_cons (px_var (pv 4)) pax_nil))))))) (psx_one (psx_ret (px_tuple rfl T.b_tuple (pax_cons (px_var (pv 1)) pax_nil))))))
/-! ### is_name -/
theorem sc_is_name : FnScope N_is_name P_is_name (defScope s_is_name) := ⟨rfl, rfl, rfl, by decide +kernel, rfl, by decide +kernel, by decide +kernel⟩
theorem b_is_name (T : Top K mg X_BadTest)  {κ : Nat}  (f : Addr) (cdv : Value) (A : Around) (outer : List PySem.Env) (s : Shared) (H : Hp) (E : XK) (hr : RoomG κ (A.deeper (envOfC "is_name" (defScope s_is_name) s.heap.objs.size f cdv)))
    (tk : Takes (cxOf (L2.CX P w) P w K mg base N_is_name "is_name" (defScope s_is_name) f cdv A outer s H E) (fun cls dd _ H' => E cls dd H')) : PSsX (cxOf (L2.CX P w) P w K mg base N_is_name "is_name" (defScope s_is_name) f cdv A outer s H E) (fun cls dd _ H' => E cls dd H') (defBody s_is_name) d_is_name :=
  have sc := sc_is_name
  (psx_one (psx_ret (px_and (px_isT rfl T.b_isinstance (px_var (pv 0)) (pe_bltn rfl T.b_str (by decide +kernel) rfl)) (px_and (px_chain op_lt op_le opP_B opP_B px_int (px_len rfl T.b_len (pax_cons (px_var (pv 0)) pax_nil)) px_int) (px_one (px_all rfl rfl T.b_all (pax_cons (px_own (po_lc (own := [("one", 1)]) (t := (gName 1)) (is := [1]) rfl sc.nd (pix_seq (px_var (pv 0))) (blkOk_by (by kernel_rfl)) (fun _ _ _ _ _ => (pgx_name sc.nd (i := 1) rfl (Or.inl rfl))) (by decide) (fun _ _ _ _ _ => ptsx_nil) (fun _ _ _ _ _ => (px_in hr (px_var (pv 1)) (px_glob T.c_LETTERS rfl))))) pax_nil)))))))
/-! ### is_integer -/
theorem sc_is_integer : FnScope N_is_integer P_is_integer (defScope s_is_integer) := ⟨rfl, rfl, rfl, by decide +kernel, rfl, by decide +kernel, by decide +kernel⟩
theorem b_is_integer (T : Top K mg X_BadTest)  {κ : Nat}  (f : Addr) (cdv : Value) (A : Around) (outer : List PySem.Env) (s : Shared) (H : Hp) (E : XK) (hr : RoomG κ (A.deeper (envOfC "is_integer" (defScope s_is_integer) s.heap.objs.size f cdv)))
    (tk : Takes (cxOf (L2.CX P w) P w K mg base N_is_integer "is_integer" (defScope s_is_integer) f cdv A outer s H E) (fun cls dd _ H' => E cls dd H')) : PSsX (cxOf (L2.CX P w) P w K mg base N_is_integer "is_integer" (defScope s_is_integer) f cdv A outer s H E) (fun cls dd _ H' => E cls dd H') (defBody s_is_integer) d_is_integer :=
  have sc := sc_is_integer
  (psx_one (psx_ret (px_and (px_isT rfl T.b_isinstance (px_var (pv 0)) (pe_bltn rfl T.b_int (by decide +kernel) rfl)) (px_one (px_not (px_isT rfl T.b_isinstance (px_var (pv 0)) (pe_bltn rfl T.b_bool (by decide +kernel) rfl)))))))
/-! ### Fields____init__ -/
theorem sc_Fields____init__ : FnScope N_Fields____init__ P_Fields____init__ (defScope s_Fields____init__) := ⟨rfl, rfl, rfl, by decide +kernel, rfl, by decide +kernel, by decide +kernel⟩
theorem b_Fields____init__ (T : Top K mg X_BadTest) {fall_rows : Fn} {fis_name : Fn} {fis_integer : Fn} {κ : Nat} (Dall_rows : DefK P w K mg base "all_rows" P_all_rows [] κ fall_rows) (Dis_name : DefK P w K mg base "is_name" P_is_name [] κ fis_name) (Dis_integer : DefK P w K mg base "is_integer" P_is_integer [] κ fis_integer) (f : Addr) (cdv : Value) (A : Around) (outer : List PySem.Env) (s : Shared) (H : Hp) (E : XK) (hr : RoomG κ (A.deeper (envOfC "Fields.__init__" (defScope s_Fields____init__) s.heap.objs.size f cdv)))
    (tk : Takes (cxOf (L2.CX P w) P w K mg base N_Fields____init__ "Fields.__init__" (defScope s_Fields____init__) f cdv A outer s H E) (fun cls dd _ H' => E cls dd H')) : PSsX (cxOf (L2.CX P w) P w K mg base N_Fields____init__ "Fields.__init__" (defScope s_Fields____init__) f cdv A outer s H E) (fun cls dd _ H' => E cls dd H') (defBody s_Fields____init__) (d_Fields____init__ fall_rows fis_name fis_integer) :=
  have sc := sc_Fields____init__
  (psx_cons (psx_if (ptx_w (pwx_or (ptx_not (ptx_val (px_isT rfl T.b_isinstance (px_var (pv 1)) (pe_bltn rfl T.b_tuple (by decide +kernel) rfl)))) (pwx_or1 (ptx_not (ptx_chain op_lt op_le opP_B opP_B px_int (px_len rfl T.b_len (pax_cons (px_var (pv 1)) pax_nil)) (px_glob T.c_MOST_FIELDS rfl)))))) (psx_one (psx_raise rfl tk (T.x_BadTest.raises) rfl)) psx_nil) (psx_cons (psx_for (passes_of rfl) rfl (pix_seq (px_var (pv 1))) (pgx_name sc.nd (i := 2) rfl (Or.inl rfl)) (psx_cons (psx_if (ptx_w (pwx_or (ptx_not (ptx_val (px_isT rfl T.b_isinstance (px_var (pv 2)) (pe_bltn rfl T.b_tuple (by decide +kernel) rfl)))) (pwx_or (ptx_ne hr (px_len rfl T.b_len (pax_cons (px_var (pv 2)) pax_nil)) px_int) (pwx_or (ptx_not (ptx_val (px_call ⟨Dis_name⟩ tk hr rfl (pax_cons (px_ix (px_var (pv 2)) px_int) pax_nil) (len_cons len_nil)))) (pwx_or1 (ptx_not (ptx_val (px_call ⟨Dis_integer⟩ tk hr rfl (pax_cons (px_ix (px_var (pv 2)) px_int) pax_nil) (len_cons len_nil))))))))) (psx_one (psx_raise rfl tk (T.x_BadTest.raises) rfl)) psx_nil) (psx_one (psx_if (ptx_not (ptx_chain op_le op_le opP_B opP_B px_int (px_ix (px_var (pv 2)) px_int) (px_glob T.c_MOST_VALUES rfl))) (psx_one (psx_raise rfl tk (T.x_BadTest.raises) rfl)) psx_nil)))) (psx_cons (psx_setLc (i := 3) (own := [("row", 2)]) (t := (gName 2)) (is := [2]) rfl sc.nd rfl rfl (sw_true rfl rfl rfl (by kernel_rfl)) (pix_seq (px_var (pv 1))) (blkOk_by (by kernel_rfl)) (fun _ _ _ _ _ => (pgx_name sc.nd (i := 2) rfl (Or.inl rfl))) (by decide) (fun _ _ _ _ _ => ptsx_nil) (fun _ _ _ _ _ => (px_ix (px_var (pv 2)) px_int))) (psx_cons (psx_set (i := 4) sc.nd rfl (Or.inl rfl) (px_call ⟨Dall_rows⟩ tk hr rfl (pax_cons (px_own (po_lc (own := [("row", 2)]) (t := (gName 2)) (is := [2]) rfl sc.nd (pix_seq (px_var (pv 1))) (blkOk_by (by kernel_rfl)) (fun _ _ _ _ _ => (pgx_name sc.nd (i := 2) rfl (Or.inl rfl))) (by decide) (fun _ _ _ _ _ => ptsx_nil) (fun _ _ _ _ _ => (px_ix (px_var (pv 2)) px_int)))) pax_nil) (len_cons len_nil))) (psx_cons (psx_if (ptx_w (pwx_or (ptx_ne hr (px_var (pv 3)) (px_own (po_sorted rfl rfl T.b_sorted (pax_cons (px_ownD (pd_dc (own := [("name", 5)]) (t := (gName 5)) (is := [5]) rfl sc.nd (pix_seq (px_var (pv 3))) (blkOk_by (by kernel_rfl)) (fun _ _ _ _ _ => (pgx_name sc.nd (i := 5) rfl (Or.inl rfl))) (by decide) (fun _ _ _ _ _ => ptsx_nil) (fun _ _ _ _ _ => (px_var (pv 5))) (fun _ _ _ _ _ => px_bl))) pax_nil)))) (pwx_or1 (ptx_gt (px_len rfl T.b_len (pax_cons (px_var (pv 4)) pax_nil)) (px_glob T.c_MOST_PACKETS rfl))))) (psx_one (psx_raise rfl tk (T.x_BadTest.raises) rfl)) psx_nil) (psx_cons (psx_setFld T.cf_rows (pv 0) (px_var (pv 1))) (psx_cons (psx_setFld T.cf_names (pv 0) (px_tuple rfl T.b_tuple (pax_cons (px_var (pv 3)) pax_nil))) (psx_one (psx_setFld T.cf_packets (pv 0) (px_var (pv 4)))))))))))
/-! ### _law_draw -/
theorem sc__law_draw : FnScope N__law_draw P__law_draw (defScope s__law_draw) := ⟨rfl, rfl, rfl, by decide +kernel, rfl, by decide +kernel, by decide +kernel⟩
theorem b__law_draw (T : Top K mg X_BadTest)  {κ : Nat}  (f : Addr) (cdv : Value) (A : Around) (outer : List PySem.Env) (s : Shared) (H : Hp) (E : XK) (hr : RoomG κ (A.deeper (envOfC "_law_draw" (defScope s__law_draw) s.heap.objs.size f cdv)))
    (tk : Takes (cxOf (L2.CX P w) P w K mg base N__law_draw "_law_draw" (defScope s__law_draw) f cdv A outer s H E) (fun cls dd _ H' => E cls dd H')) : PSsX (cxOf (L2.CX P w) P w K mg base N__law_draw "_law_draw" (defScope s__law_draw) f cdv A outer s H E) (fun cls dd _ H' => E cls dd H') (defBody s__law_draw) d__law_draw :=
  have sc := sc__law_draw
  (psx_cons (psx_if (ptx_w (pwx_and (ptx_eq hr (px_ixM (pv 0) px_int) px_int) (pwx_and1 (ptx_lt (px_ixM (pv 0) px_int) (px_len rfl T.b_len (pax_cons (px_ixM (pv 0) px_int) pax_nil)))))) (psx_cons (psx_set (i := 2) sc.nd rfl (Or.inl rfl) (px_ix (px_ixM (pv 0) px_int) (px_ixM (pv 0) px_int))) (psx_cons (psx_setIxM (pv 0) (px_add (px_ixM (pv 0) px_int) px_int) px_int) (psx_cons (psx_if (ptx_ge (px_var (pv 2)) (px_pow px_int px_int)) (psx_one (psx_setIxM (pv 0) (px_var (pv 2)) px_int)) psx_nil) (psx_one (psx_setIxM (pv 0) (px_mod (px_intOf rfl T.b_int (pax_cons (px_add (px_add (px_mul (px_ixM (pv 0) px_int) px_int) (px_var (pv 2))) px_int) pax_nil)) px_int) px_int))))) psx_nil) (psx_cons (psx_if (ptx_gt (px_ixM (pv 0) px_int) px_int) (psx_cons (psx_set (i := 3) sc.nd rfl (Or.inl rfl) (px_mod (px_intOf rfl T.b_int (pax_cons (px_ixM (pv 0) px_int) pax_nil)) (px_var (pv 1)))) (psx_cons (psx_setIxM (pv 0) (px_div (px_ixM (pv 0) px_int) (px_var (pv 1))) px_int) (psx_one (psx_ret (px_var (pv 3)))))) psx_nil) (psx_cons (psx_setIxM (pv 0) (px_mod (px_intOf rfl T.b_int (pax_cons (px_add (px_mul (px_ixM (pv 0) px_int) px_int) px_int) pax_nil)) px_int) px_int) (psx_one (psx_ret (px_mod (px_intOf rfl T.b_int (pax_cons (px_div (px_ixM (pv 0) px_int) px_int) pax_nil)) (px_var (pv 1))))))))
/-! ### _law_fields -/
theorem sc__law_fields : FnScope N__law_fields P__law_fields (defScope s__law_fields) := ⟨rfl, rfl, rfl, by decide +kernel, rfl, by decide +kernel, by decide +kernel⟩
theorem b__law_fields (T : Top K mg X_BadTest) {f_law_draw : FnM} {κ : Nat} (D_law_draw : DefMK P w K mg base "_law_draw" P__law_draw κ f_law_draw) (f : Addr) (cdv : Value) (A : Around) (outer : List PySem.Env) (s : Shared) (H : Hp) (E : XK) (hr : RoomG κ (A.deeper (envOfC "_law_fields" (defScope s__law_fields) s.heap.objs.size f cdv)))
    (tk : Takes (cxOf (L2.CX P w) P w K mg base N__law_fields "_law_fields" (defScope s__law_fields) f cdv A outer s H E) (fun cls dd _ H' => E cls dd H')) : PSsX (cxOf (L2.CX P w) P w K mg base N__law_fields "_law_fields" (defScope s__law_fields) f cdv A outer s H E) (fun cls dd _ H' => E cls dd H') (defBody s__law_fields) (d__law_fields f_law_draw) :=
  have sc := sc__law_fields
  (psx_one (psx_ret (px_ix (px_own (po_lst (pax_cons (px_tup (pax_cons (px_tup (pax_cons px_str (pax_cons px_int pax_nil))) pax_nil)) (pax_cons (px_tup (pax_cons (px_tup (pax_cons px_str (pax_cons px_int pax_nil))) (pax_cons (px_tup (pax_cons px_str (pax_cons px_int pax_nil))) pax_nil))) (pax_cons (px_tup (pax_cons (px_tup (pax_cons px_str (pax_cons px_int pax_nil))) (pax_cons (px_tup (pax_cons px_str (pax_cons px_int pax_nil))) pax_nil))) (pax_cons (px_tup (pax_cons (px_tup (pax_cons px_str (pax_cons px_int pax_nil))) pax_nil)) (pax_cons (px_tup (pax_cons (px_tup (pax_cons px_str (pax_cons px_int pax_nil))) pax_nil)) (pax_cons (px_tup (pax_cons (px_tup (pax_cons px_str (pax_cons px_int pax_nil))) (pax_cons (px_tup (pax_cons px_str (pax_cons px_int pax_nil))) pax_nil))) pax_nil)))))))) (px_callM ⟨D_law_draw⟩ tk hr rfl (pv 0) (pax_cons px_int pax_nil) (len_cons len_nil)))))
/-! ### _law_rows -/
theorem sc__law_rows : FnScope N__law_rows P__law_rows (defScope s__law_rows) := ⟨rfl, rfl, rfl, by decide +kernel, rfl, by decide +kernel, by decide +kernel⟩
theorem b__law_rows (T : Top K mg X_BadTest)  {κ : Nat}  (f : Addr) (cdv : Value) (A : Around) (outer : List PySem.Env) (s : Shared) (H : Hp) (E : XK) (hr : RoomG κ (A.deeper (envOfC "_law_rows" (defScope s__law_rows) s.heap.objs.size f cdv)))
    (tk : Takes (cxOf (L2.CX P w) P w K mg base N__law_rows "_law_rows" (defScope s__law_rows) f cdv A outer s H E) (fun cls dd _ H' => E cls dd H')) : PSsX (cxOf (L2.CX P w) P w K mg base N__law_rows "_law_rows" (defScope s__law_rows) f cdv A outer s H E) (fun cls dd _ H' => E cls dd H') (defBody s__law_rows) d__law_rows :=
  have sc := sc__law_rows
  (psx_cons (psx_set (i := 1) sc.nd rfl (Or.inl rfl) (px_own (po_lst (pax_cons (px_tup pax_nil) pax_nil)))) (psx_cons (psx_for (passes_of rfl) rfl (pix_seq (px_var (pv 0))) (pgx_tup rfl (pgsx_cons (pgx_name sc.nd (i := 2) rfl (Or.inl rfl)) (pgsx_cons (pgx_name sc.nd (i := 3) rfl (Or.inl rfl)) pgsx_nil))) (psx_cons (psx_set (i := 4) sc.nd rfl (Or.inl rfl) (px_own (po_lst pax_nil))) (psx_cons (psx_for (passes_of rfl) rfl (pix_seq (px_var (pv 1))) (pgx_name sc.nd (i := 5) rfl (Or.inr rfl)) (psx_one (psx_set (i := 4) sc.nd rfl (Or.inl rfl) (px_own (po_catL (px_var (pv 4)) (px_own (po_lc (own := [("value", 6)]) (t := (gName 6)) (is := [6]) rfl sc.nd (pix_range rfl T.b_range (px_var (pv 3))) (blkOk_by (by kernel_rfl)) (fun _ _ _ _ _ => (pgx_name sc.nd (i := 6) rfl (Or.inl rfl))) (by decide) (fun _ _ _ _ _ => ptsx_nil) (fun _ _ _ _ _ => (px_add (px_var (pv 5)) (px_tup (pax_cons (px_var (pv 6)) pax_nil))))))))))) (psx_one (psx_set (i := 1) sc.nd rfl (Or.inl rfl) (px_var (pv 4))))))) (psx_one (psx_ret (px_var (pv 1))))))
/-! ### _law_look -/
theorem sc__law_look : FnScope N__law_look P__law_look (defScope s__law_look) := ⟨rfl, rfl, rfl, by decide +kernel, rfl, by decide +kernel, by decide +kernel⟩
theorem b__law_look (T : Top K mg X_BadTest) {f_law_draw : FnM} {f_law_look : FnM} {κ : Nat} (D_law_draw : DefMK P w K mg base "_law_draw" P__law_draw κ f_law_draw) (D_law_look : DefMK P w K mg base "_law_look" P__law_look κ f_law_look) (f : Addr) (cdv : Value) (A : Around) (outer : List PySem.Env) (s : Shared) (H : Hp) (E : XK) (hr : RoomG κ (A.deeper (envOfC "_law_look" (defScope s__law_look) s.heap.objs.size f cdv)))
    (tk : Takes (cxOf (L2.CX P w) P w K mg base N__law_look "_law_look" (defScope s__law_look) f cdv A outer s H E) (fun cls dd _ H' => E cls dd H')) : PSsX (cxOf (L2.CX P w) P w K mg base N__law_look "_law_look" (defScope s__law_look) f cdv A outer s H E) (fun cls dd _ H' => E cls dd H') (defBody s__law_look) (d__law_look f_law_draw f_law_look) :=
  have sc := sc__law_look
  (psx_cons (psx_set (i := 3) sc.nd rfl (Or.inl rfl) (px_if (ptx_gt (px_var (pv 2)) px_int) (px_callM ⟨D_law_draw⟩ tk hr rfl (pv 0) (pax_cons px_int pax_nil) (len_cons len_nil)) px_int)) (psx_cons (psx_if (ptx_eq hr (px_var (pv 3)) px_int) (psx_one (psx_ret (px_tup (pax_cons px_str (pax_cons (px_callM ⟨D_law_look⟩ tk hr rfl (pv 0) (pax_cons (px_var (pv 1)) (pax_cons (px_sub (px_var (pv 2)) px_int) pax_nil)) (len_cons (len_cons len_nil))) pax_nil))))) psx_nil) (psx_cons (psx_if (ptx_eq hr (px_var (pv 3)) px_int) (psx_one (psx_ret (px_tup (pax_cons (px_ix (px_own (po_lst (pax_cons px_str (pax_cons px_str pax_nil)))) (px_callM ⟨D_law_draw⟩ tk hr rfl (pv 0) (pax_cons px_int pax_nil) (len_cons len_nil))) (pax_cons (px_callM ⟨D_law_look⟩ tk hr rfl (pv 0) (pax_cons (px_var (pv 1)) (pax_cons (px_sub (px_var (pv 2)) px_int) pax_nil)) (len_cons (len_cons len_nil))) (pax_cons (px_callM ⟨D_law_look⟩ tk hr rfl (pv 0) (pax_cons (px_var (pv 1)) (pax_cons (px_sub (px_var (pv 2)) px_int) pax_nil)) (len_cons (len_cons len_nil))) pax_nil)))))) psx_nil) (psx_cons (psx_if (ptx_eq hr (px_var (pv 3)) px_int) (psx_one (psx_ret (px_ix (px_own (po_lst (pax_cons (px_tup (pax_cons px_str pax_nil)) (pax_cons (px_tup (pax_cons px_str pax_nil)) pax_nil)))) (px_callM ⟨D_law_draw⟩ tk hr rfl (pv 0) (pax_cons px_int pax_nil) (len_cons len_nil))))) psx_nil) (psx_cons (psx_setT (pgx_tup rfl (pgsx_cons (pgx_name sc.nd (i := 4) rfl (Or.inl rfl)) (pgsx_cons (pgx_name sc.nd (i := 5) rfl (Or.inl rfl)) pgsx_nil))) (px_ix (px_var (pv 1)) (px_callM ⟨D_law_draw⟩ tk hr rfl (pv 0) (pax_cons (px_len rfl T.b_len (pax_cons (px_var (pv 1)) pax_nil)) pax_nil) (len_cons len_nil)))) (psx_one (psx_ret (px_tup (pax_cons px_str (pax_cons (px_var (pv 4)) (pax_cons (px_callM ⟨D_law_draw⟩ tk hr rfl (pv 0) (pax_cons (px_var (pv 5)) pax_nil) (len_cons len_nil)) pax_nil)))))))))))
/-! ### Fields__place -/
theorem sc_Fields__place : FnScope N_Fields__place P_Fields__place (defScope s_Fields__place) := ⟨rfl, rfl, rfl, by decide +kernel, rfl, by decide +kernel, by decide +kernel⟩
theorem b_Fields__place (T : Top K mg X_BadTest)  {κ : Nat}  (f : Addr) (cdv : Value) (A : Around) (outer : List PySem.Env) (s : Shared) (H : Hp) (E : XK) (hr : RoomG κ (A.deeper (envOfC "Fields.place" (defScope s_Fields__place) s.heap.objs.size f cdv)))
    (tk : Takes (cxOf (L2.CX P w) P w K mg base N_Fields__place "Fields.place" (defScope s_Fields__place) f cdv A outer s H E) (fun cls dd _ H' => E cls dd H')) : PSsX (cxOf (L2.CX P w) P w K mg base N_Fields__place "Fields.place" (defScope s_Fields__place) f cdv A outer s H E) (fun cls dd _ H' => E cls dd H') (defBody s_Fields__place) d_Fields__place :=
  have sc := sc_Fields__place
  (psx_one (psx_ret (px_indexT hr (px_fld T.cf_names (px_var (pv 0))) (px_var (pv 1)))))
/-! ### is_value -/
theorem sc_is_value : FnScope N_is_value P_is_value (defScope s_is_value) := ⟨rfl, rfl, rfl, by decide +kernel, rfl, by decide +kernel, by decide +kernel⟩
theorem b_is_value (T : Top K mg X_BadTest) {fis_name : Fn} {fis_integer : Fn} {fFields__place : Fn} {κ : Nat} (Dis_name : DefK P w K mg base "is_name" P_is_name [] κ fis_name) (Dis_integer : DefK P w K mg base "is_integer" P_is_integer [] κ fis_integer) (DFields__place : DefTK P w K mg base "Fields" "place" P_Fields__place κ fFields__place) (f : Addr) (cdv : Value) (A : Around) (outer : List PySem.Env) (s : Shared) (H : Hp) (E : XK) (hr : RoomG κ (A.deeper (envOfC "is_value" (defScope s_is_value) s.heap.objs.size f cdv)))
    (tk : Takes (cxOf (L2.CX P w) P w K mg base N_is_value "is_value" (defScope s_is_value) f cdv A outer s H E) (fun cls dd _ H' => E cls dd H')) : PSsX (cxOf (L2.CX P w) P w K mg base N_is_value "is_value" (defScope s_is_value) f cdv A outer s H E) (fun cls dd _ H' => E cls dd H') (defBody s_is_value) (d_is_value fis_name fis_integer fFields__place) :=
  have sc := sc_is_value
  (psx_cons (psx_if (ptx_w (pwx_or (ptx_not (ptx_val (px_call ⟨Dis_name⟩ tk hr rfl (pax_cons (px_var (pv 1)) pax_nil) (len_cons len_nil)))) (pwx_or (ptx_notIn hr (px_var (pv 1)) (px_fld T.cf_names (px_var (pv 0)))) (pwx_or1 (ptx_not (ptx_val (px_call ⟨Dis_integer⟩ tk hr rfl (pax_cons (px_var (pv 2)) pax_nil) (len_cons len_nil)))))))) (psx_one (psx_ret px_bl)) psx_nil) (psx_one (psx_ret (px_chain op_le op_lt opP_B opP_B px_int (px_var (pv 2)) (px_ix (px_ix (px_fld T.cf_rows (px_var (pv 0))) (px_meth ⟨DFields__place⟩ tk hr (px_var (pv 0)) (pax_cons (px_var (pv 1)) pax_nil) (len_cons len_nil))) px_int)))))
/-! ### is_look -/
theorem sc_is_look : FnScope N_is_look P_is_look (defScope s_is_look) := ⟨rfl, rfl, rfl, by decide +kernel, rfl, by decide +kernel, by decide +kernel⟩
theorem b_is_look (T : Top K mg X_BadTest) {fis_value : Fn} {fis_look : Fn} {κ : Nat} (Dis_value : DefK P w K mg base "is_value" P_is_value [] κ fis_value) (Dis_look : DefK P w K mg base "is_look" P_is_look [] κ fis_look) (f : Addr) (cdv : Value) (A : Around) (outer : List PySem.Env) (s : Shared) (H : Hp) (E : XK) (hr : RoomG κ (A.deeper (envOfC "is_look" (defScope s_is_look) s.heap.objs.size f cdv)))
    (tk : Takes (cxOf (L2.CX P w) P w K mg base N_is_look "is_look" (defScope s_is_look) f cdv A outer s H E) (fun cls dd _ H' => E cls dd H')) : PSsX (cxOf (L2.CX P w) P w K mg base N_is_look "is_look" (defScope s_is_look) f cdv A outer s H E) (fun cls dd _ H' => E cls dd H') (defBody s_is_look) (d_is_look fis_value fis_look) :=
  have sc := sc_is_look
  (psx_cons (psx_if (ptx_w (pwx_or (ptx_eq hr (px_var (pv 2)) px_int) (pwx_or (ptx_not (ptx_val (px_isT rfl T.b_isinstance (px_var (pv 1)) (pe_bltn rfl T.b_tuple (by decide +kernel) rfl)))) (pwx_or (ptx_eq hr (px_len rfl T.b_len (pax_cons (px_var (pv 1)) pax_nil)) px_int) (pwx_or1 (ptx_not (ptx_val (px_isT rfl T.b_isinstance (px_ix (px_var (pv 1)) px_int) (pe_bltn rfl T.b_str (by decide +kernel) rfl))))))))) (psx_one (psx_ret px_bl)) psx_nil) (psx_cons (psx_set (i := 3) sc.nd rfl (Or.inl rfl) (px_ix (px_var (pv 1)) px_int)) (psx_cons (psx_if (ptx_in hr (px_var (pv 3)) (px_tup (pax_cons px_str (pax_cons px_str pax_nil)))) (psx_one (psx_ret (px_eq hr (px_len rfl T.b_len (pax_cons (px_var (pv 1)) pax_nil)) px_int))) psx_nil) (psx_cons (psx_if (ptx_eq hr (px_var (pv 3)) px_str) (psx_one (psx_ret (px_and (px_eq hr (px_len rfl T.b_len (pax_cons (px_var (pv 1)) pax_nil)) px_int) (px_one (px_call ⟨Dis_value⟩ tk hr rfl (pax_cons (px_var (pv 0)) (pax_cons (px_ix (px_var (pv 1)) px_int) (pax_cons (px_ix (px_var (pv 1)) px_int) pax_nil))) (len_cons (len_cons (len_cons len_nil)))))))) psx_nil) (psx_cons (psx_if (ptx_eq hr (px_var (pv 3)) px_str) (psx_one (psx_ret (px_and (px_eq hr (px_len rfl T.b_len (pax_cons (px_var (pv 1)) pax_nil)) px_int) (px_one (px_call ⟨Dis_look⟩ tk hr rfl (pax_cons (px_var (pv 0)) (pax_cons (px_ix (px_var (pv 1)) px_int) (pax_cons (px_sub (px_var (pv 2)) px_int) pax_nil))) (len_cons (len_cons (len_cons len_nil)))))))) psx_nil) (psx_one (psx_ret (px_and (px_in hr (px_var (pv 3)) (px_tup (pax_cons px_str (pax_cons px_str pax_nil)))) (px_and (px_eq hr (px_len rfl T.b_len (pax_cons (px_var (pv 1)) pax_nil)) px_int) (px_one (px_all rfl rfl T.b_all (pax_cons (px_own (po_lc (own := [("part", 4)]) (t := (gName 4)) (is := [4]) rfl sc.nd (pix_seq (px_slice (px_var (pv 1)) (pox_some px_int) pox_none)) (blkOk_by (by kernel_rfl)) (fun _ _ _ _ _ => (pgx_name sc.nd (i := 4) rfl (Or.inl rfl))) (by decide) (fun _ _ _ _ _ => ptsx_nil) (fun _ _ _ _ _ => (px_call ⟨Dis_look⟩ takes0 hr rfl (pax_cons (px_var (pv 0)) (pax_cons (px_var (pv 4)) (pax_cons (px_sub (px_var (pv 2)) px_int) pax_nil))) (len_cons (len_cons (len_cons len_nil))))))) pax_nil))))))))))))
/-! ### _law_bad_fields -/
theorem sc__law_bad_fields : FnScope N__law_bad_fields P__law_bad_fields (defScope s__law_bad_fields) := ⟨rfl, rfl, rfl, by decide +kernel, rfl, by decide +kernel, by decide +kernel⟩
theorem b__law_bad_fields (T : Top K mg X_BadTest) {fFields____init__ : FnI} {κ : Nat} (DFields____init__ : DefIK P w K mg base "Fields" P_Fields____init__ κ fFields____init__) (f : Addr) (cdv : Value) (A : Around) (outer : List PySem.Env) (s : Shared) (H : Hp) (E : XK) (hr : RoomG κ (A.deeper (envOfC "_law_bad_fields" (defScope s__law_bad_fields) s.heap.objs.size f cdv)))
    (tk : Takes (cxOf (L2.CX P w) P w K mg base N__law_bad_fields "_law_bad_fields" (defScope s__law_bad_fields) f cdv A outer s H E) (fun cls dd _ H' => E cls dd H')) : PSsX (cxOf (L2.CX P w) P w K mg base N__law_bad_fields "_law_bad_fields" (defScope s__law_bad_fields) f cdv A outer s H E) (fun cls dd _ H' => E cls dd H') (defBody s__law_bad_fields) (d__law_bad_fields fFields____init__) :=
  have sc := sc__law_bad_fields
  (psx_cons (psx_try_only rfl rfl (T.x_BadTest.names rfl) T.x_BadTest.g T.x_BadTest.self tk (fun W2 pn2 xe2 tk2 po2 => (psx_one (psx_expr (px_makeK DFields____init__ tk2 hr rfl (pax_cons (px_var (pv 0)) pax_nil) (len_cons len_nil))))) (fun _ _ => (psx_one (psx_ret px_bl)))) (psx_one (psx_ret px_bl)))
/-! ### _law_same -/
theorem sc__law_same : FnScope N__law_same P__law_same (defScope s__law_same) := ⟨rfl, rfl, rfl, by decide +kernel, rfl, by decide +kernel, by decide +kernel⟩
theorem b__law_same (T : Top K mg X_BadTest) {f_law_same : Fn} {κ : Nat} (D_law_same : DefK P w K mg base "_law_same" P__law_same [] κ f_law_same) (f : Addr) (cdv : Value) (A : Around) (outer : List PySem.Env) (s : Shared) (H : Hp) (E : XK) (hr : RoomG κ (A.deeper (envOfC "_law_same" (defScope s__law_same) s.heap.objs.size f cdv)))
    (tk : Takes (cxOf (L2.CX P w) P w K mg base N__law_same "_law_same" (defScope s__law_same) f cdv A outer s H E) (fun cls dd _ H' => E cls dd H')) : PSsX (cxOf (L2.CX P w) P w K mg base N__law_same "_law_same" (defScope s__law_same) f cdv A outer s H E) (fun cls dd _ H' => E cls dd H') (defBody s__law_same) (d__law_same f_law_same) :=
  have sc := sc__law_same
  (psx_cons (psx_if (ptx_w (pwx_or (ptx_val (px_isT rfl T.b_isinstance (px_var (pv 1)) (pe_bltn rfl T.b_tuple (by decide +kernel) rfl))) (pwx_or1 (ptx_val (px_isT rfl T.b_isinstance (px_var (pv 1)) (pe_bltn rfl T.b_list (by decide +kernel) rfl)))))) (psx_cons (psx_if (ptx_w (pwx_or (ptx_ne hr (px_isT rfl T.b_isinstance (px_var (pv 1)) (pe_bltn rfl T.b_tuple (by decide +kernel) rfl)) (px_isT rfl T.b_isinstance (px_var (pv 0)) (pe_bltn rfl T.b_tuple (by decide +kernel) rfl))) (pwx_or1 (ptx_ne hr (px_isT rfl T.b_isinstance (px_var (pv 1)) (pe_bltn rfl T.b_list (by decide +kernel) rfl)) (px_isT rfl T.b_isinstance (px_var (pv 0)) (pe_bltn rfl T.b_list (by decide +kernel) rfl)))))) (psx_one (psx_ret px_bl)) psx_nil) (psx_cons (psx_if (ptx_ne hr (px_len rfl T.b_len (pax_cons (px_var (pv 0)) pax_nil)) (px_len rfl T.b_len (pax_cons (px_var (pv 1)) pax_nil))) (psx_one (psx_ret px_bl)) psx_nil) (psx_one (psx_ret (px_eq hr (px_len rfl T.b_len (pax_cons (px_own (po_lc (own := [("k", 2)]) (t := (gName 2)) (is := [2]) rfl sc.nd (pix_range rfl T.b_range (px_len rfl T.b_len (pax_cons (px_var (pv 1)) pax_nil))) (blkOk_by (by kernel_rfl)) (fun _ _ _ _ _ => (pgx_name sc.nd (i := 2) rfl (Or.inl rfl))) (by decide) (fun _ _ _ _ _ => (ptsx_one (ptx_not (ptx_val (px_call ⟨D_law_same⟩ takes0 hr rfl (pax_cons (px_ix (px_var (pv 0)) (px_var (pv 2))) (pax_cons (px_ix (px_var (pv 1)) (px_var (pv 2))) pax_nil)) (len_cons (len_cons len_nil))))))) (fun _ _ _ _ _ => (px_var (pv 2))))) pax_nil)) px_int))))) psx_nil) (psx_cons (psx_if (ptx_val (px_isT rfl T.b_isinstance (px_var (pv 1)) (pe_bltn rfl T.b_str (by decide +kernel) rfl))) (psx_one (psx_ret (px_and (px_isT rfl T.b_isinstance (px_var (pv 0)) (pe_bltn rfl T.b_str (by decide +kernel) rfl)) (px_one (px_eq hr (px_var (pv 0)) (px_var (pv 1))))))) psx_nil) (psx_cons (psx_if (ptx_is (px_var (pv 1)) px_non) (psx_one (psx_ret (px_is (px_var (pv 0)) px_non))) psx_nil) (psx_cons (psx_if (ptx_w (pwx_or (ptx_val (px_isT rfl T.b_isinstance (px_var (pv 1)) (pe_bltn rfl T.b_bool (by decide +kernel) rfl))) (pwx_or1 (ptx_val (px_isT rfl T.b_isinstance (px_var (pv 0)) (pe_bltn rfl T.b_bool (by decide +kernel) rfl)))))) (psx_one (psx_ret (px_and (px_isT rfl T.b_isinstance (px_var (pv 1)) (pe_bltn rfl T.b_bool (by decide +kernel) rfl)) (px_and (px_isT rfl T.b_isinstance (px_var (pv 0)) (pe_bltn rfl T.b_bool (by decide +kernel) rfl)) (px_one (px_eq hr (px_var (pv 0)) (px_var (pv 1)))))))) psx_nil) (psx_one (psx_ret (px_and (px_isT rfl T.b_isinstance (px_var (pv 0)) (pe_bltn rfl T.b_int (by decide +kernel) rfl)) (px_and (px_isT rfl T.b_isinstance (px_var (pv 1)) (pe_bltn rfl T.b_int (by decide +kernel) rfl)) (px_one (px_eq hr (px_var (pv 0)) (px_var (pv 1))))))))))))
/-! ### is_packet -/
theorem sc_is_packet : FnScope N_is_packet P_is_packet (defScope s_is_packet) := ⟨rfl, rfl, rfl, by decide +kernel, rfl, by decide +kernel, by decide +kernel⟩
theorem b_is_packet (T : Top K mg X_BadTest) {fis_integer : Fn} {κ : Nat} (Dis_integer : DefK P w K mg base "is_integer" P_is_integer [] κ fis_integer) (f : Addr) (cdv : Value) (A : Around) (outer : List PySem.Env) (s : Shared) (H : Hp) (E : XK) (hr : RoomG κ (A.deeper (envOfC "is_packet" (defScope s_is_packet) s.heap.objs.size f cdv)))
    (tk : Takes (cxOf (L2.CX P w) P w K mg base N_is_packet "is_packet" (defScope s_is_packet) f cdv A outer s H E) (fun cls dd _ H' => E cls dd H')) : PSsX (cxOf (L2.CX P w) P w K mg base N_is_packet "is_packet" (defScope s_is_packet) f cdv A outer s H E) (fun cls dd _ H' => E cls dd H') (defBody s_is_packet) (d_is_packet fis_integer) :=
  have sc := sc_is_packet
  (psx_cons (psx_if (ptx_w (pwx_or (ptx_not (ptx_val (px_isT rfl T.b_isinstance (px_var (pv 1)) (pe_bltn rfl T.b_tuple (by decide +kernel) rfl)))) (pwx_or1 (ptx_ne hr (px_len rfl T.b_len (pax_cons (px_var (pv 1)) pax_nil)) (px_len rfl T.b_len (pax_cons (px_fld T.cf_rows (px_var (pv 0))) pax_nil)))))) (psx_one (psx_ret px_bl)) psx_nil) (psx_one (psx_ret (px_all rfl rfl T.b_all (pax_cons (px_own (po_lc (own := [("one", 2), ("row", 3)]) (t := (gTup K 2 (gCons (gName 2) (gCons (gName 3) gNil)))) (is := ([2] ++ ([3] ++ []))) rfl sc.nd (pix_zip rfl T.b_zip (px_var (pv 1)) (px_fld T.cf_rows (px_var (pv 0)))) (blkOk_by (by kernel_rfl)) (fun _ _ _ _ _ => (pgx_tup rfl (pgsx_cons (pgx_name sc.nd (i := 2) rfl (Or.inl rfl)) (pgsx_cons (pgx_name sc.nd (i := 3) rfl (Or.inl rfl)) pgsx_nil)))) (by decide) (fun _ _ _ _ _ => ptsx_nil) (fun _ _ _ _ _ => (px_and (px_call ⟨Dis_integer⟩ takes0 hr rfl (pax_cons (px_var (pv 2)) pax_nil) (len_cons len_nil)) (px_one (px_chain op_le op_lt opP_B opP_B px_int (px_var (pv 2)) (px_ix (px_var (pv 3)) px_int))))))) pax_nil)))))
/-! ### sees -/
theorem sc_sees : FnScope N_sees P_sees (defScope s_sees) := ⟨rfl, rfl, rfl, by decide +kernel, rfl, by decide +kernel, by decide +kernel⟩
theorem b_sees (T : Top K mg X_BadTest) {fsees : Fn} {fFields__place : Fn} {κ : Nat} (Dsees : DefK P w K mg base "sees" P_sees [] κ fsees) (DFields__place : DefTK P w K mg base "Fields" "place" P_Fields__place κ fFields__place) (f : Addr) (cdv : Value) (A : Around) (outer : List PySem.Env) (s : Shared) (H : Hp) (E : XK) (hr : RoomG κ (A.deeper (envOfC "sees" (defScope s_sees) s.heap.objs.size f cdv)))
    (tk : Takes (cxOf (L2.CX P w) P w K mg base N_sees "sees" (defScope s_sees) f cdv A outer s H E) (fun cls dd _ H' => E cls dd H')) : PSsX (cxOf (L2.CX P w) P w K mg base N_sees "sees" (defScope s_sees) f cdv A outer s H E) (fun cls dd _ H' => E cls dd H') (defBody s_sees) (d_sees fsees fFields__place) :=
  have sc := sc_sees
  (psx_cons (psx_set (i := 3) sc.nd rfl (Or.inl rfl) (px_ix (px_var (pv 1)) px_int)) (psx_cons (psx_if (ptx_eq hr (px_var (pv 3)) px_str) (psx_one (psx_ret (px_eq hr (px_ix (px_var (pv 2)) (px_meth ⟨DFields__place⟩ tk hr (px_var (pv 0)) (pax_cons (px_ix (px_var (pv 1)) px_int) pax_nil) (len_cons len_nil))) (px_ix (px_var (pv 1)) px_int)))) psx_nil) (psx_cons (psx_if (ptx_eq hr (px_var (pv 3)) px_str) (psx_one (psx_ret (px_not (px_call ⟨Dsees⟩ tk hr rfl (pax_cons (px_var (pv 0)) (pax_cons (px_ix (px_var (pv 1)) px_int) (pax_cons (px_var (pv 2)) pax_nil))) (len_cons (len_cons (len_cons len_nil))))))) psx_nil) (psx_cons (psx_if (ptx_eq hr (px_var (pv 3)) px_str) (psx_one (psx_ret (px_and (px_call ⟨Dsees⟩ tk hr rfl (pax_cons (px_var (pv 0)) (pax_cons (px_ix (px_var (pv 1)) px_int) (pax_cons (px_var (pv 2)) pax_nil))) (len_cons (len_cons (len_cons len_nil)))) (px_one (px_call ⟨Dsees⟩ tk hr rfl (pax_cons (px_var (pv 0)) (pax_cons (px_ix (px_var (pv 1)) px_int) (pax_cons (px_var (pv 2)) pax_nil))) (len_cons (len_cons (len_cons len_nil)))))))) psx_nil) (psx_cons (psx_if (ptx_eq hr (px_var (pv 3)) px_str) (psx_one (psx_ret (px_or (px_call ⟨Dsees⟩ tk hr rfl (pax_cons (px_var (pv 0)) (pax_cons (px_ix (px_var (pv 1)) px_int) (pax_cons (px_var (pv 2)) pax_nil))) (len_cons (len_cons (len_cons len_nil)))) (px_one (px_call ⟨Dsees⟩ tk hr rfl (pax_cons (px_var (pv 0)) (pax_cons (px_ix (px_var (pv 1)) px_int) (pax_cons (px_var (pv 2)) pax_nil))) (len_cons (len_cons (len_cons len_nil)))))))) psx_nil) (psx_one (psx_ret (px_eq hr (px_var (pv 3)) px_str))))))))
/-! ### packets_of -/
theorem sc_packets_of : FnScope N_packets_of P_packets_of (defScope s_packets_of) := ⟨rfl, rfl, rfl, by decide +kernel, rfl, by decide +kernel, by decide +kernel⟩
theorem b_packets_of (T : Top K mg X_BadTest) {fis_look : Fn} {fsees : Fn} {κ : Nat} (Dis_look_1 : DefK P w K mg base "is_look" P_is_look [.int 40] κ fis_look) (Dsees : DefK P w K mg base "sees" P_sees [] κ fsees) (f : Addr) (cdv : Value) (A : Around) (outer : List PySem.Env) (s : Shared) (H : Hp) (E : XK) (hr : RoomG κ (A.deeper (envOfC "packets_of" (defScope s_packets_of) s.heap.objs.size f cdv)))
    (tk : Takes (cxOf (L2.CX P w) P w K mg base N_packets_of "packets_of" (defScope s_packets_of) f cdv A outer s H E) (fun cls dd _ H' => E cls dd H')) : PSsX (cxOf (L2.CX P w) P w K mg base N_packets_of "packets_of" (defScope s_packets_of) f cdv A outer s H E) (fun cls dd _ H' => E cls dd H') (defBody s_packets_of) (d_packets_of fis_look fsees) :=
  have sc := sc_packets_of
  (psx_cons (psx_if (ptx_not (ptx_val (px_call ⟨Dis_look_1⟩ tk hr rfl (pax_cons (px_var (pv 0)) (pax_cons (px_var (pv 1)) pax_nil)) (len_cons (len_cons len_nil))))) (psx_one (psx_raise rfl tk (T.x_BadTest.raises) rfl)) psx_nil) (psx_one (psx_ret (px_tuple rfl T.b_tuple (pax_cons (px_own (po_lc (own := [("packet", 2)]) (t := (gName 2)) (is := [2]) rfl sc.nd (pix_seq (px_fld T.cf_packets (px_var (pv 0)))) (blkOk_by (by kernel_rfl)) (fun _ _ _ _ _ => (pgx_name sc.nd (i := 2) rfl (Or.inl rfl))) (by decide) (fun _ _ _ _ _ => (ptsx_one (ptx_val (px_call ⟨Dsees⟩ takes0 hr rfl (pax_cons (px_var (pv 0)) (pax_cons (px_var (pv 1)) (pax_cons (px_var (pv 2)) pax_nil))) (len_cons (len_cons (len_cons len_nil))))))) (fun _ _ _ _ _ => (px_var (pv 2))))) pax_nil)))))
/-! ### _law_bad_look -/
theorem sc__law_bad_look : FnScope N__law_bad_look P__law_bad_look (defScope s__law_bad_look) := ⟨rfl, rfl, rfl, by decide +kernel, rfl, by decide +kernel, by decide +kernel⟩
theorem b__law_bad_look (T : Top K mg X_BadTest) {fpackets_of : Fn} {κ : Nat} (Dpackets_of : DefK P w K mg base "packets_of" P_packets_of [] κ fpackets_of) (f : Addr) (cdv : Value) (A : Around) (outer : List PySem.Env) (s : Shared) (H : Hp) (E : XK) (hr : RoomG κ (A.deeper (envOfC "_law_bad_look" (defScope s__law_bad_look) s.heap.objs.size f cdv)))
    (tk : Takes (cxOf (L2.CX P w) P w K mg base N__law_bad_look "_law_bad_look" (defScope s__law_bad_look) f cdv A outer s H E) (fun cls dd _ H' => E cls dd H')) : PSsX (cxOf (L2.CX P w) P w K mg base N__law_bad_look "_law_bad_look" (defScope s__law_bad_look) f cdv A outer s H E) (fun cls dd _ H' => E cls dd H') (defBody s__law_bad_look) (d__law_bad_look fpackets_of) :=
  have sc := sc__law_bad_look
  (psx_cons (psx_try_only rfl rfl (T.x_BadTest.names rfl) T.x_BadTest.g T.x_BadTest.self tk (fun W2 pn2 xe2 tk2 po2 => (psx_one (psx_expr (px_call ⟨Dpackets_of⟩ tk2 hr rfl (pax_cons (px_var (pv 0)) (pax_cons (px_var (pv 1)) pax_nil)) (len_cons (len_cons len_nil)))))) (fun _ _ => (psx_one (psx_ret px_bl)))) (psx_one (psx_ret px_bl)))
/-! ### _law_sees -/
theorem sc__law_sees : FnScope N__law_sees P__law_sees (defScope s__law_sees) := ⟨rfl, rfl, rfl, by decide +kernel, rfl, by decide +kernel, by decide +kernel⟩
theorem b__law_sees (T : Top K mg X_BadTest) {f_law_sees : Fn} {κ : Nat} (D_law_sees : DefK P w K mg base "_law_sees" P__law_sees [] κ f_law_sees) (f : Addr) (cdv : Value) (A : Around) (outer : List PySem.Env) (s : Shared) (H : Hp) (E : XK) (hr : RoomG κ (A.deeper (envOfC "_law_sees" (defScope s__law_sees) s.heap.objs.size f cdv)))
    (tk : Takes (cxOf (L2.CX P w) P w K mg base N__law_sees "_law_sees" (defScope s__law_sees) f cdv A outer s H E) (fun cls dd _ H' => E cls dd H')) : PSsX (cxOf (L2.CX P w) P w K mg base N__law_sees "_law_sees" (defScope s__law_sees) f cdv A outer s H E) (fun cls dd _ H' => E cls dd H') (defBody s__law_sees) (d__law_sees f_law_sees) :=
  have sc := sc__law_sees
  (psx_cons (psx_set (i := 3) sc.nd rfl (Or.inl rfl) (px_ix (px_var (pv 1)) px_int)) (psx_cons (psx_if (ptx_eq hr (px_var (pv 3)) px_str) (psx_one (psx_ret (px_eq hr (px_ix (px_var (pv 2)) (px_indexL hr (px_own (po_lc (own := [("name", 4), ("many", 5)]) (t := (gTup K 2 (gCons (gName 4) (gCons (gName 5) gNil)))) (is := ([4] ++ ([5] ++ []))) rfl sc.nd (pix_seq (px_var (pv 0))) (blkOk_by (by kernel_rfl)) (fun _ _ _ _ _ => (pgx_tup rfl (pgsx_cons (pgx_name sc.nd (i := 4) rfl (Or.inl rfl)) (pgsx_cons (pgx_name sc.nd (i := 5) rfl (Or.inl rfl)) pgsx_nil)))) (by decide) (fun _ _ _ _ _ => ptsx_nil) (fun _ _ _ _ _ => (px_var (pv 4))))) (px_ix (px_var (pv 1)) px_int))) (px_ix (px_var (pv 1)) px_int)))) psx_nil) (psx_cons (psx_if (ptx_eq hr (px_var (pv 3)) px_str) (psx_one (psx_ret (px_not (px_call ⟨D_law_sees⟩ tk hr rfl (pax_cons (px_var (pv 0)) (pax_cons (px_ix (px_var (pv 1)) px_int) (pax_cons (px_var (pv 2)) pax_nil))) (len_cons (len_cons (len_cons len_nil))))))) psx_nil) (psx_cons (psx_if (ptx_eq hr (px_var (pv 3)) px_str) (psx_one (psx_ret (px_and (px_call ⟨D_law_sees⟩ tk hr rfl (pax_cons (px_var (pv 0)) (pax_cons (px_ix (px_var (pv 1)) px_int) (pax_cons (px_var (pv 2)) pax_nil))) (len_cons (len_cons (len_cons len_nil)))) (px_one (px_call ⟨D_law_sees⟩ tk hr rfl (pax_cons (px_var (pv 0)) (pax_cons (px_ix (px_var (pv 1)) px_int) (pax_cons (px_var (pv 2)) pax_nil))) (len_cons (len_cons (len_cons len_nil)))))))) psx_nil) (psx_one (psx_ret (px_or (px_eq hr (px_var (pv 3)) px_str) (px_one (px_and (px_eq hr (px_var (pv 3)) px_str) (px_one (px_or (px_call ⟨D_law_sees⟩ tk hr rfl (pax_cons (px_var (pv 0)) (pax_cons (px_ix (px_var (pv 1)) px_int) (pax_cons (px_var (pv 2)) pax_nil))) (len_cons (len_cons (len_cons len_nil)))) (px_one (px_call ⟨D_law_sees⟩ tk hr rfl (pax_cons (px_var (pv 0)) (pax_cons (px_ix (px_var (pv 1)) px_int) (pax_cons (px_var (pv 2)) pax_nil))) (len_cons (len_cons (len_cons len_nil))))))))))))))))
/-! ### put -/
theorem sc_put : FnScope N_put P_put (defScope s_put) := ⟨rfl, rfl, rfl, by decide +kernel, rfl, by decide +kernel, by decide +kernel⟩
theorem b_put (T : Top K mg X_BadTest) {fFields__place : Fn} {κ : Nat} (DFields__place : DefTK P w K mg base "Fields" "place" P_Fields__place κ fFields__place) (f : Addr) (cdv : Value) (A : Around) (outer : List PySem.Env) (s : Shared) (H : Hp) (E : XK) (hr : RoomG κ (A.deeper (envOfC "put" (defScope s_put) s.heap.objs.size f cdv)))
    (tk : Takes (cxOf (L2.CX P w) P w K mg base N_put "put" (defScope s_put) f cdv A outer s H E) (fun cls dd _ H' => E cls dd H')) : PSsX (cxOf (L2.CX P w) P w K mg base N_put "put" (defScope s_put) f cdv A outer s H E) (fun cls dd _ H' => E cls dd H') (defBody s_put) (d_put fFields__place) :=
  have sc := sc_put
  (psx_cons (psx_set (i := 4) sc.nd rfl (Or.inl rfl) (px_meth ⟨DFields__place⟩ tk hr (px_var (pv 0)) (pax_cons (px_var (pv 2)) pax_nil) (len_cons len_nil))) (psx_one (psx_ret (px_add (px_add (px_slice (px_var (pv 1)) pox_none (pox_some (px_var (pv 4)))) (px_tup (pax_cons (px_var (pv 3)) pax_nil))) (px_slice (px_var (pv 1)) (pox_some (px_add (px_var (pv 4)) px_int)) pox_none)))))
/-! ### _law_put -/
theorem sc__law_put : FnScope N__law_put P__law_put (defScope s__law_put) := ⟨rfl, rfl, rfl, by decide +kernel, rfl, by decide +kernel, by decide +kernel⟩
theorem b__law_put (T : Top K mg X_BadTest)  {κ : Nat}  (f : Addr) (cdv : Value) (A : Around) (outer : List PySem.Env) (s : Shared) (H : Hp) (E : XK) (hr : RoomG κ (A.deeper (envOfC "_law_put" (defScope s__law_put) s.heap.objs.size f cdv)))
    (tk : Takes (cxOf (L2.CX P w) P w K mg base N__law_put "_law_put" (defScope s__law_put) f cdv A outer s H E) (fun cls dd _ H' => E cls dd H')) : PSsX (cxOf (L2.CX P w) P w K mg base N__law_put "_law_put" (defScope s__law_put) f cdv A outer s H E) (fun cls dd _ H' => E cls dd H') (defBody s__law_put) d__law_put :=
  have sc := sc__law_put
  (psx_cons (psx_set (i := 4) sc.nd rfl (Or.inl rfl) (px_indexL hr (px_own (po_lc (own := [("name", 5), ("many", 6)]) (t := (gTup K 2 (gCons (gName 5) (gCons (gName 6) gNil)))) (is := ([5] ++ ([6] ++ []))) rfl sc.nd (pix_seq (px_var (pv 0))) (blkOk_by (by kernel_rfl)) (fun _ _ _ _ _ => (pgx_tup rfl (pgsx_cons (pgx_name sc.nd (i := 5) rfl (Or.inl rfl)) (pgsx_cons (pgx_name sc.nd (i := 6) rfl (Or.inl rfl)) pgsx_nil)))) (by decide) (fun _ _ _ _ _ => ptsx_nil) (fun _ _ _ _ _ => (px_var (pv 5))))) (px_var (pv 2)))) (psx_one (psx_ret (px_add (px_add (px_slice (px_var (pv 1)) pox_none (pox_some (px_var (pv 4)))) (px_tup (pax_cons (px_var (pv 3)) pax_nil))) (px_slice (px_var (pv 1)) (pox_some (px_add (px_var (pv 4)) px_int)) pox_none)))))
/-! ### just -/
theorem sc_just : FnScope N_just P_just (defScope s_just) := ⟨rfl, rfl, rfl, by decide +kernel, rfl, by decide +kernel, by decide +kernel⟩
theorem b_just (T : Top K mg X_BadTest)  {κ : Nat}  (f : Addr) (cdv : Value) (A : Around) (outer : List PySem.Env) (s : Shared) (H : Hp) (E : XK) (hr : RoomG κ (A.deeper (envOfC "just" (defScope s_just) s.heap.objs.size f cdv)))
    (tk : Takes (cxOf (L2.CX P w) P w K mg base N_just "just" (defScope s_just) f cdv A outer s H E) (fun cls dd _ H' => E cls dd H')) : PSsX (cxOf (L2.CX P w) P w K mg base N_just "just" (defScope s_just) f cdv A outer s H E) (fun cls dd _ H' => E cls dd H') (defBody s_just) d_just :=
  have sc := sc_just
  (psx_cons (psx_set (i := 2) sc.nd rfl (Or.inl rfl) (px_tup (pax_cons px_str (pax_cons (px_ix (px_fld T.cf_names (px_var (pv 0))) px_int) (pax_cons (px_ix (px_var (pv 1)) px_int) pax_nil))))) (psx_cons (psx_for (passes_of rfl) rfl (pix_zip rfl T.b_zip (px_slice (px_fld T.cf_names (px_var (pv 0))) (pox_some px_int) pox_none) (px_slice (px_var (pv 1)) (pox_some px_int) pox_none)) (pgx_tup rfl (pgsx_cons (pgx_name sc.nd (i := 3) rfl (Or.inl rfl)) (pgsx_cons (pgx_name sc.nd (i := 4) rfl (Or.inl rfl)) pgsx_nil))) (psx_one (psx_set (i := 2) sc.nd rfl (Or.inl rfl) (px_tup (pax_cons px_str (pax_cons (px_var (pv 2)) (pax_cons (px_tup (pax_cons px_str (pax_cons (px_var (pv 3)) (pax_cons (px_var (pv 4)) pax_nil)))) pax_nil))))))) (psx_one (psx_ret (px_var (pv 2))))))
/-! ### law -/
theorem sc_law : FnScope N_law P_law (defScope s_law) := ⟨rfl, rfl, rfl, by decide +kernel, rfl, by decide +kernel, by decide +kernel⟩
theorem b_law (T : Top K mg X_BadTest) {f_law_draws : FnO} {fFields____init__ : FnI} {f_law_fields : FnM} {f_law_rows : Fn} {f_law_look : FnM} {f_law_draw : FnM} {fis_look : Fn} {f_law_bad_fields : Fn} {f_law_same : Fn} {fis_packet : Fn} {fis_value : Fn} {f_law_bad_look : Fn} {fall_rows : Fn} {f_law_sees : Fn} {fpackets_of : Fn} {fsees : Fn} {fput : Fn} {f_law_put : Fn} {fjust : Fn} {fFields__place : Fn} {κ : Nat} (D_law_draws : DefOK P w K mg base "_law_draws" P__law_draws κ f_law_draws) (DFields____init__ : DefIK P w K mg base "Fields" P_Fields____init__ κ fFields____init__) (D_law_fields : DefMK P w K mg base "_law_fields" P__law_fields κ f_law_fields) (D_law_rows : DefK P w K mg base "_law_rows" P__law_rows [] κ f_law_rows) (D_law_look : DefMK P w K mg base "_law_look" P__law_look κ f_law_look) (D_law_draw : DefMK P w K mg base "_law_draw" P__law_draw κ f_law_draw) (Dis_look_1 : DefK P w K mg base "is_look" P_is_look [.int 40] κ fis_look) (D_law_bad_fields : DefK P w K mg base "_law_bad_fields" P__law_bad_fields [] κ f_law_bad_fields) (D_law_same : DefK P w K mg base "_law_same" P__law_same [] κ f_law_same) (Dis_packet : DefK P w K mg base "is_packet" P_is_packet [] κ fis_packet) (Dis_value : DefK P w K mg base "is_value" P_is_value [] κ fis_value) (D_law_bad_look : DefK P w K mg base "_law_bad_look" P__law_bad_look [] κ f_law_bad_look) (Dall_rows : DefK P w K mg base "all_rows" P_all_rows [] κ fall_rows) (D_law_sees : DefK P w K mg base "_law_sees" P__law_sees [] κ f_law_sees) (Dpackets_of : DefK P w K mg base "packets_of" P_packets_of [] κ fpackets_of) (Dsees : DefK P w K mg base "sees" P_sees [] κ fsees) (Dput : DefK P w K mg base "put" P_put [] κ fput) (D_law_put : DefK P w K mg base "_law_put" P__law_put [] κ f_law_put) (Djust : DefK P w K mg base "just" P_just [] κ fjust) (DFields__place : DefTK P w K mg base "Fields" "place" P_Fields__place κ fFields__place) (f : Addr) (cdv : Value) (A : Around) (outer : List PySem.Env) (s : Shared) (H : Hp) (E : XK) (hr : RoomG κ (A.deeper (envOfC "law" (defScope s_law) s.heap.objs.size f cdv)))
    (tk : Takes (cxOf (L2.CX P w) P w K mg base N_law "law" (defScope s_law) f cdv A outer s H E) (fun cls dd _ H' => E cls dd H')) : PSsX (cxOf (L2.CX P w) P w K mg base N_law "law" (defScope s_law) f cdv A outer s H E) (fun cls dd _ H' => E cls dd H') (defBody s_law) (d_law f_law_draws fFields____init__ f_law_fields f_law_rows f_law_look f_law_draw fis_look f_law_bad_fields f_law_same fis_packet fis_value f_law_bad_look fall_rows f_law_sees fpackets_of fsees fput f_law_put fjust fFields__place) :=
  have sc := sc_law
  (psx_cons (psx_setM (i := 1) sc.nd rfl (Or.inl rfl) (po_callO ⟨D_law_draws⟩ tk hr rfl (pax_cons (px_var (pv 0)) pax_nil) (len_cons len_nil))) (psx_cons (psx_for (passes_of rfl) rfl (pix_range rfl T.b_range px_int) (pgx_name sc.nd (i := 2) rfl (Or.inl rfl)) (psx_cons (psx_set (i := 3) sc.nd rfl (Or.inr rfl) (px_callM ⟨D_law_fields⟩ tk hr rfl (pv 1) pax_nil len_nil)) (psx_cons (psx_set (i := 4) sc.nd rfl (Or.inr rfl) (px_makeK DFields____init__ tk hr rfl (pax_cons (px_var (pv 3)) pax_nil) (len_cons len_nil))) (psx_cons (psx_set (i := 5) sc.nd rfl (Or.inl rfl) (px_call ⟨D_law_rows⟩ tk hr rfl (pax_cons (px_var (pv 3)) pax_nil) (len_cons len_nil))) (psx_cons (psx_if (ptx_w (pwx_or (ptx_not (ptx_val (px_call ⟨D_law_same⟩ tk hr rfl (pax_cons (px_tup (pax_cons (px_fld T.cf_rows (px_var (pv 4))) (pax_cons (px_fld T.cf_packets (px_var (pv 4))) pax_nil))) (pax_cons (px_tup (pax_cons (px_var (pv 3)) (pax_cons (px_tuple rfl T.b_tuple (pax_cons (px_var (pv 5)) pax_nil)) pax_nil))) pax_nil)) (len_cons (len_cons len_nil))))) (pwx_or1 (ptx_not (ptx_val (px_call ⟨D_law_same⟩ tk hr rfl (pax_cons (px_fld T.cf_names (px_var (pv 4))) (pax_cons (px_tuple rfl T.b_tuple (pax_cons (px_own (po_lc (own := [("name", 12), ("many", 13)]) (t := (gTup K 2 (gCons (gName 12) (gCons (gName 13) gNil)))) (is := ([12] ++ ([13] ++ []))) rfl sc.nd (pix_seq (px_var (pv 3))) (blkOk_by (by kernel_rfl)) (fun _ _ _ _ _ => (pgx_tup rfl (pgsx_cons (pgx_name sc.nd (i := 12) rfl (Or.inl rfl)) (pgsx_cons (pgx_name sc.nd (i := 13) rfl (Or.inl rfl)) pgsx_nil)))) (by decide) (fun _ _ _ _ _ => ptsx_nil) (fun _ _ _ _ _ => (px_var (pv 12))))) pax_nil)) pax_nil)) (len_cons (len_cons len_nil)))))))) (psx_one (psx_ret px_bl)) psx_nil) (psx_cons (psx_if (ptx_w (pwx_or (ptx_not (ptx_val (px_call ⟨D_law_same⟩ tk hr rfl (pax_cons (px_call ⟨Dall_rows⟩ tk hr rfl (pax_cons (px_own (po_lc (own := [("name", 12), ("many", 13)]) (t := (gTup K 2 (gCons (gName 12) (gCons (gName 13) gNil)))) (is := ([12] ++ ([13] ++ []))) rfl sc.nd (pix_seq (px_var (pv 3))) (blkOk_by (by kernel_rfl)) (fun _ _ _ _ _ => (pgx_tup rfl (pgsx_cons (pgx_name sc.nd (i := 12) rfl (Or.inl rfl)) (pgsx_cons (pgx_name sc.nd (i := 13) rfl (Or.inl rfl)) pgsx_nil)))) (by decide) (fun _ _ _ _ _ => ptsx_nil) (fun _ _ _ _ _ => (px_var (pv 13))))) pax_nil) (len_cons len_nil)) (pax_cons (px_tuple rfl T.b_tuple (pax_cons (px_var (pv 5)) pax_nil)) pax_nil)) (len_cons (len_cons len_nil))))) (pwx_or1 (ptx_gt (px_len rfl T.b_len (pax_cons (px_own (po_lc (own := [("k", 14)]) (t := (gName 14)) (is := [14]) rfl sc.nd (pix_range rfl T.b_range (px_len rfl T.b_len (pax_cons (px_var (pv 3)) pax_nil))) (blkOk_by (by kernel_rfl)) (fun _ _ _ _ _ => (pgx_name sc.nd (i := 14) rfl (Or.inl rfl))) (by decide) (fun _ _ _ _ _ => (ptsx_one (ptx_ne hr (px_meth ⟨DFields__place⟩ takes0 hr (px_var (pv 4)) (pax_cons (px_ix (px_ix (px_var (pv 3)) (px_var (pv 14))) px_int) pax_nil) (len_cons len_nil)) (px_var (pv 14))))) (fun _ _ _ _ _ => (px_var (pv 14))))) pax_nil)) px_int)))) (psx_one (psx_ret px_bl)) psx_nil) (psx_cons (psx_set (i := 6) sc.nd rfl (Or.inr rfl) (px_callM ⟨D_law_look⟩ tk hr rfl (pv 1) (pax_cons (px_var (pv 3)) (pax_cons px_int pax_nil)) (len_cons (len_cons len_nil)))) (psx_cons (psx_set (i := 7) sc.nd rfl (Or.inl rfl) (px_tuple rfl T.b_tuple (pax_cons (px_own (po_lc (own := [("packet", 8)]) (t := (gName 8)) (is := [8]) rfl sc.nd (pix_seq (px_var (pv 5))) (blkOk_by (by kernel_rfl)) (fun _ _ _ _ _ => (pgx_name sc.nd (i := 8) rfl (Or.inl rfl))) (by decide) (fun _ _ _ _ _ => (ptsx_one (ptx_val (px_call ⟨D_law_sees⟩ takes0 hr rfl (pax_cons (px_var (pv 3)) (pax_cons (px_var (pv 6)) (pax_cons (px_var (pv 8)) pax_nil))) (len_cons (len_cons (len_cons len_nil))))))) (fun _ _ _ _ _ => (px_var (pv 8))))) pax_nil))) (psx_cons (psx_if (ptx_w (pwx_or (ptx_isNot (px_call ⟨Dis_look_1⟩ tk hr rfl (pax_cons (px_var (pv 4)) (pax_cons (px_var (pv 6)) pax_nil)) (len_cons (len_cons len_nil))) px_bl) (pwx_or1 (ptx_not (ptx_val (px_call ⟨D_law_same⟩ tk hr rfl (pax_cons (px_call ⟨Dpackets_of⟩ tk hr rfl (pax_cons (px_var (pv 4)) (pax_cons (px_var (pv 6)) pax_nil)) (len_cons (len_cons len_nil))) (pax_cons (px_var (pv 7)) pax_nil)) (len_cons (len_cons len_nil)))))))) (psx_one (psx_ret px_bl)) psx_nil) (psx_cons (psx_set (i := 8) sc.nd rfl (Or.inl rfl) (px_ix (px_var (pv 5)) (px_callM ⟨D_law_draw⟩ tk hr rfl (pv 1) (pax_cons (px_len rfl T.b_len (pax_cons (px_var (pv 5)) pax_nil)) pax_nil) (len_cons len_nil)))) (psx_cons (psx_if (ptx_w (pwx_or (ptx_not (ptx_val (px_call ⟨D_law_same⟩ tk hr rfl (pax_cons (px_call ⟨Dsees⟩ tk hr rfl (pax_cons (px_var (pv 4)) (pax_cons (px_var (pv 6)) (pax_cons (px_var (pv 8)) pax_nil))) (len_cons (len_cons (len_cons len_nil)))) (pax_cons (px_in hr (px_var (pv 8)) (px_var (pv 7))) pax_nil)) (len_cons (len_cons len_nil))))) (pwx_or (ptx_isNot (px_call ⟨Dis_packet⟩ tk hr rfl (pax_cons (px_var (pv 4)) (pax_cons (px_var (pv 8)) pax_nil)) (len_cons (len_cons len_nil))) px_bl) (pwx_or1 (ptx_not (ptx_val (px_call ⟨D_law_same⟩ tk hr rfl (pax_cons (px_call ⟨Dpackets_of⟩ tk hr rfl (pax_cons (px_var (pv 4)) (pax_cons (px_call ⟨Djust⟩ tk hr rfl (pax_cons (px_var (pv 4)) (pax_cons (px_var (pv 8)) pax_nil)) (len_cons (len_cons len_nil))) pax_nil)) (len_cons (len_cons len_nil))) (pax_cons (px_tup (pax_cons (px_var (pv 8)) pax_nil)) pax_nil)) (len_cons (len_cons len_nil))))))))) (psx_one (psx_ret px_bl)) psx_nil) (psx_cons (psx_setT (pgx_tup rfl (pgsx_cons (pgx_name sc.nd (i := 12) rfl (Or.inl rfl)) (pgsx_cons (pgx_name sc.nd (i := 13) rfl (Or.inl rfl)) pgsx_nil))) (px_ix (px_var (pv 3)) (px_callM ⟨D_law_draw⟩ tk hr rfl (pv 1) (pax_cons (px_len rfl T.b_len (pax_cons (px_var (pv 3)) pax_nil)) pax_nil) (len_cons len_nil)))) (psx_cons (psx_set (i := 9) sc.nd rfl (Or.inl rfl) (px_callM ⟨D_law_draw⟩ tk hr rfl (pv 1) (pax_cons (px_var (pv 13)) pax_nil) (len_cons len_nil))) (psx_cons (psx_if (ptx_w (pwx_or (ptx_not (ptx_val (px_call ⟨D_law_same⟩ tk hr rfl (pax_cons (px_call ⟨Dput⟩ tk hr rfl (pax_cons (px_var (pv 4)) (pax_cons (px_var (pv 8)) (pax_cons (px_var (pv 12)) (pax_cons (px_var (pv 9)) pax_nil)))) (len_cons (len_cons (len_cons (len_cons len_nil))))) (pax_cons (px_call ⟨D_law_put⟩ tk hr rfl (pax_cons (px_var (pv 3)) (pax_cons (px_var (pv 8)) (pax_cons (px_var (pv 12)) (pax_cons (px_var (pv 9)) pax_nil)))) (len_cons (len_cons (len_cons (len_cons len_nil))))) pax_nil)) (len_cons (len_cons len_nil))))) (pwx_or (ptx_isNot (px_call ⟨Dis_value⟩ tk hr rfl (pax_cons (px_var (pv 4)) (pax_cons (px_var (pv 12)) (pax_cons (px_var (pv 9)) pax_nil))) (len_cons (len_cons (len_cons len_nil)))) px_bl) (pwx_or1 (ptx_isNot (px_call ⟨Dis_value⟩ tk hr rfl (pax_cons (px_var (pv 4)) (pax_cons (px_var (pv 12)) (pax_cons (px_var (pv 13)) pax_nil))) (len_cons (len_cons (len_cons len_nil)))) px_bl))))) (psx_one (psx_ret px_bl)) psx_nil) (psx_cons (psx_set (i := 10) sc.nd rfl (Or.inl rfl) (px_own (po_lst (pax_cons px_non (pax_cons (px_tup pax_nil) (pax_cons (px_tup (pax_cons px_str pax_nil)) (pax_cons (px_tup (pax_cons px_str (pax_cons (px_var (pv 12)) pax_nil))) (pax_cons (px_tup (pax_cons px_str (pax_cons px_str (pax_cons px_int pax_nil)))) (pax_cons (px_tup (pax_cons px_str (pax_cons (px_var (pv 12)) (pax_cons (px_var (pv 13)) pax_nil)))) (pax_cons (px_tup (pax_cons px_str (pax_cons (px_var (pv 12)) (pax_cons px_bl pax_nil)))) (pax_cons (px_tup (pax_cons px_str pax_nil)) (pax_cons (px_tup (pax_cons px_str (pax_cons (px_var (pv 6)) pax_nil))) (pax_cons (px_own (po_lst (pax_cons px_str pax_nil))) (pax_cons (px_tup (pax_cons px_str (pax_cons (px_var (pv 12)) pax_nil))) (pax_cons (px_tup (pax_cons px_str (pax_cons (px_var (pv 6)) pax_nil))) pax_nil))))))))))))))) (psx_cons (psx_set (i := 11) sc.nd rfl (Or.inl rfl) (px_ix (px_var (pv 10)) (px_callM ⟨D_law_draw⟩ tk hr rfl (pv 1) (pax_cons px_int pax_nil) (len_cons len_nil)))) (psx_cons (psx_if (ptx_w (pwx_or (ptx_isNot (px_call ⟨Dis_look_1⟩ tk hr rfl (pax_cons (px_var (pv 4)) (pax_cons (px_var (pv 11)) pax_nil)) (len_cons (len_cons len_nil))) px_bl) (pwx_or1 (ptx_not (ptx_val (px_call ⟨D_law_bad_look⟩ tk hr rfl (pax_cons (px_var (pv 4)) (pax_cons (px_var (pv 11)) pax_nil)) (len_cons (len_cons len_nil)))))))) (psx_one (psx_ret px_bl)) psx_nil) (psx_one (psx_for (passes_of rfl) rfl (pix_seq (px_own (po_lst (pax_cons px_non (pax_cons (px_own (po_list rfl T.b_list (pax_cons (px_var (pv 8)) pax_nil))) (pax_cons (px_add (px_var (pv 8)) (px_tup (pax_cons px_int pax_nil))) (pax_cons (px_slice (px_var (pv 8)) (pox_some px_int) pox_none) (pax_cons (px_add (px_slice (px_var (pv 8)) pox_none (pox_some (px_sub (px_len rfl T.b_len (pax_cons (px_var (pv 8)) pax_nil)) px_int))) (px_tup (pax_cons px_int pax_nil))) (pax_cons (px_add (px_slice (px_var (pv 8)) pox_none (pox_some (px_sub (px_len rfl T.b_len (pax_cons (px_var (pv 8)) pax_nil)) px_int))) (px_tup (pax_cons (px_neg px_int) pax_nil))) (pax_cons (px_add (px_slice (px_var (pv 8)) pox_none (pox_some (px_sub (px_len rfl T.b_len (pax_cons (px_var (pv 8)) pax_nil)) px_int))) (px_tup (pax_cons px_bl pax_nil))) pax_nil)))))))))) (pgx_name sc.nd (i := 9) rfl (Or.inl rfl)) (psx_one (psx_if (ptx_isNot (px_call ⟨Dis_packet⟩ tk hr rfl (pax_cons (px_var (pv 4)) (pax_cons (px_var (pv 9)) pax_nil)) (len_cons (len_cons len_nil))) px_bl) (psx_one (psx_ret px_bl)) psx_nil))))))))))))))))))))) (psx_cons (psx_set (i := 15) sc.nd rfl (Or.inl rfl) (px_tup (pax_cons px_str (pax_cons px_str (pax_cons px_int pax_nil))))) (psx_cons (psx_for (passes_of rfl) rfl (pix_range rfl T.b_range px_int) (pgx_name sc.nd (i := 14) rfl (Or.inl rfl)) (psx_one (psx_set (i := 15) sc.nd rfl (Or.inl rfl) (px_tup (pax_cons px_str (pax_cons (px_var (pv 15)) pax_nil)))))) (psx_cons (psx_set (i := 4) sc.nd rfl (Or.inr rfl) (px_makeK DFields____init__ tk hr rfl (pax_cons (px_tup (pax_cons (px_tup (pax_cons px_str (pax_cons px_int pax_nil))) pax_nil)) pax_nil) (len_cons len_nil))) (psx_cons (psx_if (ptx_w (pwx_or (ptx_isNot (px_call ⟨Dis_look_1⟩ tk hr rfl (pax_cons (px_var (pv 4)) (pax_cons (px_var (pv 15)) pax_nil)) (len_cons (len_cons len_nil))) px_bl) (pwx_or1 (ptx_isNot (px_call ⟨Dis_look_1⟩ tk hr rfl (pax_cons (px_var (pv 4)) (pax_cons (px_tup (pax_cons px_str (pax_cons (px_var (pv 15)) pax_nil))) pax_nil)) (len_cons (len_cons len_nil))) px_bl)))) (psx_one (psx_ret px_bl)) psx_nil) (psx_cons (psx_for (passes_of rfl) rfl (pix_seq (px_own (po_lst (pax_cons (px_tup pax_nil) (pax_cons px_non (pax_cons (px_own (po_lst (pax_cons (px_tup (pax_cons px_str (pax_cons px_int pax_nil))) pax_nil))) (pax_cons (px_tup (pax_cons (px_tup (pax_cons px_str (pax_cons px_int pax_nil))) pax_nil)) (pax_cons (px_tup (pax_cons (px_tup (pax_cons px_str (pax_cons px_int pax_nil))) pax_nil)) (pax_cons (px_tup (pax_cons (px_tup (pax_cons px_str (pax_cons px_int pax_nil))) (pax_cons (px_tup (pax_cons px_str (pax_cons px_int pax_nil))) pax_nil))) (pax_cons (px_tup (pax_cons (px_tup (pax_cons px_str (pax_cons px_int pax_nil))) (pax_cons (px_tup (pax_cons px_str (pax_cons px_int pax_nil))) pax_nil))) (pax_cons (px_tup (pax_cons (px_tup (pax_cons px_str pax_nil)) pax_nil)) (pax_cons (px_tup (pax_cons (px_tup (pax_cons px_str (pax_cons px_int pax_nil))) pax_nil)) (pax_cons (px_tup (pax_cons (px_tup (pax_cons px_str (pax_cons px_int pax_nil))) (pax_cons (px_tup (pax_cons px_str (pax_cons px_int pax_nil))) (pax_cons (px_tup (pax_cons px_str (pax_cons px_int pax_nil))) pax_nil)))) (pax_cons (px_tup (pax_cons (px_tup (pax_cons px_str (pax_cons px_bl pax_nil))) pax_nil)) pax_nil)))))))))))))) (pgx_name sc.nd (i := 9) rfl (Or.inl rfl)) (psx_one (psx_if (ptx_not (ptx_val (px_call ⟨D_law_bad_fields⟩ tk hr rfl (pax_cons (px_var (pv 9)) pax_nil) (len_cons len_nil)))) (psx_one (psx_ret px_bl)) psx_nil))) (psx_one (psx_ret (px_eq hr (px_len rfl T.b_len (pax_cons (px_fld T.cf_packets (px_makeK DFields____init__ tk hr rfl (pax_cons (px_tup (pax_cons (px_tup (pax_cons px_str (pax_cons px_int pax_nil))) (pax_cons (px_tup (pax_cons px_str (pax_cons px_int pax_nil))) (pax_cons (px_tup (pax_cons px_str (pax_cons px_int pax_nil))) pax_nil)))) pax_nil) (len_cons len_nil))) pax_nil)) px_int))))))))))
end
end Lk01
set_option Elab.async false
set_option linter.all false
set_option maxRecDepth 100000
set_option maxHeartbeats 4000000
namespace Lk01
open PySem L2 Pu
/-! ### drawn numbers -/
structure DrOk (sc ds : List PV) : Prop where
  ex : ∃ (p : Nat) (c2 c3 : Int), ds = [.lst sc, .int p, .int c2, .int c3]
theorem draw_ok {ds sc : List PV} (hs : ∀ x ∈ sc, ∃ i, x = .int i) (h : DrOk sc ds) (l : Int) (h0 : 0 < l) (h1 : l < 1073741824) : ∃ (v : Nat) (ds' : List PV), F__law_draw ds [.int l] = some (.int v, ds') ∧ DrOk sc ds' ∧ (v : Int) < l := by
  obtain ⟨p, c2, c3, rfl⟩ := h.ex
  clear h
  have fin : ∀ (p : Nat) (c2 c3 v : Int) (o : Option (PV × List PV)), o = some (.int (v % l), [.lst sc, .int p, .int c2, .int c3]) → ∃ (v : Nat) (ds' : List PV), o = some (.int v, ds') ∧ DrOk sc ds' ∧ (v : Int) < l :=
    fun p c2 c3 v o e => ⟨(v % l).toNat, _, by rw [Int.toNat_of_nonneg (Int.emod_nonneg v (by omega))]; exact e, ⟨⟨p, c2, c3, rfl⟩⟩, by rw [Int.toNat_of_nonneg (Int.emod_nonneg v (by omega))]; exact Int.emod_lt_of_pos v h0⟩
  by_cases c : c2 = 0 ∧ p < sc.length
  · obtain ⟨rfl, hp⟩ := c
    obtain ⟨i, hi⟩ := hs _ (List.getElem_mem hp)
    by_cases big : 1000000000000000000 ≤ i
    · have pos : 0 < i := by omega
      exact fin (p + 1) (i / l) ((c3 * 48271 + i + 13) % 2147483647) i _ (by simp [F__law_draw, fnDenM, cellsM, d__law_draw, outM, hp, hi, h0, h1, big, pos])
    · exact fin (p + 1) 0 ((((c3 * 48271 + i + 13) % 2147483647) * 69621 + 7) % 2147483629) (((((c3 * 48271 + i + 13) % 2147483647) * 69621 + 7) % 2147483629) / 11) _ (by simp [F__law_draw, fnDenM, cellsM, d__law_draw, outM, hp, hi, h0, h1, big])
  · have cc : c2 = 0 → ¬ p < sc.length := fun z h => c ⟨z, h⟩
    by_cases c0 : c2 = 0
    · subst c0
      have hp := cc rfl
      exact fin p 0 ((c3 * 69621 + 7) % 2147483629) (((c3 * 69621 + 7) % 2147483629) / 11) _ (by simp [F__law_draw, fnDenM, cellsM, d__law_draw, outM, hp, h0, h1])
    · by_cases pos : 0 < c2
      · exact fin p (c2 / l) c3 c2 _ (by simp [F__law_draw, fnDenM, cellsM, d__law_draw, outM, c0, pos, h0, h1])
      · exact fin p c2 ((c3 * 69621 + 7) % 2147483629) (((c3 * 69621 + 7) % 2147483629) / 11) _ (by simp [F__law_draw, fnDenM, cellsM, d__law_draw, outM, c0, pos, h0, h1])
theorem draws_at (sc : List PV) : F__law_draws [.lst sc] = some [.lst sc, .int 0, .int 0, .int 1] := by
  simp [F__law_draws, fnDenO, d__law_draws]
/-! ### the law's sameness of a thing with itself -/
mutual
/-- values, tuples, lists, all of them short -/
def okS : PV → Bool
  | .tup xs => decide (xs.length ≤ 16777216) && okSs xs
  | .lst xs => decide (xs.length ≤ 16777216) && okSs xs
  | .int _ => true
  | .str _ => true
  | .bl _ => true
  | .non => true
  | _ => false
def okSs : List PV → Bool
  | [] => true
  | x :: xs => okS x && okSs xs
end
theorem okSs_mem : ∀ {xs : List PV} {x : PV}, okSs xs = true → x ∈ xs → okS x = true
  | y :: ys, x, h, hx => by
    have h := Bool.and_eq_true_iff.mp (show (okS y && okSs ys) = true from h)
    rcases List.mem_cons.mp hx with rfl | hx
    · exact h.1
    · exact okSs_mem h.2 hx
theorem depths_mem : ∀ {xs : List PV} {x : PV}, x ∈ xs → x.depth ≤ PV.depths xs
  | y :: ys, x, hx => by
    rw [depths_cons]
    rcases List.mem_cons.mp hx with rfl | hx
    · exact Nat.le_max_left _ _
    · exact Nat.le_trans (depths_mem hx) (Nat.le_max_right _ _)
theorem same_loop (n : Nat) (X : List PV) (v : PV) (hv : v = .tup X ∨ v = .lst X) (h : ∀ x ∈ X, F__law_same n [x, x] = some (.ok (.bl true))) :
    lcLoop (gxN 2) (dNot (dCall (F__law_same n) [] (dCons (dOp qIx (dVar 0) (dVar 2)) (dCons (dOp qIx (dVar 1) (dVar 2)) dNil)))) (dVar 2) [2] (rgP (X.length : Int)) [] [.v v, .v v, .un] = some (.ok [] [.v v, .v v, .un]) := by
  rw [rgP_eq]
  have q := lc_map (gx := gxN 2) (dc := dNot (dCall (F__law_same n) [] (dCons (dOp qIx (dVar 0) (dVar 2)) (dCons (dOp qIx (dVar 1) (dVar 2)) dNil)))) (de := dVar 2) (own := [2]) PV.int (fun _ => false) PV.int [.v v, .v v, .un] (rgI X.length) [] fun a ha => by
    obtain ⟨h0, h1⟩ := mem_rgI.mp ha
    obtain ⟨i, rfl⟩ := Int.eq_ofNat_of_zero_le h0
    have hi : i < X.length := by omega
    have e := h X[i] (List.getElem_mem hi)
    rcases hv with rfl | rfl <;> simp [lcTurn, hi, e]
  rw [q, List.filter_eq_nil_iff.mpr (fun _ _ => by decide)]
  rfl
theorem same_ok : ∀ (n : Nat) (x : PV), okS x = true → x.depth < n → F__law_same n [x, x] = some (.ok (.bl true))
  | 0, _, _, h => by omega
  | n + 1, .tup X, h, hd => by
    have h := Bool.and_eq_true_iff.mp (show (decide (X.length ≤ 16777216) && okSs X) = true from h)
    have hl := of_decide_eq_true h.1
    have q := same_loop n X (.tup X) (.inl rfl) fun x hx => same_ok n x (okSs_mem h.2 hx) (by have := depths_mem hx; rw [depth_tup] at hd; omega)
    have r1 : (-16777216 : Int) ≤ X.length := by omega
    have r2 : (X.length : Int) ≤ 16777216 := by omega
    simp [F__law_same, fnDen, d__law_same, isT, PV.ty, q, r1, r2, qNe]
  | n + 1, .lst X, h, hd => by
    have h := Bool.and_eq_true_iff.mp (show (decide (X.length ≤ 16777216) && okSs X) = true from h)
    have hl := of_decide_eq_true h.1
    have q := same_loop n X (.lst X) (.inr rfl) fun x hx => same_ok n x (okSs_mem h.2 hx) (by have := depths_mem hx; rw [depth_lst] at hd; omega)
    have r1 : (-16777216 : Int) ≤ X.length := by omega
    have r2 : (X.length : Int) ≤ 16777216 := by omega
    simp [F__law_same, fnDen, d__law_same, isT, PV.ty, q, r1, r2, qNe]
  | n + 1, .int i, _, _ => by simp [F__law_same, fnDen, d__law_same, isT, PV.ty, qIs]
  | n + 1, .str i, _, _ => by simp [F__law_same, fnDen, d__law_same, isT, PV.ty, qIs]
  | n + 1, .bl i, _, _ => by simp [F__law_same, fnDen, d__law_same, isT, PV.ty, qIs, qEq]
  | n + 1, .non, _, _ => by simp [F__law_same, fnDen, d__law_same, isT, PV.ty, qIs]
  | n + 1, .ktup _, h, _ => by cases h
  | n + 1, .dic _ _, h, _ => by cases h
  | n + 1, .ins _ _ _, h, _ => by cases h
theorem okSs_int {α : Type} (f : α → Int) (l : List α) : okSs (l.map fun a => .int (f a)) = true := by
  induction l with
  | nil => rfl
  | cons a l ih => exact ih
theorem okSs_intm (l : List Int) : okSs (l.map .int) = true := okSs_int id l
theorem okSs_strm (l : List Str) : okSs (l.map .str) = true := by
  induction l with
  | nil => rfl
  | cons a l ih => exact ih
end Lk01
set_option Elab.async false
set_option linter.all false
set_option maxRecDepth 100000
set_option maxHeartbeats 4000000
namespace Lk01
open PySem L2 Pu
/-! ### the fields that are drawn -/
inductive R6 where
  | r0 | r1 | r2 | r3 | r4 | r5
def prs : R6 → List (Str × Int)
  | .r0 => [("sw", 2)]
  | .r1 => [("pt", 2), ("sw", 2)]
  | .r2 => [("pt", 2), ("sw", 3)]
  | .r3 => [("sw", 3)]
  | .r4 => [("sw", 4)]
  | .r5 => [("a", 1), ("b", 3)]
def pki : R6 → List (List Int)
  | .r0 => [[0], [1]]
  | .r1 => [[0, 0], [0, 1], [1, 0], [1, 1]]
  | .r2 => [[0, 0], [0, 1], [0, 2], [1, 0], [1, 1], [1, 2]]
  | .r3 => [[0], [1], [2]]
  | .r4 => [[0], [1], [2], [3]]
  | .r5 => [[0, 0], [0, 1], [0, 2]]
abbrev pkt (l : List Int) : PV := .tup (l.map .int)
def rowsV (r : R6) : PV := .tup ((prs r).map fun p => .tup [.str p.1, .int p.2])
def pk (r : R6) : List PV := (pki r).map pkt
def fieldsV (r : R6) : PV := .ins "Fields" ["rows", "names", "packets"] [rowsV r, .tup ((prs r).map fun p => .str p.1), .tup (pk r)]
def ats (r : R6) : List (Str × Int) := (prs r).flatMap fun p => (rgI p.2.toNat).map fun i => (p.1, i)
theorem mem_ats {r : R6} {n : Str} {m v : Int} (h : (n, m) ∈ prs r) (h0 : 0 ≤ v) (h1 : v < m) : (n, v) ∈ ats r :=
  List.mem_flatMap.mpr ⟨(n, m), h, List.mem_map.mpr ⟨v, mem_rgI.mpr ⟨h0, by omega⟩, rfl⟩⟩
theorem rows_few (r : R6) : (prs r).length ≤ 2 := by cases r <;> decide
theorem prs_pos (r : R6) : ∀ p ∈ prs r, 0 < p.2 ∧ p.2 ≤ 4 := by cases r <;> decide
/-! ### looks -/
inductive Lk where
  | yes | no | at_ (n : Str) (v : Int) | nt (a : Lk) | an (a b : Lk) | oor (a b : Lk)
abbrev atP (a : Str × Int) : PV := .tup [.str "at", .str a.1, .int a.2]
def Lk.pv : Lk → PV
  | .yes => .tup [.str "yes"]
  | .no => .tup [.str "no"]
  | .at_ n v => .tup [.str "at", .str n, .int v]
  | .nt a => .tup [.str "not", a.pv]
  | .an a b => .tup [.str "and", a.pv, b.pv]
  | .oor a b => .tup [.str "or", a.pv, b.pv]
def Lk.dep : Lk → Nat
  | .nt a => a.dep + 1
  | .an a b => max a.dep b.dep + 1
  | .oor a b => max a.dep b.dep + 1
  | _ => 0
def Lk.over (r : R6) : Lk → Prop
  | .at_ n v => (n, v) ∈ ats r
  | .nt a => a.over r
  | .an a b => a.over r ∧ b.over r
  | .oor a b => a.over r ∧ b.over r
  | _ => True
def Lk.ev (f : Str × Int → Bool) : Lk → Bool
  | .yes => true
  | .no => false
  | .at_ n v => f (n, v)
  | .nt a => !a.ev f
  | .an a b => a.ev f && b.ev f
  | .oor a b => a.ev f || b.ev f
/-! ### drawn -/
theorem fields_ok {sc ds : List PV} (hs : ∀ x ∈ sc, ∃ i, x = .int i) (hd : DrOk sc ds) : ∃ (r : R6) (ds' : List PV), F__law_fields ds [] = some (rowsV r, ds') ∧ DrOk sc ds' := by
  obtain ⟨v, ds1, e1, d1, l1⟩ := draw_ok hs hd 6 (by omega) (by omega)
  have : v = 0 ∨ v = 1 ∨ v = 2 ∨ v = 3 ∨ v = 4 ∨ v = 5 := by omega
  rcases this with rfl | rfl | rfl | rfl | rfl | rfl
  · exact ⟨.r0, ds1, by simp [F__law_fields, fnDenM, cellsM, d__law_fields, outM, e1, rowsV, prs], d1⟩
  · exact ⟨.r1, ds1, by simp [F__law_fields, fnDenM, cellsM, d__law_fields, outM, e1, rowsV, prs], d1⟩
  · exact ⟨.r2, ds1, by simp [F__law_fields, fnDenM, cellsM, d__law_fields, outM, e1, rowsV, prs], d1⟩
  · exact ⟨.r3, ds1, by simp [F__law_fields, fnDenM, cellsM, d__law_fields, outM, e1, rowsV, prs], d1⟩
  · exact ⟨.r4, ds1, by simp [F__law_fields, fnDenM, cellsM, d__law_fields, outM, e1, rowsV, prs], d1⟩
  · exact ⟨.r5, ds1, by simp [F__law_fields, fnDenM, cellsM, d__law_fields, outM, e1, rowsV, prs], d1⟩
theorem two_cases {v : Nat} (h : (v : Int) < 2) : v = 0 ∨ v = 1 := by omega
/-- name, many = rows[draw]; ('at', name, draw(many)) -/
theorem at_drawn {sc : List PV} (hs : ∀ x ∈ sc, ∃ i, x = .int i) (r : R6) (n : Nat) (deep : Int) (f : Nat) (ds ds1 : List PV) (hf : f ≠ 0 ∧ f ≠ 1 ∧ f ≠ 5) (d1 : DrOk sc ds1)
    (h : (if 0 < deep then F__law_draw ds [.int 6] else some (.int 2, ds)) = some (.int f, ds1)) :
    ∃ (l : Lk) (ds' : List PV), F__law_look (n + 1) ds [rowsV r, .int deep] = some (l.pv, ds') ∧ DrOk sc ds' ∧ l.dep = 0 ∧ l.over r := by
  obtain ⟨w, ds2, e2, d2, l2⟩ := draw_ok hs d1 ((prs r).length : Int) (by cases r <;> decide) (by have := rows_few r; omega)
  have hw : w < (prs r).length := by omega
  obtain ⟨p0, p4⟩ := prs_pos r (prs r)[w] (List.getElem_mem hw)
  obtain ⟨v, ds3, e3, d3, l3⟩ := draw_ok hs d2 (prs r)[w].2 p0 (by omega)
  refine ⟨.at_ (prs r)[w].1 v, ds3, ?_, d3, rfl, mem_ats (m := (prs r)[w].2) (List.getElem_mem hw) (by omega) l3⟩
  obtain ⟨f0, f1, f5⟩ := hf
  have g0 : ¬ ((f : Nat) : Int) = 0 := by omega
  have g1 : ¬ ((f : Nat) : Int) = 1 := by omega
  have g5 : ¬ ((f : Nat) : Int) = 5 := by omega
  by_cases hdp : 0 < deep
  · rw [if_pos hdp] at h
    simp [F__law_look, fnDenM, cellsM, d__law_look, outM, Lk.pv, rowsV, h, e2, e3, hw, hdp, f0, g1, g5]
  · rw [if_neg hdp] at h
    obtain ⟨h1, h2⟩ := Prod.mk.inj (Option.some.inj h)
    cases h1
    subst h2
    simp [F__law_look, fnDenM, cellsM, d__law_look, outM, Lk.pv, rowsV, e2, e3, hw, hdp]
theorem look_ok {sc : List PV} (hs : ∀ x ∈ sc, ∃ i, x = .int i) (r : R6) : ∀ (deep n : Nat) (ds : List PV), deep < n → DrOk sc ds → ∃ (l : Lk) (ds' : List PV), F__law_look n ds [rowsV r, .int deep] = some (l.pv, ds') ∧ DrOk sc ds' ∧ l.dep ≤ deep ∧ l.over r
  | _, 0, _, h, _ => by omega
  | 0, n + 1, ds, _, hd => by
    obtain ⟨l, ds', h1, h2, h3, h4⟩ := at_drawn hs r n 0 2 ds ds (by decide) hd (by simp)
    exact ⟨l, ds', h1, h2, by omega, h4⟩
  | deep + 1, n + 1, ds, hn, hd => by
    obtain ⟨f, ds1, e1, d1, l1⟩ := draw_ok hs hd 6 (by omega) (by omega)
    have q1 : (0 : Int) < (deep : Nat) + 1 := by omega
    by_cases hf : f ≠ 0 ∧ f ≠ 1 ∧ f ≠ 5
    · obtain ⟨l, ds', h1, h2, h3, h4⟩ := at_drawn hs r n ((deep + 1 : Nat) : Int) f ds ds1 hf d1 (by rw [if_pos (by omega)]; exact e1)
      exact ⟨l, ds', h1, h2, by omega, h4⟩
    · have : f = 0 ∨ f = 1 ∨ f = 5 := by omega
      rcases this with rfl | rfl | rfl
      · obtain ⟨t, ds2, e2, d2, l2, o2⟩ := look_ok hs r deep n ds1 (by omega) d1
        exact ⟨.nt t, ds2, by simp [F__law_look, fnDenM, cellsM, d__law_look, outM, Lk.pv, e1, e2, q1], d2, by show t.dep + 1 ≤ deep + 1; omega, o2⟩
      · obtain ⟨w, ds2, e2, d2, l2⟩ := draw_ok hs d1 2 (by omega) (by omega)
        obtain ⟨t, ds3, e3, d3, l3, o3⟩ := look_ok hs r deep n ds2 (by omega) d2
        obtain ⟨u, ds4, e4, d4, l4, o4⟩ := look_ok hs r deep n ds3 (by omega) d3
        rcases two_cases l2 with rfl | rfl
        · exact ⟨.an t u, ds4, by simp [F__law_look, fnDenM, cellsM, d__law_look, outM, Lk.pv, e1, e2, e3, e4, q1], d4, by show max t.dep u.dep + 1 ≤ deep + 1; omega, o3, o4⟩
        · exact ⟨.oor t u, ds4, by simp [F__law_look, fnDenM, cellsM, d__law_look, outM, Lk.pv, e1, e2, e3, e4, q1], d4, by show max t.dep u.dep + 1 ≤ deep + 1; omega, o3, o4⟩
      · obtain ⟨w, ds2, e2, d2, l2⟩ := draw_ok hs d1 2 (by omega) (by omega)
        rcases two_cases l2 with rfl | rfl
        · exact ⟨.yes, ds2, by simp [F__law_look, fnDenM, cellsM, d__law_look, outM, Lk.pv, e1, e2, q1], d2, Nat.zero_le _, trivial⟩
        · exact ⟨.no, ds2, by simp [F__law_look, fnDenM, cellsM, d__law_look, outM, Lk.pv, e1, e2, q1], d2, Nat.zero_le _, trivial⟩
/-! ### looks at packets -/
def seesB (r : R6) (p : PV) (a : Str × Int) : Bool := match F_sees 1 [fieldsV r, atP a, p] with
  | some (.ok (.bl b)) => b
  | _ => false
def spots (r : R6) : List (PV × (Str × Int)) := (pk r).flatMap fun p => (ats r).map fun a => (p, a)
theorem mem_spots {r : R6} {p : PV} {a : Str × Int} (hp : p ∈ pk r) (ha : a ∈ ats r) : (p, a) ∈ spots r := List.mem_flatMap.mpr ⟨p, hp, List.mem_map.mpr ⟨a, ha, rfl⟩⟩
theorem sees_at (r : R6) (n : Nat) : ∀ s ∈ spots r, F_sees (n + 1) [fieldsV r, atP s.2, s.1] = some (.ok (.bl (seesB r s.1 s.2))) := at_each (by cases r <;> kernel_rfl)
theorem lsees_at (r : R6) (n : Nat) : ∀ s ∈ spots r, F__law_sees (n + 1) [rowsV r, atP s.2, s.1] = some (.ok (.bl (seesB r s.1 s.2))) := at_each (by cases r <;> kernel_rfl)
theorem value_at (r : R6) : ∀ a ∈ ats r, F_is_value [fieldsV r, .str a.1, .int a.2] = some (.ok (.bl true)) := at_each (by cases r <;> kernel_rfl)
theorem sees_ok (r : R6) {p : PV} (hp : p ∈ pk r) : ∀ (l : Lk) (n : Nat), l.over r → l.dep < n → F_sees n [fieldsV r, l.pv, p] = some (.ok (.bl (l.ev (seesB r p))))
  | _, 0, _, h => by omega
  | .yes, n + 1, _, _ => by simp [F_sees, fnDen, d_sees, Lk.pv, Lk.ev]
  | .no, n + 1, _, _ => by simp [F_sees, fnDen, d_sees, Lk.pv, Lk.ev]
  | .at_ a v, n + 1, ho, _ => sees_at r n _ (mem_spots hp ho)
  | .nt t, n + 1, ho, hd => by
    have ih := sees_ok r hp t n ho (by simp only [Lk.dep] at hd; omega)
    simp [F_sees, fnDen, d_sees, Lk.pv, Lk.ev, ih]
  | .an t u, n + 1, ho, hd => by
    have i1 := sees_ok r hp t n ho.1 (by simp only [Lk.dep] at hd; omega)
    have i2 := sees_ok r hp u n ho.2 (by simp only [Lk.dep] at hd; omega)
    cases h1 : t.ev (seesB r p) <;> rw [h1] at i1 <;> simp [F_sees, fnDen, d_sees, Lk.pv, Lk.ev, i1, i2, h1]
  | .oor t u, n + 1, ho, hd => by
    have i1 := sees_ok r hp t n ho.1 (by simp only [Lk.dep] at hd; omega)
    have i2 := sees_ok r hp u n ho.2 (by simp only [Lk.dep] at hd; omega)
    cases h1 : t.ev (seesB r p) <;> rw [h1] at i1 <;> simp [F_sees, fnDen, d_sees, Lk.pv, Lk.ev, i1, i2, h1]
theorem lsees_ok (r : R6) {p : PV} (hp : p ∈ pk r) : ∀ (l : Lk) (n : Nat), l.over r → l.dep < n → F__law_sees n [rowsV r, l.pv, p] = some (.ok (.bl (l.ev (seesB r p))))
  | _, 0, _, h => by omega
  | .yes, n + 1, _, _ => by simp [F__law_sees, fnDen, d__law_sees, Lk.pv, Lk.ev]
  | .no, n + 1, _, _ => by simp [F__law_sees, fnDen, d__law_sees, Lk.pv, Lk.ev]
  | .at_ a v, n + 1, ho, _ => lsees_at r n _ (mem_spots hp ho)
  | .nt t, n + 1, ho, hd => by
    have ih := lsees_ok r hp t n ho (by simp only [Lk.dep] at hd; omega)
    simp [F__law_sees, fnDen, d__law_sees, Lk.pv, Lk.ev, ih]
  | .an t u, n + 1, ho, hd => by
    have i1 := lsees_ok r hp t n ho.1 (by simp only [Lk.dep] at hd; omega)
    have i2 := lsees_ok r hp u n ho.2 (by simp only [Lk.dep] at hd; omega)
    cases h1 : t.ev (seesB r p) <;> rw [h1] at i1 <;> simp [F__law_sees, fnDen, d__law_sees, Lk.pv, Lk.ev, i1, i2, h1]
  | .oor t u, n + 1, ho, hd => by
    have i1 := lsees_ok r hp t n ho.1 (by simp only [Lk.dep] at hd; omega)
    have i2 := lsees_ok r hp u n ho.2 (by simp only [Lk.dep] at hd; omega)
    cases h1 : t.ev (seesB r p) <;> rw [h1] at i1 <;> simp [F__law_sees, fnDen, d__law_sees, Lk.pv, Lk.ev, i1, i2, h1]
theorem is_look_ok (r : R6) : ∀ (l : Lk) (n deep : Nat), l.over r → l.dep < n → l.dep < deep → F_is_look n [fieldsV r, l.pv, .int deep] = some (.ok (.bl true))
  | _, 0, _, _, h, _ => by omega
  | _, _, 0, _, _, h => by omega
  | .yes, n + 1, d + 1, _, _, _ => by
    have q1 : ¬ ((d : Nat) : Int) + 1 = 0 := by omega
    simp [F_is_look, fnDen, d_is_look, Lk.pv, isT, PV.ty, q1]
  | .no, n + 1, d + 1, _, _, _ => by
    have q1 : ¬ ((d : Nat) : Int) + 1 = 0 := by omega
    simp [F_is_look, fnDen, d_is_look, Lk.pv, isT, PV.ty, q1]
  | .at_ a v, n + 1, d + 1, ho, _, _ => by
    have q1 : ¬ ((d : Nat) : Int) + 1 = 0 := by omega
    have q2 := value_at r _ ho
    simp [F_is_look, fnDen, d_is_look, Lk.pv, isT, PV.ty, q1, q2]
  | .nt t, n + 1, d + 1, ho, hd, hk => by
    have q1 : ¬ ((d : Nat) : Int) + 1 = 0 := by omega
    have ih := is_look_ok r t n d ho (by simp only [Lk.dep] at hd; omega) (by simp only [Lk.dep] at hk; omega)
    simp [F_is_look, fnDen, d_is_look, Lk.pv, isT, PV.ty, q1, ih]
  | .an t u, n + 1, d + 1, ho, hd, hk => by
    have q1 : ¬ ((d : Nat) : Int) + 1 = 0 := by omega
    have i1 := is_look_ok r t n d ho.1 (by simp only [Lk.dep] at hd; omega) (by simp only [Lk.dep] at hk; omega)
    have i2 := is_look_ok r u n d ho.2 (by simp only [Lk.dep] at hd; omega) (by simp only [Lk.dep] at hk; omega)
    simp [F_is_look, fnDen, d_is_look, Lk.pv, isT, PV.ty, q1, i1, i2, lc_cons, lc_nil, lcTurn]
  | .oor t u, n + 1, d + 1, ho, hd, hk => by
    have q1 : ¬ ((d : Nat) : Int) + 1 = 0 := by omega
    have i1 := is_look_ok r t n d ho.1 (by simp only [Lk.dep] at hd; omega) (by simp only [Lk.dep] at hk; omega)
    have i2 := is_look_ok r u n d ho.2 (by simp only [Lk.dep] at hd; omega) (by simp only [Lk.dep] at hk; omega)
    simp [F_is_look, fnDen, d_is_look, Lk.pv, isT, PV.ty, q1, i1, i2, lc_cons, lc_nil, lcTurn]
end Lk01
set_option Elab.async false
set_option linter.all false
set_option maxRecDepth 100000
set_option maxHeartbeats 4000000
namespace Lk01
open PySem L2 Pu
def st1 : SDen := (sSet 3 (dCallM 1 F__law_fields dNil))
def st2 : SDen := (sSet 4 (dMake "Fields" F_Fields____init__ (dCons (dVar 3) dNil)))
def st3 : SDen := (sSet 5 (dCall F__law_rows [] (dCons (dVar 3) dNil)))
def st4 : SDen := (sIf (dOr (dNot (dCall (F__law_same 60) [] (dCons (dTup (dCons (dFld ["Fields"] "rows" (dVar 4)) (dCons (dFld ["Fields"] "packets" (dVar 4)) dNil))) (dCons (dTup (dCons (dVar 3) (dCons (dArgs qTuple (dCons (dVar 5) dNil)) dNil))) dNil)))) (dNot (dCall (F__law_same 60) [] (dCons (dFld ["Fields"] "names" (dVar 4)) (dCons (dArgs qTuple (dCons (dLstOf (dLc (dSeq (dVar 3)) (gxT 2 (gxCons (gxN 12) (gxCons (gxN 13) gxNil))) (Den.ret (.bl true)) (dVar 12) [12, 13])) dNil)) dNil))))) (sRet (Den.ret (.bl false))) sNext)
def st5 : SDen := (sIf (dOr (dNot (dCall (F__law_same 60) [] (dCons (dCall F_all_rows [] (dCons (dLstOf (dLc (dSeq (dVar 3)) (gxT 2 (gxCons (gxN 12) (gxCons (gxN 13) gxNil))) (Den.ret (.bl true)) (dVar 13) [12, 13])) dNil)) (dCons (dArgs qTuple (dCons (dVar 5) dNil)) dNil)))) (dOp qGt (dArgs qLen (dCons (dLstOf (dLc (dRg (dArgs qLen (dCons (dVar 3) dNil))) (gxN 14) (dOp qNe (dMeth "Fields" "place" F_Fields__place (dVar 4) (dCons (dOp qIx (dOp qIx (dVar 3) (dVar 14)) (Den.ret (.int 0))) dNil)) (dVar 14)) (dVar 14) [14])) dNil)) (Den.ret (.int 0)))) (sRet (Den.ret (.bl false))) sNext)
def st6 : SDen := (sSet 6 (dCallM 1 (F__law_look 60) (dCons (dVar 3) (dCons (Den.ret (.int 3)) dNil))))
def st7 : SDen := (sSet 7 (dArgs qTuple (dCons (dLstOf (dLc (dSeq (dVar 5)) (gxN 8) (dCall (F__law_sees 60) [] (dCons (dVar 3) (dCons (dVar 6) (dCons (dVar 8) dNil)))) (dVar 8) [8])) dNil)))
def st8 : SDen := (sIf (dOr (dOp (qIs true) (dCall (F_is_look 60) [.int 40] (dCons (dVar 4) (dCons (dVar 6) dNil))) (Den.ret (.bl true))) (dNot (dCall (F__law_same 60) [] (dCons (dCall F_packets_of [] (dCons (dVar 4) (dCons (dVar 6) dNil))) (dCons (dVar 7) dNil))))) (sRet (Den.ret (.bl false))) sNext)
def st9 : SDen := (sSet 8 (dOp qIx (dVar 5) (dCallM 1 F__law_draw (dCons (dArgs qLen (dCons (dVar 5) dNil)) dNil))))
def st10 : SDen := (sIf (dOr (dNot (dCall (F__law_same 60) [] (dCons (dCall (F_sees 60) [] (dCons (dVar 4) (dCons (dVar 6) (dCons (dVar 8) dNil)))) (dCons (dOp qIn (dVar 8) (dVar 7)) dNil)))) (dOr (dOp (qIs true) (dCall F_is_packet [] (dCons (dVar 4) (dCons (dVar 8) dNil))) (Den.ret (.bl true))) (dNot (dCall (F__law_same 60) [] (dCons (dCall F_packets_of [] (dCons (dVar 4) (dCons (dCall F_just [] (dCons (dVar 4) (dCons (dVar 8) dNil))) dNil))) (dCons (dTup (dCons (dVar 8) dNil)) dNil)))))) (sRet (Den.ret (.bl false))) sNext)
def st11 : SDen := (sSetT (gxT 2 (gxCons (gxN 12) (gxCons (gxN 13) gxNil))) (dOp qIx (dVar 3) (dCallM 1 F__law_draw (dCons (dArgs qLen (dCons (dVar 3) dNil)) dNil))))
def st12 : SDen := (sSet 9 (dCallM 1 F__law_draw (dCons (dVar 13) dNil)))
def st13 : SDen := (sIf (dOr (dNot (dCall (F__law_same 60) [] (dCons (dCall F_put [] (dCons (dVar 4) (dCons (dVar 8) (dCons (dVar 12) (dCons (dVar 9) dNil))))) (dCons (dCall F__law_put [] (dCons (dVar 3) (dCons (dVar 8) (dCons (dVar 12) (dCons (dVar 9) dNil))))) dNil)))) (dOr (dOp (qIs true) (dCall F_is_value [] (dCons (dVar 4) (dCons (dVar 12) (dCons (dVar 9) dNil)))) (Den.ret (.bl true))) (dOp (qIs true) (dCall F_is_value [] (dCons (dVar 4) (dCons (dVar 12) (dCons (dVar 13) dNil)))) (Den.ret (.bl false))))) (sRet (Den.ret (.bl false))) sNext)
def st14 : SDen := (sSet 10 (dLstOf (dShort (dCons (Den.ret (.non)) (dCons (dTup dNil) (dCons (dTup (dCons (Den.ret (.str "at")) dNil)) (dCons (dTup (dCons (Den.ret (.str "at")) (dCons (dVar 12) dNil))) (dCons (dTup (dCons (Den.ret (.str "at")) (dCons (Den.ret (.str "zz")) (dCons (Den.ret (.int 0)) dNil)))) (dCons (dTup (dCons (Den.ret (.str "at")) (dCons (dVar 12) (dCons (dVar 13) dNil)))) (dCons (dTup (dCons (Den.ret (.str "at")) (dCons (dVar 12) (dCons (Den.ret (.bl true)) dNil)))) (dCons (dTup (dCons (Den.ret (.str "not")) dNil)) (dCons (dTup (dCons (Den.ret (.str "and")) (dCons (dVar 6) dNil))) (dCons (dLstOf (dShort (dCons (Den.ret (.str "yes")) dNil))) (dCons (dTup (dCons (Den.ret (.str "is")) (dCons (dVar 12) dNil))) (dCons (dTup (dCons (Den.ret (.str "yes")) (dCons (dVar 6) dNil))) dNil)))))))))))))))
def st15 : SDen := (sSet 11 (dOp qIx (dVar 10) (dCallM 1 F__law_draw (dCons (Den.ret (.int 12)) dNil))))
def st16 : SDen := (sIf (dOr (dOp (qIs true) (dCall (F_is_look 60) [.int 40] (dCons (dVar 4) (dCons (dVar 11) dNil))) (Den.ret (.bl false))) (dNot (dCall F__law_bad_look [] (dCons (dVar 4) (dCons (dVar 11) dNil))))) (sRet (Den.ret (.bl false))) sNext)
def st17 : SDen := (sFor (dSeq (dLstOf (dShort (dCons (Den.ret (.non)) (dCons (dLstOf (dArgs qList (dCons (dVar 8) dNil))) (dCons (dAdd (dVar 8) (dTup (dCons (Den.ret (.int 0)) dNil))) (dCons (dSl (dVar 8) (some (Den.ret (.int 1))) none) (dCons (dAdd (dSl (dVar 8) none (some (dOp qSub (dArgs qLen (dCons (dVar 8) dNil)) (Den.ret (.int 1))))) (dTup (dCons (Den.ret (.int 9)) dNil))) (dCons (dAdd (dSl (dVar 8) none (some (dOp qSub (dArgs qLen (dCons (dVar 8) dNil)) (Den.ret (.int 1))))) (dTup (dCons (dUn qNeg (Den.ret (.int 1))) dNil))) (dCons (dAdd (dSl (dVar 8) none (some (dOp qSub (dArgs qLen (dCons (dVar 8) dNil)) (Den.ret (.int 1))))) (dTup (dCons (Den.ret (.bl false)) dNil))) dNil)))))))))) (gxN 9) (sIf (dOp (qIs true) (dCall F_is_packet [] (dCons (dVar 4) (dCons (dVar 9) dNil))) (Den.ret (.bl false))) (sRet (Den.ret (.bl false))) sNext))
def bodyL : SDen := (sSeq st1 (sSeq st2 (sSeq st3 (sSeq st4 (sSeq st5 (sSeq st6 (sSeq st7 (sSeq st8 (sSeq st9 (sSeq st10 (sSeq st11 (sSeq st12 (sSeq st13 (sSeq st14 (sSeq st15 (sSeq st16 st17))))))))))))))))
def en1 : SDen := (sSet 15 (dTup (dCons (Den.ret (.str "at")) (dCons (Den.ret (.str "a")) (dCons (Den.ret (.int 0)) dNil)))))
def en2 : SDen := (sFor (dRg (Den.ret (.int 39))) (gxN 14) (sSet 15 (dTup (dCons (Den.ret (.str "not")) (dCons (dVar 15) dNil)))))
def en3 : SDen := (sSet 4 (dMake "Fields" F_Fields____init__ (dCons (dTup (dCons (dTup (dCons (Den.ret (.str "a")) (dCons (Den.ret (.int 1)) dNil))) dNil)) dNil)))
def en4 : SDen := (sIf (dOr (dOp (qIs true) (dCall (F_is_look 60) [.int 40] (dCons (dVar 4) (dCons (dVar 15) dNil))) (Den.ret (.bl true))) (dOp (qIs true) (dCall (F_is_look 60) [.int 40] (dCons (dVar 4) (dCons (dTup (dCons (Den.ret (.str "not")) (dCons (dVar 15) dNil))) dNil))) (Den.ret (.bl false)))) (sRet (Den.ret (.bl false))) sNext)
def en5 : SDen := (sFor (dSeq (dLstOf (dShort (dCons (dTup dNil) (dCons (Den.ret (.non)) (dCons (dLstOf (dShort (dCons (dTup (dCons (Den.ret (.str "a")) (dCons (Den.ret (.int 2)) dNil))) dNil))) (dCons (dTup (dCons (dTup (dCons (Den.ret (.str "a")) (dCons (Den.ret (.int 0)) dNil))) dNil)) (dCons (dTup (dCons (dTup (dCons (Den.ret (.str "a")) (dCons (Den.ret (.int 7)) dNil))) dNil)) (dCons (dTup (dCons (dTup (dCons (Den.ret (.str "b")) (dCons (Den.ret (.int 2)) dNil))) (dCons (dTup (dCons (Den.ret (.str "a")) (dCons (Den.ret (.int 2)) dNil))) dNil))) (dCons (dTup (dCons (dTup (dCons (Den.ret (.str "a")) (dCons (Den.ret (.int 2)) dNil))) (dCons (dTup (dCons (Den.ret (.str "a")) (dCons (Den.ret (.int 2)) dNil))) dNil))) (dCons (dTup (dCons (dTup (dCons (Den.ret (.str "a")) dNil)) dNil)) (dCons (dTup (dCons (dTup (dCons (Den.ret (.str "A")) (dCons (Den.ret (.int 2)) dNil))) dNil)) (dCons (dTup (dCons (dTup (dCons (Den.ret (.str "a")) (dCons (Den.ret (.int 6)) dNil))) (dCons (dTup (dCons (Den.ret (.str "b")) (dCons (Den.ret (.int 6)) dNil))) (dCons (dTup (dCons (Den.ret (.str "c")) (dCons (Den.ret (.int 2)) dNil))) dNil)))) (dCons (dTup (dCons (dTup (dCons (Den.ret (.str "a")) (dCons (Den.ret (.bl true)) dNil))) dNil)) dNil)))))))))))))) (gxN 9) (sIf (dNot (dCall F__law_bad_fields [] (dCons (dVar 9) dNil))) (sRet (Den.ret (.bl false))) sNext))
def en6 : SDen := (sRet (dOp qEq (dArgs qLen (dCons (dFld ["Fields"] "packets" (dMake "Fields" F_Fields____init__ (dCons (dTup (dCons (dTup (dCons (Den.ret (.str "a")) (dCons (Den.ret (.int 4)) dNil))) (dCons (dTup (dCons (Den.ret (.str "b")) (dCons (Den.ret (.int 4)) dNil))) (dCons (dTup (dCons (Den.ret (.str "c")) (dCons (Den.ret (.int 4)) dNil))) dNil)))) dNil))) dNil)) (Den.ret (.int 64))))
theorem F_law_eq : F_law = fnDen 16 (sSeq (sSetM 1 (dCallO F__law_draws (dCons (dVar 0) dNil))) (sSeq (sFor (dRg (Den.ret (.int 4))) (gxN 2) bodyL) (sSeq en1 (sSeq en2 (sSeq en3 (sSeq en4 (sSeq en5 en6))))))) := rfl
theorem st1_ok {ds ds1 : List PV} {r : R6} (h : F__law_fields ds [] = some (rowsV r, ds1)) (x0 x2 x4 x5 x6 x7 x8 x9 x10 x11 x12 x13 x14 x15 : Cell) (x3 : Cell) : st1 [x0, .m true ds, x2, x3, x4, x5, x6, x7, x8, x9, x10, x11, x12, x13, x14, x15] = some (.nx [x0, .m true ds1, x2, .v (rowsV r), x4, x5, x6, x7, x8, x9, x10, x11, x12, x13, x14, x15]) := by simp [st1, h]
theorem st2_ok (r : R6)  (x0 x1 x2 x4 x5 x6 x7 x8 x9 x10 x11 x12 x13 x14 x15 : Cell) : st2 [x0, x1, x2, .v (rowsV r), x4, x5, x6, x7, x8, x9, x10, x11, x12, x13, x14, x15] = some (.nx [x0, x1, x2, .v (rowsV r), .v (fieldsV r), x5, x6, x7, x8, x9, x10, x11, x12, x13, x14, x15]) := by cases r <;> kernel_rfl
theorem st3_ok (r : R6)  (x0 x1 x2 x4 x5 x6 x7 x8 x9 x10 x11 x12 x13 x14 x15 : Cell) : st3 [x0, x1, x2, .v (rowsV r), x4, x5, x6, x7, x8, x9, x10, x11, x12, x13, x14, x15] = some (.nx [x0, x1, x2, .v (rowsV r), x4, .v (.lst (pk r)), x6, x7, x8, x9, x10, x11, x12, x13, x14, x15]) := by cases r <;> kernel_rfl
theorem st4_ok (r : R6)  (x0 x1 x2 x6 x7 x8 x9 x10 x11 x12 x13 x14 x15 : Cell) : st4 [x0, x1, x2, .v (rowsV r), .v (fieldsV r), .v (.lst (pk r)), x6, x7, x8, x9, x10, x11, x12, x13, x14, x15] = some (.nx [x0, x1, x2, .v (rowsV r), .v (fieldsV r), .v (.lst (pk r)), x6, x7, x8, x9, x10, x11, .un, .un, x14, x15]) := by cases r <;> kernel_rfl
theorem st5_ok (r : R6)  (x0 x1 x2 x6 x7 x8 x9 x10 x11 x12 x13 x14 x15 : Cell) : st5 [x0, x1, x2, .v (rowsV r), .v (fieldsV r), .v (.lst (pk r)), x6, x7, x8, x9, x10, x11, x12, x13, x14, x15] = some (.nx [x0, x1, x2, .v (rowsV r), .v (fieldsV r), .v (.lst (pk r)), x6, x7, x8, x9, x10, x11, .un, .un, .un, x15]) := by cases r <;> kernel_rfl
theorem st6_ok {ds ds1 : List PV} {r : R6} {l : Lk} (h : F__law_look 60 ds [rowsV r, .int 3] = some (l.pv, ds1)) (x0 x2 x4 x5 x6 x7 x8 x9 x10 x11 x12 x13 x14 x15 : Cell) : st6 [x0, .m true ds, x2, .v (rowsV r), x4, x5, x6, x7, x8, x9, x10, x11, x12, x13, x14, x15] = some (.nx [x0, .m true ds1, x2, .v (rowsV r), x4, x5, .v l.pv, x7, x8, x9, x10, x11, x12, x13, x14, x15]) := by simp [st6, h]
abbrev dueL (r : R6) (l : Lk) : List PV := (pk r).filter fun p => l.ev (seesB r p)
theorem pk_small (r : R6) : (pk r).length ≤ 6 := by cases r <;> decide
theorem plain_pk : ∀ L : List (List Int), PV.plains (L.map pkt) = true
  | [] => rfl
  | l :: L => by rw [List.map_cons, plains_cons, plain_pk L, plain_tup, plains_intm]; rfl
theorem depth_pk : ∀ L : List (List Int), PV.depths (L.map pkt) ≤ 1
  | [] => by simp
  | l :: L => by rw [List.map_cons, depths_cons, depth_tup, depths_intm]; have := depth_pk L; omega
theorem due_eq (r : R6) (f : PV → Bool) : (pk r).filter f = ((pki r).filter fun l => f (pkt l)).map pkt := by unfold pk; rw [List.filter_map]; rfl
theorem any_pk (f : List Int → Bool) (l : List Int) : ∀ L : List (List Int), ((L.filter f).map pkt).any (fun z => pvEq z (pkt l)) = (f l && decide (l ∈ L))
  | [] => by simp
  | x :: L => by
    by_cases hx : f x = true
    · rw [List.filter_cons_of_pos hx, List.map_cons, List.any_cons, any_pk f l L, eq_tup_int]
      by_cases e : x = l
      · subst e; simp [hx]
      · have e' : ¬ l = x := fun z => e z.symm
        simp [e, e']
    · rw [List.filter_cons_of_neg hx, any_pk f l L]
      by_cases e : x = l
      · subst e; simp [hx]
      · have e' : ¬ l = x := fun z => e z.symm
        simp [e']
theorem in_due (r : R6) (f : PV → Bool) {l : List Int} (hl : l ∈ pki r) : qIn (pkt l) (.tup ((pk r).filter f)) = some (.bl (f (pkt l))) := by
  show (if _ then some (PV.bl (((pk r).filter f).any fun z => pvEq z (pkt l))) else none) = _
  rw [due_eq, any_pk (fun l => f (pkt l)) l (pki r), if_pos ⟨by simp, by
    rw [fit_eq_true, plain_tup, depth_tup, plain_pk]
    have := depth_pk ((pki r).filter fun l => f (pkt l))
    exact ⟨rfl, by omega⟩⟩]
  simp [hl]
theorem okSs_pk : ∀ L : List (List Int), (∀ l ∈ L, l.length ≤ 2) → okSs (L.map pkt) = true
  | [], _ => rfl
  | l :: L, h => by
    show (okS (pkt l) && okSs (L.map pkt)) = true
    rw [okSs_pk L fun x hx => h x (List.mem_cons_of_mem _ hx), Bool.and_true]
    show (decide ((l.map PV.int).length ≤ 16777216) && okSs (l.map .int)) = true
    rw [okSs_intm, List.length_map]
    have := h l List.mem_cons_self
    simp; omega
theorem pki_short (r : R6) : ∀ l ∈ pki r, l.length ≤ 2 := by cases r <;> decide
theorem pki_few (r : R6) : (pki r).length ≤ 6 := by cases r <;> decide
theorem due_ok (r : R6) (f : PV → Bool) : okS (.tup ((pk r).filter f)) = true ∧ (PV.tup ((pk r).filter f)).depth < 60 := by
  rw [due_eq]
  have h1 := okSs_pk ((pki r).filter fun l => f (pkt l)) fun l hl => pki_short r l (List.mem_filter.mp hl).1
  have h2 := depth_pk ((pki r).filter fun l => f (pkt l))
  have h3 := List.length_filter_le (fun l => f (pkt l)) (pki r)
  have h4 := pki_few r
  constructor
  · show (decide ((((pki r).filter fun l => f (pkt l)).map pkt).length ≤ 16777216) && okSs _) = true
    rw [h1, List.length_map, Bool.and_true]
    simp; omega
  · rw [depth_tup]; omega
theorem or_f {da db : Den PV} {e e' : Cells} {o : Option (Out PV)} (h : da e = some (.ok (.bl false) e')) (k : db e' = o) : dOr da db e = o := by simp [h, k]
theorem packets_of_ok (r : R6) (l : Lk) (ho : l.over r) (hd : l.dep < 40) : F_packets_of [fieldsV r, l.pv] = some (.ok (.tup (dueL r l))) := by
  have e1 : dFld ["Fields"] "packets" (dVar 0) [.v (fieldsV r), .v l.pv, .un] = some (.ok (.tup (pk r)) [.v (fieldsV r), .v l.pv, .un]) := rfl
  have q := lc_pure (gx := gxN 2) (dc := dCall (F_sees 60) [] (dCons (dVar 0) (dCons (dVar 1) (dCons (dVar 2) dNil)))) (de := dVar 2) (own := [2]) (fun p => l.ev (seesB r p)) id [.v (fieldsV r), .v l.pv, .un] (pk r) [] fun p hp => by
    have e := sees_ok r hp l 60 ho (by omega)
    cases h : l.ev (seesB r p) <;> rw [h] at e <;> simp [lcTurn, e]
  rw [List.map_id, List.nil_append] at q
  have hi : F_is_look 60 [fieldsV r, l.pv, .int 40] = some (.ok (.bl true)) := is_look_ok r l 60 40 ho (by omega) (by omega)
  simp [F_packets_of, fnDen, d_packets_of, hi, e1, q]
theorem st7_ok (r : R6) (l : Lk) (ho : l.over r) (hd : l.dep < 40) (x0 x1 x2 x4 x7 x8 x9 x10 x11 x12 x13 x14 x15 : Cell) : st7 [x0, x1, x2, .v (rowsV r), x4, .v (.lst (pk r)), .v l.pv, x7, x8, x9, x10, x11, x12, x13, x14, x15] = some (.nx [x0, x1, x2, .v (rowsV r), x4, .v (.lst (pk r)), .v l.pv, .v (.tup (dueL r l)), .un, x9, x10, x11, x12, x13, x14, x15]) := by
  have q := lc_pure (gx := gxN 8) (dc := dCall (F__law_sees 60) [] (dCons (dVar 3) (dCons (dVar 6) (dCons (dVar 8) dNil)))) (de := dVar 8) (own := [8]) (fun p => l.ev (seesB r p)) id [x0, x1, x2, .v (rowsV r), x4, .v (.lst (pk r)), .v l.pv, x7, .un, x9, x10, x11, x12, x13, x14, x15] (pk r) [] fun p hp => by
    have e := lsees_ok r hp l 60 ho (by omega)
    cases h : l.ev (seesB r p) <;> rw [h] at e <;> simp [lcTurn, e]
  rw [List.map_id, List.nil_append] at q
  simp [st7, q]
theorem st8_ok (r : R6) (l : Lk) (ho : l.over r) (hd : l.dep < 40) (x0 x1 x2 x3 x5 x8 x9 x10 x11 x12 x13 x14 x15 : Cell) : st8 [x0, x1, x2, x3, .v (fieldsV r), x5, .v l.pv, .v (.tup (dueL r l)), x8, x9, x10, x11, x12, x13, x14, x15] = some (.nx [x0, x1, x2, x3, .v (fieldsV r), x5, .v l.pv, .v (.tup (dueL r l)), x8, x9, x10, x11, x12, x13, x14, x15]) := by
  have e1 := packets_of_ok r l ho hd
  have e2 : F_is_look 60 [fieldsV r, l.pv, .int 40] = some (.ok (.bl true)) := is_look_ok r l 60 40 ho (by omega) (by omega)
  have e3 := same_ok 60 _ (due_ok r fun p => l.ev (seesB r p)).1 (due_ok r fun p => l.ev (seesB r p)).2
  simp [st8, e1, e2, e3, qIs]
theorem st9_ok {ds ds1 : List PV} {r : R6} {w : Nat} (h : F__law_draw ds [.int (pki r).length] = some (.int w, ds1)) (hw : w < (pki r).length) (x0 x2 x3 x4 x6 x7 x8 x9 x10 x11 x12 x13 x14 x15 : Cell) : st9 [x0, .m true ds, x2, x3, x4, .v (.lst (pk r)), x6, x7, x8, x9, x10, x11, x12, x13, x14, x15] = some (.nx [x0, .m true ds1, x2, x3, x4, .v (.lst (pk r)), x6, x7, .v (pkt (pki r)[w]), x9, x10, x11, x12, x13, x14, x15]) := by
  simp [st9, pk, h, hw]
def c10a : Den PV := (dNot (dCall (F__law_same 60) [] (dCons (dCall (F_sees 60) [] (dCons (dVar 4) (dCons (dVar 6) (dCons (dVar 8) dNil)))) (dCons (dOp qIn (dVar 8) (dVar 7)) dNil))))
def c10b : Den PV := (dOr (dOp (qIs true) (dCall F_is_packet [] (dCons (dVar 4) (dCons (dVar 8) dNil))) (Den.ret (.bl true))) (dNot (dCall (F__law_same 60) [] (dCons (dCall F_packets_of [] (dCons (dVar 4) (dCons (dCall F_just [] (dCons (dVar 4) (dCons (dVar 8) dNil))) dNil))) (dCons (dTup (dCons (dVar 8) dNil)) dNil)))))
theorem c10b_ok (r : R6) (x0 x1 x2 x3 x5 x6 x7 x9 x10 x11 x12 x13 x14 x15 : Cell) : ∀ p ∈ pki r, c10b [x0, x1, x2, x3, .v (fieldsV r), x5, x6, x7, .v (pkt p), x9, x10, x11, x12, x13, x14, x15] = some (.ok (.bl false) [x0, x1, x2, x3, .v (fieldsV r), x5, x6, x7, .v (pkt p), x9, x10, x11, x12, x13, x14, x15]) := at_each (by cases r <;> kernel_rfl)
theorem st10_ok (r : R6) (l : Lk) (ho : l.over r) (hd : l.dep < 40) {p : List Int} (hp : p ∈ pki r) (x0 x1 x2 x3 x5 x9 x10 x11 x12 x13 x14 x15 : Cell) : st10 [x0, x1, x2, x3, .v (fieldsV r), x5, .v l.pv, .v (.tup (dueL r l)), .v (pkt p), x9, x10, x11, x12, x13, x14, x15] = some (.nx [x0, x1, x2, x3, .v (fieldsV r), x5, .v l.pv, .v (.tup (dueL r l)), .v (pkt p), x9, x10, x11, x12, x13, x14, x15]) := by
  have e1 := sees_ok r (List.mem_map.mpr ⟨p, hp, rfl⟩ : pkt p ∈ pk r) l 60 ho (by omega)
  have e2 := in_due r (fun p => l.ev (seesB r p)) hp
  have e3 := same_ok 60 (.bl (l.ev (seesB r (pkt p)))) rfl (by simp)
  refine if_nx (or_f (da := c10a) (db := c10b) ?_ (c10b_ok r _ _ _ _ _ _ _ _ _ _ _ _ _ _ p hp))
  simp [c10a, e1, e2, e3]
theorem st11_ok {ds ds1 : List PV} {r : R6} {w : Nat} (h : F__law_draw ds [.int (prs r).length] = some (.int w, ds1)) (hw : w < (prs r).length) (x0 x2 x4 x5 x6 x7 x8 x9 x10 x11 x12 x13 x14 x15 : Cell) : st11 [x0, .m true ds, x2, .v (rowsV r), x4, x5, x6, x7, x8, x9, x10, x11, x12, x13, x14, x15] = some (.nx [x0, .m true ds1, x2, .v (rowsV r), x4, x5, x6, x7, x8, x9, x10, x11, .v (.str (prs r)[w].1), .v (.int (prs r)[w].2), x14, x15]) := by
  simp [st11, rowsV, h, hw]
theorem st12_ok {ds ds1 : List PV} {m : Int} {w : Nat} (h : F__law_draw ds [.int m] = some (.int w, ds1)) (x0 x2 x3 x4 x5 x6 x7 x8 x9 x10 x11 x12 x14 x15 : Cell) : st12 [x0, .m true ds, x2, x3, x4, x5, x6, x7, x8, x9, x10, x11, x12, .v (.int m), x14, x15] = some (.nx [x0, .m true ds1, x2, x3, x4, x5, x6, x7, x8, .v (.int w), x10, x11, x12, .v (.int m), x14, x15]) := by
  simp [st12, h]
def T13 (r : R6) : List (List Int × (Str × Int) × Int) := (pki r).flatMap fun l => (prs r).flatMap fun p => (rgI p.2.toNat).map fun v => (l, p, v)
theorem mem_T13 {r : R6} {l : List Int} {p : Str × Int} {v : Int} (hl : l ∈ pki r) (hp : p ∈ prs r) (h0 : 0 ≤ v) (h1 : v < p.2) : (l, p, v) ∈ T13 r :=
  List.mem_flatMap.mpr ⟨l, hl, List.mem_flatMap.mpr ⟨p, hp, List.mem_map.mpr ⟨v, mem_rgI.mpr ⟨h0, by omega⟩, rfl⟩⟩⟩
theorem st13_ok (r : R6) (x0 x1 x2 x5 x6 x7 x10 x11 x14 x15 : Cell) : ∀ t ∈ T13 r, st13 [x0, x1, x2, .v (rowsV r), .v (fieldsV r), x5, x6, x7, .v (pkt t.1), .v (.int t.2.2), x10, x11, .v (.str t.2.1.1), .v (.int t.2.1.2), x14, x15] = some (.nx [x0, x1, x2, .v (rowsV r), .v (fieldsV r), x5, x6, x7, .v (pkt t.1), .v (.int t.2.2), x10, x11, .v (.str t.2.1.1), .v (.int t.2.1.2), x14, x15]) := at_each (by cases r <;> kernel_rfl)
def wrongL (p : Str × Int) (L : PV) : List PV := [.non, .tup [], .tup [.str "at"], .tup [.str "at", .str p.1], .tup [.str "at", .str "zz", .int 0], .tup [.str "at", .str p.1, .int p.2], .tup [.str "at", .str p.1, .bl true], .tup [.str "not"], .tup [.str "and", L], .lst [.str "yes"], .tup [.str "is", .str p.1], .tup [.str "yes", L]]
theorem st14_ok (p : Str × Int) (L : PV) (x0 x1 x2 x3 x4 x5 x7 x8 x9 x10 x11 x14 x15 : Cell) : st14 [x0, x1, x2, x3, x4, x5, .v L, x7, x8, x9, x10, x11, .v (.str p.1), .v (.int p.2), x14, x15] = some (.nx [x0, x1, x2, x3, x4, x5, .v L, x7, x8, x9, .v (.lst (wrongL p L)), x11, .v (.str p.1), .v (.int p.2), x14, x15]) := by kernel_rfl
theorem st15_ok {ds ds1 : List PV} {p : Str × Int} {L : PV} {w : Nat} (h : F__law_draw ds [.int 12] = some (.int w, ds1)) (hw : w < (wrongL p L).length) (x0 x2 x3 x4 x5 x6 x7 x8 x9 x11 x12 x13 x14 x15 : Cell) : st15 [x0, .m true ds, x2, x3, x4, x5, x6, x7, x8, x9, .v (.lst (wrongL p L)), x11, x12, x13, x14, x15] = some (.nx [x0, .m true ds1, x2, x3, x4, x5, x6, x7, x8, x9, .v (.lst (wrongL p L)), .v (wrongL p L)[w], x12, x13, x14, x15]) := by
  simp [st15, h, hw]
def W16 (r : R6) (L : PV) : List PV := (prs r).flatMap fun p => wrongL p L
theorem st16_ok (r : R6) (L : PV) (x0 x1 x2 x3 x5 x6 x7 x8 x9 x10 x12 x13 x14 x15 : Cell) : ∀ b ∈ W16 r L, st16 [x0, x1, x2, x3, .v (fieldsV r), x5, x6, x7, x8, x9, x10, .v b, x12, x13, x14, x15] = some (.nx [x0, x1, x2, x3, .v (fieldsV r), x5, x6, x7, x8, x9, x10, .v b, x12, x13, x14, x15]) := at_each (by cases r <;> kernel_rfl)
theorem st17_ok (r : R6) (x0 x1 x2 x3 x5 x6 x7 x9 x10 x11 x12 x13 x14 x15 : Cell) : ∀ p ∈ pki r, st17 [x0, x1, x2, x3, .v (fieldsV r), x5, x6, x7, .v (pkt p), x9, x10, x11, x12, x13, x14, x15] = some (.nx [x0, x1, x2, x3, .v (fieldsV r), x5, x6, x7, .v (pkt p), .v (.tup (p.dropLast.map .int ++ [.bl false])), x10, x11, x12, x13, x14, x15]) := at_each (by cases r <;> kernel_rfl)
end Lk01
set_option Elab.async false
set_option linter.all false
set_option maxRecDepth 100000
set_option maxHeartbeats 400000
namespace Lk01
open PySem L2 Pu
def Shape (sc : List PV) (s0 : Cell) (e : Cells) : Prop := ∃ (ds : List PV) (c2 c3 c4 c5 c6 c7 c8 c9 c10 c11 c12 c13 c14 c15 : Cell), DrOk sc ds ∧ e = [s0, .m true ds, c2, c3, c4, c5, c6, c7, c8, c9, c10, c11, c12, c13, c14, c15]
theorem body_ok {sc : List PV} {s0 : Cell} (hs : ∀ x ∈ sc, ∃ i, x = .int i) {e : Cells} (h : Shape sc s0 e) : ∃ e', bodyL e = some (.nx e') ∧ Shape sc s0 e' := by
  obtain ⟨ds, c2, c3, c4, c5, c6, c7, c8, c9, c10, c11, c12, c13, c14, c15, hd, rfl⟩ := h
  obtain ⟨r, ds1, e1, d1⟩ := fields_ok hs hd
  obtain ⟨l, ds2, e2, d2, l2, ho⟩ := look_ok hs r 3 60 ds1 (by omega) d1
  obtain ⟨w, ds3, e3, d3, l3⟩ := draw_ok hs d2 ((pki r).length : Int) (by cases r <;> decide) (by have := pki_few r; omega)
  have hw : w < (pki r).length := by omega
  have hp : (pki r)[w] ∈ pki r := List.getElem_mem hw
  obtain ⟨u, ds4, e4, d4, l4⟩ := draw_ok hs d3 ((prs r).length : Int) (by cases r <;> decide) (by have := rows_few r; omega)
  have hu : u < (prs r).length := by omega
  have hq : (prs r)[u] ∈ prs r := List.getElem_mem hu
  obtain ⟨p0, p4⟩ := prs_pos r _ hq
  obtain ⟨v, ds5, e5, d5, l5⟩ := draw_ok hs d4 (prs r)[u].2 p0 (by omega)
  obtain ⟨b, ds6, e6, d6, l6⟩ := draw_ok hs d5 12 (by omega) (by omega)
  have hb : b < (wrongL (prs r)[u] l.pv).length := by show b < 12; omega
  refine ⟨_, ?_, ds6, c2, .v (rowsV r), .v (fieldsV r), .v (.lst (pk r)), .v l.pv, .v (.tup (dueL r l)), .v (pkt (pki r)[w]), .v (.tup ((pki r)[w].dropLast.map .int ++ [.bl false])), .v (.lst (wrongL (prs r)[u] l.pv)), .v (wrongL (prs r)[u] l.pv)[b], .v (.str (prs r)[u].1), .v (.int (prs r)[u].2), .un, c15, d6, rfl⟩
  unfold bodyL
  refine seq_nx (st1_ok e1 _ _ _ _ _ _ _ _ _ _ _ _ _ _ _) ?_
  refine seq_nx (st2_ok r _ _ _ _ _ _ _ _ _ _ _ _ _ _ _) ?_
  refine seq_nx (st3_ok r _ _ _ _ _ _ _ _ _ _ _ _ _ _ _) ?_
  refine seq_nx (st4_ok r _ _ _ _ _ _ _ _ _ _ _ _ _) ?_
  refine seq_nx (st5_ok r _ _ _ _ _ _ _ _ _ _ _ _ _) ?_
  refine seq_nx (st6_ok e2 _ _ _ _ _ _ _ _ _ _ _ _ _ _) ?_
  refine seq_nx (st7_ok r l ho (by omega) _ _ _ _ _ _ _ _ _ _ _ _ _) ?_
  refine seq_nx (st8_ok r l ho (by omega) _ _ _ _ _ _ _ _ _ _ _ _ _) ?_
  refine seq_nx (st9_ok e3 hw _ _ _ _ _ _ _ _ _ _ _ _ _ _) ?_
  refine seq_nx (st10_ok r l ho (by omega) hp _ _ _ _ _ _ _ _ _ _ _ _) ?_
  refine seq_nx (st11_ok e4 hu _ _ _ _ _ _ _ _ _ _ _ _ _ _) ?_
  refine seq_nx (st12_ok e5 _ _ _ _ _ _ _ _ _ _ _ _ _ _) ?_
  refine seq_nx (st13_ok r _ _ _ _ _ _ _ _ _ _ ((pki r)[w], (prs r)[u], (v : Int)) (mem_T13 hp hq (Int.natCast_nonneg v) l5)) ?_
  refine seq_nx (st14_ok (prs r)[u] l.pv _ _ _ _ _ _ _ _ _ _ _ _ _) ?_
  refine seq_nx (st15_ok e6 hb _ _ _ _ _ _ _ _ _ _ _ _ _ _) ?_
  refine seq_nx (st16_ok r l.pv _ _ _ _ _ _ _ _ _ _ _ _ _ _ (wrongL (prs r)[u] l.pv)[b] (List.mem_flatMap.mpr ⟨_, hq, List.getElem_mem hb⟩)) ?_
  exact st17_ok r _ _ _ _ _ _ _ _ _ _ _ _ _ _ (pki r)[w] hp
def rtOf : Option SOut → Option PV
  | some (.rt v _) => some v
  | _ => none
theorem rtOf_ex {o : Option SOut} {v : PV} (h : rtOf o = some v) : ∃ e', o = some (.rt v e') := by
  unfold rtOf at h
  split at h
  · cases h; exact ⟨_, rfl⟩
  · cases h
theorem end_ok (x0 x1 x2 x3 x4 x5 x6 x7 x8 x9 x10 x11 x12 x13 x14 x15 : Cell) : ∃ e', (sSeq en1 (sSeq en2 (sSeq en3 (sSeq en4 (sSeq en5 en6))))) [x0, x1, x2, x3, x4, x5, x6, x7, x8, x9, x10, x11, x12, x13, x14, x15] = some (.rt (.bl true) e') := rtOf_ex (by kernel_rfl)
theorem truthP : ∀ ns : List Int, ns.length ≤ 63 → F_law [.lst (ns.map .int)] = some (.ok (.bl true)) := by
  intro ns _
  have hs : ∀ x ∈ ns.map PV.int, ∃ i, x = PV.int i := fun x hx => by
    obtain ⟨i, _, rfl⟩ := List.mem_map.mp hx
    exact ⟨i, rfl⟩
  generalize ns.map PV.int = sc at hs
  obtain ⟨e', l1, ⟨ds, c2, c3, c4, c5, c6, c7, c8, c9, c10, c11, c12, c13, c14, c15, hd, rfl⟩⟩ := loop_inv (gx := gxN 2) (body := bodyL) (fun _ e => Shape sc (.v (.lst sc)) e) (rgP 4) [.v (.lst sc), .m true [.lst sc, .int 0, .int 0, .int 1], .un, .un, .un, .un, .un, .un, .un, .un, .un, .un, .un, .un, .un, .un] ⟨_, _, _, _, _, _, _, _, _, _, _, _, _, _, _, ⟨⟨0, 0, 1, rfl⟩⟩, rfl⟩ fun x xs e h => by
    obtain ⟨ds, k2, k3, k4, k5, k6, k7, k8, k9, k10, k11, k12, k13, k14, k15, hd, rfl⟩ := h
    obtain ⟨e', h1, h2⟩ := body_ok (s0 := .v (.lst sc)) hs ⟨ds, .v x, k3, k4, k5, k6, k7, k8, k9, k10, k11, k12, k13, k14, k15, hd, rfl⟩
    refine ⟨e', .inl ?_, h2⟩
    have : sTurn (gxN 2) bodyL x [.v (.lst sc), .m true ds, k2, k3, k4, k5, k6, k7, k8, k9, k10, k11, k12, k13, k14, k15] = bodyL [.v (.lst sc), .m true ds, .v x, k3, k4, k5, k6, k7, k8, k9, k10, k11, k12, k13, k14, k15] := by simp [sTurn]
    rw [this]
    exact h1
  obtain ⟨e2, h2⟩ := end_ok (.v (.lst sc)) (.m true ds) c2 c3 c4 c5 c6 c7 c8 c9 c10 c11 c12 c13 c14 c15
  rw [F_law_eq]
  refine fn_rt (c := [.v (.lst sc), .un, .un, .un, .un, .un, .un, .un, .un, .un, .un, .un, .un, .un, .un, .un]) (e' := e2) rfl ?_
  refine seq_nx (e' := [.v (.lst sc), .m true [.lst sc, .int 0, .int 0, .int 1], .un, .un, .un, .un, .un, .un, .un, .un, .un, .un, .un, .un, .un, .un]) (by simp [draws_at]) ?_
  refine seq_nx (e' := [.v (.lst sc), .m true ds, c2, c3, c4, c5, c6, c7, c8, c9, c10, c11, c12, c13, c14, c15]) ?_ h2
  rw [sFor_at]
  have hi : dRg (Den.ret (.int 4)) [.v (.lst sc), .m true [.lst sc, .int 0, .int 0, .int 1], .un, .un, .un, .un, .un, .un, .un, .un, .un, .un, .un, .un, .un, .un] = some (.ok (rgP 4) [.v (.lst sc), .m true [.lst sc, .int 0, .int 0, .int 1], .un, .un, .un, .un, .un, .un, .un, .un, .un, .un, .un, .un, .un, .un]) := by simp
  rw [hi]
  exact l1
end Lk01
set_option Elab.async false
set_option linter.all false
set_option maxRecDepth 100000
set_option maxHeartbeats 8000000
namespace Lk01
open PySem PySem.Spec PyProof.Rows L2 Pu
/-! ### the end -/
def Truth : Prop := ∀ ns : List Int, ns.length ≤ 63 → F_law [.lst (ns.map .int)] = some (.ok (.bl true))
theorem all_mk (tr : Truth) {P : Program} {w : World} {K : PySem.W.Frag} {h : Heap} {mg : Str → Option Value} {fa : Addr} (X : K.In h) (G : h.Ns mainGlobals mg) (hfa : mg "law" = some (.ref fa)) {X_BadTest : Addr}
    {X_Fields : Addr}
    {f__law_draws : Addr} {od__law_draws an__law_draws : Option Addr} {sl__law_draws : Array (Option Value)} {oc__law_draws kV__law_draws dc__law_draws pm__law_draws cd__law_draws ct__law_draws : Value}
    {f_all_rows : Addr} {od_all_rows an_all_rows : Option Addr} {sl_all_rows : Array (Option Value)} {oc_all_rows kV_all_rows dc_all_rows pm_all_rows cd_all_rows ct_all_rows : Value}
    {f_is_name : Addr} {od_is_name an_is_name : Option Addr} {sl_is_name : Array (Option Value)} {oc_is_name kV_is_name dc_is_name pm_is_name cd_is_name ct_is_name : Value}
    {f_is_integer : Addr} {od_is_integer an_is_integer : Option Addr} {sl_is_integer : Array (Option Value)} {oc_is_integer kV_is_integer dc_is_integer pm_is_integer cd_is_integer ct_is_integer : Value}
    {f_Fields____init__ : Addr} {od_Fields____init__ an_Fields____init__ : Option Addr} {sl_Fields____init__ : Array (Option Value)} {oc_Fields____init__ kV_Fields____init__ dc_Fields____init__ pm_Fields____init__ cd_Fields____init__ ct_Fields____init__ : Value}
    {f__law_draw : Addr} {od__law_draw an__law_draw : Option Addr} {sl__law_draw : Array (Option Value)} {oc__law_draw kV__law_draw dc__law_draw pm__law_draw cd__law_draw ct__law_draw : Value}
    {f__law_fields : Addr} {od__law_fields an__law_fields : Option Addr} {sl__law_fields : Array (Option Value)} {oc__law_fields kV__law_fields dc__law_fields pm__law_fields cd__law_fields ct__law_fields : Value}
    {f__law_rows : Addr} {od__law_rows an__law_rows : Option Addr} {sl__law_rows : Array (Option Value)} {oc__law_rows kV__law_rows dc__law_rows pm__law_rows cd__law_rows ct__law_rows : Value}
    {f__law_look : Addr} {od__law_look an__law_look : Option Addr} {sl__law_look : Array (Option Value)} {oc__law_look kV__law_look dc__law_look pm__law_look cd__law_look ct__law_look : Value}
    {f_Fields__place : Addr} {od_Fields__place an_Fields__place : Option Addr} {sl_Fields__place : Array (Option Value)} {oc_Fields__place kV_Fields__place dc_Fields__place pm_Fields__place cd_Fields__place ct_Fields__place : Value}
    {f_is_value : Addr} {od_is_value an_is_value : Option Addr} {sl_is_value : Array (Option Value)} {oc_is_value kV_is_value dc_is_value pm_is_value cd_is_value ct_is_value : Value}
    {f_is_look : Addr} {od_is_look an_is_look : Option Addr} {sl_is_look : Array (Option Value)} {oc_is_look kV_is_look dc_is_look pm_is_look cd_is_look ct_is_look : Value}
    {T_is_look : Addr} {tn_is_look : Nat} {ts_is_look : Array (Option Value)} {td_is_look : Option Addr} {tk_is_look_0 : Tok}
    {f__law_bad_fields : Addr} {od__law_bad_fields an__law_bad_fields : Option Addr} {sl__law_bad_fields : Array (Option Value)} {oc__law_bad_fields kV__law_bad_fields dc__law_bad_fields pm__law_bad_fields cd__law_bad_fields ct__law_bad_fields : Value}
    {f__law_same : Addr} {od__law_same an__law_same : Option Addr} {sl__law_same : Array (Option Value)} {oc__law_same kV__law_same dc__law_same pm__law_same cd__law_same ct__law_same : Value}
    {f_is_packet : Addr} {od_is_packet an_is_packet : Option Addr} {sl_is_packet : Array (Option Value)} {oc_is_packet kV_is_packet dc_is_packet pm_is_packet cd_is_packet ct_is_packet : Value}
    {f_sees : Addr} {od_sees an_sees : Option Addr} {sl_sees : Array (Option Value)} {oc_sees kV_sees dc_sees pm_sees cd_sees ct_sees : Value}
    {f_packets_of : Addr} {od_packets_of an_packets_of : Option Addr} {sl_packets_of : Array (Option Value)} {oc_packets_of kV_packets_of dc_packets_of pm_packets_of cd_packets_of ct_packets_of : Value}
    {f__law_bad_look : Addr} {od__law_bad_look an__law_bad_look : Option Addr} {sl__law_bad_look : Array (Option Value)} {oc__law_bad_look kV__law_bad_look dc__law_bad_look pm__law_bad_look cd__law_bad_look ct__law_bad_look : Value}
    {f__law_sees : Addr} {od__law_sees an__law_sees : Option Addr} {sl__law_sees : Array (Option Value)} {oc__law_sees kV__law_sees dc__law_sees pm__law_sees cd__law_sees ct__law_sees : Value}
    {f_put : Addr} {od_put an_put : Option Addr} {sl_put : Array (Option Value)} {oc_put kV_put dc_put pm_put cd_put ct_put : Value}
    {f__law_put : Addr} {od__law_put an__law_put : Option Addr} {sl__law_put : Array (Option Value)} {oc__law_put kV__law_put dc__law_put pm__law_put cd__law_put ct__law_put : Value}
    {f_just : Addr} {od_just an_just : Option Addr} {sl_just : Array (Option Value)} {oc_just kV_just dc_just pm_just cd_just ct_just : Value}
    {f_law : Addr} {od_law an_law : Option Addr} {sl_law : Array (Option Value)} {oc_law kV_law dc_law pm_law cd_law ct_law : Value}
    {gt_LETTERS : Tok}
    {gt_MOST_FIELDS : Tok}
    {gt_MOST_PACKETS : Tok}
    {gt_MOST_VALUES : Tok}
    (ca_Fields : PySem.W.nsIn K mainGlobals "Fields" = some (some (.ref X_Fields)))
    (cg_Fields : PySem.W.plainGet K X_Fields Str.empty = true)
    (cd_Fields : PySem.W.hasDictIn K X_Fields = true)
    (co_Fields : PySem.W.plainOver K X_Fields = true)
    (cs_Fields : PySem.W.findIn K (.ref X_Fields) "__setattr__" = some (some (.builtin "object.__setattr__")))
    (cn_Fields_names : PySem.W.findIn K (.ref X_Fields) "names" = some none)
    (cn_Fields_packets : PySem.W.findIn K (.ref X_Fields) "packets" = some none)
    (cn_Fields_rows : PySem.W.findIn K (.ref X_Fields) "rows" = some none)
    (cm_Fields : PySem.W.makesIn K X_Fields = true)
    (ck_Fields : PySem.W.keepIn K (.ref X_Fields) = true)
    (a__law_draws : PySem.W.nsIn K mainGlobals "_law_draws" = some (some (.ref f__law_draws)))
    (l__law_draws : K.lookup f__law_draws = some ⟨oc__law_draws, od__law_draws, .func (PySem.W.fnOf "_law_draws" "_law_draws" (defArgs s__law_draws) (defBody s__law_draws) (defScope s__law_draws) .none kV__law_draws dc__law_draws pm__law_draws an__law_draws cd__law_draws ct__law_draws), sl__law_draws⟩)
    (c__law_draws : PySem.W.codeIn K cd__law_draws "_law_draws" = true)
    (k__law_draws : PySem.W.keepIn K (.ref f__law_draws) = true)
    (a_all_rows : PySem.W.nsIn K mainGlobals "all_rows" = some (some (.ref f_all_rows)))
    (l_all_rows : K.lookup f_all_rows = some ⟨oc_all_rows, od_all_rows, .func (PySem.W.fnOf "all_rows" "all_rows" (defArgs s_all_rows) (defBody s_all_rows) (defScope s_all_rows) .none kV_all_rows dc_all_rows pm_all_rows an_all_rows cd_all_rows ct_all_rows), sl_all_rows⟩)
    (c_all_rows : PySem.W.codeIn K cd_all_rows "all_rows" = true)
    (k_all_rows : PySem.W.keepIn K (.ref f_all_rows) = true)
    (a_is_name : PySem.W.nsIn K mainGlobals "is_name" = some (some (.ref f_is_name)))
    (l_is_name : K.lookup f_is_name = some ⟨oc_is_name, od_is_name, .func (PySem.W.fnOf "is_name" "is_name" (defArgs s_is_name) (defBody s_is_name) (defScope s_is_name) .none kV_is_name dc_is_name pm_is_name an_is_name cd_is_name ct_is_name), sl_is_name⟩)
    (c_is_name : PySem.W.codeIn K cd_is_name "is_name" = true)
    (k_is_name : PySem.W.keepIn K (.ref f_is_name) = true)
    (a_is_integer : PySem.W.nsIn K mainGlobals "is_integer" = some (some (.ref f_is_integer)))
    (l_is_integer : K.lookup f_is_integer = some ⟨oc_is_integer, od_is_integer, .func (PySem.W.fnOf "is_integer" "is_integer" (defArgs s_is_integer) (defBody s_is_integer) (defScope s_is_integer) .none kV_is_integer dc_is_integer pm_is_integer an_is_integer cd_is_integer ct_is_integer), sl_is_integer⟩)
    (c_is_integer : PySem.W.codeIn K cd_is_integer "is_integer" = true)
    (k_is_integer : PySem.W.keepIn K (.ref f_is_integer) = true)
    (a_Fields____init__ : PySem.W.findIn K (.ref X_Fields) "__init__" = some (some (.ref f_Fields____init__)))
    (ai_Fields____init__ : PySem.W.isFn K (.ref f_Fields____init__) = true)
    (l_Fields____init__ : K.lookup f_Fields____init__ = some ⟨oc_Fields____init__, od_Fields____init__, .func (PySem.W.fnOf "__init__" "Fields.__init__" (defArgs s_Fields____init__) (defBody s_Fields____init__) (defScope s_Fields____init__) .none kV_Fields____init__ dc_Fields____init__ pm_Fields____init__ an_Fields____init__ cd_Fields____init__ ct_Fields____init__), sl_Fields____init__⟩)
    (c_Fields____init__ : PySem.W.codeIn K cd_Fields____init__ "Fields.__init__" = true)
    (k_Fields____init__ : PySem.W.keepIn K (.ref f_Fields____init__) = true)
    (a__law_draw : PySem.W.nsIn K mainGlobals "_law_draw" = some (some (.ref f__law_draw)))
    (l__law_draw : K.lookup f__law_draw = some ⟨oc__law_draw, od__law_draw, .func (PySem.W.fnOf "_law_draw" "_law_draw" (defArgs s__law_draw) (defBody s__law_draw) (defScope s__law_draw) .none kV__law_draw dc__law_draw pm__law_draw an__law_draw cd__law_draw ct__law_draw), sl__law_draw⟩)
    (c__law_draw : PySem.W.codeIn K cd__law_draw "_law_draw" = true)
    (k__law_draw : PySem.W.keepIn K (.ref f__law_draw) = true)
    (a__law_fields : PySem.W.nsIn K mainGlobals "_law_fields" = some (some (.ref f__law_fields)))
    (l__law_fields : K.lookup f__law_fields = some ⟨oc__law_fields, od__law_fields, .func (PySem.W.fnOf "_law_fields" "_law_fields" (defArgs s__law_fields) (defBody s__law_fields) (defScope s__law_fields) .none kV__law_fields dc__law_fields pm__law_fields an__law_fields cd__law_fields ct__law_fields), sl__law_fields⟩)
    (c__law_fields : PySem.W.codeIn K cd__law_fields "_law_fields" = true)
    (k__law_fields : PySem.W.keepIn K (.ref f__law_fields) = true)
    (a__law_rows : PySem.W.nsIn K mainGlobals "_law_rows" = some (some (.ref f__law_rows)))
    (l__law_rows : K.lookup f__law_rows = some ⟨oc__law_rows, od__law_rows, .func (PySem.W.fnOf "_law_rows" "_law_rows" (defArgs s__law_rows) (defBody s__law_rows) (defScope s__law_rows) .none kV__law_rows dc__law_rows pm__law_rows an__law_rows cd__law_rows ct__law_rows), sl__law_rows⟩)
    (c__law_rows : PySem.W.codeIn K cd__law_rows "_law_rows" = true)
    (k__law_rows : PySem.W.keepIn K (.ref f__law_rows) = true)
    (a__law_look : PySem.W.nsIn K mainGlobals "_law_look" = some (some (.ref f__law_look)))
    (l__law_look : K.lookup f__law_look = some ⟨oc__law_look, od__law_look, .func (PySem.W.fnOf "_law_look" "_law_look" (defArgs s__law_look) (defBody s__law_look) (defScope s__law_look) .none kV__law_look dc__law_look pm__law_look an__law_look cd__law_look ct__law_look), sl__law_look⟩)
    (c__law_look : PySem.W.codeIn K cd__law_look "_law_look" = true)
    (k__law_look : PySem.W.keepIn K (.ref f__law_look) = true)
    (a_Fields__place : PySem.W.findIn K (.ref X_Fields) "place" = some (some (.ref f_Fields__place)))
    (ai_Fields__place : PySem.W.isFn K (.ref f_Fields__place) = true)
    (l_Fields__place : K.lookup f_Fields__place = some ⟨oc_Fields__place, od_Fields__place, .func (PySem.W.fnOf "place" "Fields.place" (defArgs s_Fields__place) (defBody s_Fields__place) (defScope s_Fields__place) .none kV_Fields__place dc_Fields__place pm_Fields__place an_Fields__place cd_Fields__place ct_Fields__place), sl_Fields__place⟩)
    (c_Fields__place : PySem.W.codeIn K cd_Fields__place "Fields.place" = true)
    (k_Fields__place : PySem.W.keepIn K (.ref f_Fields__place) = true)
    (a_is_value : PySem.W.nsIn K mainGlobals "is_value" = some (some (.ref f_is_value)))
    (l_is_value : K.lookup f_is_value = some ⟨oc_is_value, od_is_value, .func (PySem.W.fnOf "is_value" "is_value" (defArgs s_is_value) (defBody s_is_value) (defScope s_is_value) .none kV_is_value dc_is_value pm_is_value an_is_value cd_is_value ct_is_value), sl_is_value⟩)
    (c_is_value : PySem.W.codeIn K cd_is_value "is_value" = true)
    (k_is_value : PySem.W.keepIn K (.ref f_is_value) = true)
    (a_is_look : PySem.W.nsIn K mainGlobals "is_look" = some (some (.ref f_is_look)))
    (l_is_look : K.lookup f_is_look = some ⟨oc_is_look, od_is_look, .func (PySem.W.fnOf "is_look" "is_look" (defArgs s_is_look) (defBody s_is_look) (defScope s_is_look) (.ref T_is_look) kV_is_look dc_is_look pm_is_look an_is_look cd_is_look ct_is_look), sl_is_look⟩)
    (c_is_look : PySem.W.codeIn K cd_is_look "is_look" = true)
    (k_is_look : PySem.W.keepIn K (.ref f_is_look) = true)
    (t_is_look : K.lookup T_is_look = some ⟨.type "tuple", td_is_look, .seq #[.int 40 tk_is_look_0] tn_is_look, ts_is_look⟩)
    (a__law_bad_fields : PySem.W.nsIn K mainGlobals "_law_bad_fields" = some (some (.ref f__law_bad_fields)))
    (l__law_bad_fields : K.lookup f__law_bad_fields = some ⟨oc__law_bad_fields, od__law_bad_fields, .func (PySem.W.fnOf "_law_bad_fields" "_law_bad_fields" (defArgs s__law_bad_fields) (defBody s__law_bad_fields) (defScope s__law_bad_fields) .none kV__law_bad_fields dc__law_bad_fields pm__law_bad_fields an__law_bad_fields cd__law_bad_fields ct__law_bad_fields), sl__law_bad_fields⟩)
    (c__law_bad_fields : PySem.W.codeIn K cd__law_bad_fields "_law_bad_fields" = true)
    (k__law_bad_fields : PySem.W.keepIn K (.ref f__law_bad_fields) = true)
    (a__law_same : PySem.W.nsIn K mainGlobals "_law_same" = some (some (.ref f__law_same)))
    (l__law_same : K.lookup f__law_same = some ⟨oc__law_same, od__law_same, .func (PySem.W.fnOf "_law_same" "_law_same" (defArgs s__law_same) (defBody s__law_same) (defScope s__law_same) .none kV__law_same dc__law_same pm__law_same an__law_same cd__law_same ct__law_same), sl__law_same⟩)
    (c__law_same : PySem.W.codeIn K cd__law_same "_law_same" = true)
    (k__law_same : PySem.W.keepIn K (.ref f__law_same) = true)
    (a_is_packet : PySem.W.nsIn K mainGlobals "is_packet" = some (some (.ref f_is_packet)))
    (l_is_packet : K.lookup f_is_packet = some ⟨oc_is_packet, od_is_packet, .func (PySem.W.fnOf "is_packet" "is_packet" (defArgs s_is_packet) (defBody s_is_packet) (defScope s_is_packet) .none kV_is_packet dc_is_packet pm_is_packet an_is_packet cd_is_packet ct_is_packet), sl_is_packet⟩)
    (c_is_packet : PySem.W.codeIn K cd_is_packet "is_packet" = true)
    (k_is_packet : PySem.W.keepIn K (.ref f_is_packet) = true)
    (a_sees : PySem.W.nsIn K mainGlobals "sees" = some (some (.ref f_sees)))
    (l_sees : K.lookup f_sees = some ⟨oc_sees, od_sees, .func (PySem.W.fnOf "sees" "sees" (defArgs s_sees) (defBody s_sees) (defScope s_sees) .none kV_sees dc_sees pm_sees an_sees cd_sees ct_sees), sl_sees⟩)
    (c_sees : PySem.W.codeIn K cd_sees "sees" = true)
    (k_sees : PySem.W.keepIn K (.ref f_sees) = true)
    (a_packets_of : PySem.W.nsIn K mainGlobals "packets_of" = some (some (.ref f_packets_of)))
    (l_packets_of : K.lookup f_packets_of = some ⟨oc_packets_of, od_packets_of, .func (PySem.W.fnOf "packets_of" "packets_of" (defArgs s_packets_of) (defBody s_packets_of) (defScope s_packets_of) .none kV_packets_of dc_packets_of pm_packets_of an_packets_of cd_packets_of ct_packets_of), sl_packets_of⟩)
    (c_packets_of : PySem.W.codeIn K cd_packets_of "packets_of" = true)
    (k_packets_of : PySem.W.keepIn K (.ref f_packets_of) = true)
    (a__law_bad_look : PySem.W.nsIn K mainGlobals "_law_bad_look" = some (some (.ref f__law_bad_look)))
    (l__law_bad_look : K.lookup f__law_bad_look = some ⟨oc__law_bad_look, od__law_bad_look, .func (PySem.W.fnOf "_law_bad_look" "_law_bad_look" (defArgs s__law_bad_look) (defBody s__law_bad_look) (defScope s__law_bad_look) .none kV__law_bad_look dc__law_bad_look pm__law_bad_look an__law_bad_look cd__law_bad_look ct__law_bad_look), sl__law_bad_look⟩)
    (c__law_bad_look : PySem.W.codeIn K cd__law_bad_look "_law_bad_look" = true)
    (k__law_bad_look : PySem.W.keepIn K (.ref f__law_bad_look) = true)
    (a__law_sees : PySem.W.nsIn K mainGlobals "_law_sees" = some (some (.ref f__law_sees)))
    (l__law_sees : K.lookup f__law_sees = some ⟨oc__law_sees, od__law_sees, .func (PySem.W.fnOf "_law_sees" "_law_sees" (defArgs s__law_sees) (defBody s__law_sees) (defScope s__law_sees) .none kV__law_sees dc__law_sees pm__law_sees an__law_sees cd__law_sees ct__law_sees), sl__law_sees⟩)
    (c__law_sees : PySem.W.codeIn K cd__law_sees "_law_sees" = true)
    (k__law_sees : PySem.W.keepIn K (.ref f__law_sees) = true)
    (a_put : PySem.W.nsIn K mainGlobals "put" = some (some (.ref f_put)))
    (l_put : K.lookup f_put = some ⟨oc_put, od_put, .func (PySem.W.fnOf "put" "put" (defArgs s_put) (defBody s_put) (defScope s_put) .none kV_put dc_put pm_put an_put cd_put ct_put), sl_put⟩)
    (c_put : PySem.W.codeIn K cd_put "put" = true)
    (k_put : PySem.W.keepIn K (.ref f_put) = true)
    (a__law_put : PySem.W.nsIn K mainGlobals "_law_put" = some (some (.ref f__law_put)))
    (l__law_put : K.lookup f__law_put = some ⟨oc__law_put, od__law_put, .func (PySem.W.fnOf "_law_put" "_law_put" (defArgs s__law_put) (defBody s__law_put) (defScope s__law_put) .none kV__law_put dc__law_put pm__law_put an__law_put cd__law_put ct__law_put), sl__law_put⟩)
    (c__law_put : PySem.W.codeIn K cd__law_put "_law_put" = true)
    (k__law_put : PySem.W.keepIn K (.ref f__law_put) = true)
    (a_just : PySem.W.nsIn K mainGlobals "just" = some (some (.ref f_just)))
    (l_just : K.lookup f_just = some ⟨oc_just, od_just, .func (PySem.W.fnOf "just" "just" (defArgs s_just) (defBody s_just) (defScope s_just) .none kV_just dc_just pm_just an_just cd_just ct_just), sl_just⟩)
    (c_just : PySem.W.codeIn K cd_just "just" = true)
    (k_just : PySem.W.keepIn K (.ref f_just) = true)
    (a_law : PySem.W.nsIn K mainGlobals "law" = some (some (.ref f_law)))
    (l_law : K.lookup f_law = some ⟨oc_law, od_law, .func (PySem.W.fnOf "law" "law" (defArgs s_law) (defBody s_law) (defScope s_law) .none kV_law dc_law pm_law an_law cd_law ct_law), sl_law⟩)
    (c_law : PySem.W.codeIn K cd_law "law" = true)
    (k_law : PySem.W.keepIn K (.ref f_law) = true)
    (z_all : PySem.W.nsIn K mainGlobals "all" = some none)
    (z_bool : PySem.W.nsIn K mainGlobals "bool" = some none)
    (z_int : PySem.W.nsIn K mainGlobals "int" = some none)
    (z_isinstance : PySem.W.nsIn K mainGlobals "isinstance" = some none)
    (z_len : PySem.W.nsIn K mainGlobals "len" = some none)
    (z_list : PySem.W.nsIn K mainGlobals "list" = some none)
    (z_range : PySem.W.nsIn K mainGlobals "range" = some none)
    (z_sorted : PySem.W.nsIn K mainGlobals "sorted" = some none)
    (z_str : PySem.W.nsIn K mainGlobals "str" = some none)
    (z_tuple : PySem.W.nsIn K mainGlobals "tuple" = some none)
    (z_zip : PySem.W.nsIn K mainGlobals "zip" = some none)
    (g_LETTERS : PySem.W.nsIn K mainGlobals "LETTERS" = some (some (.str "abcdefghijklmnopqrstuvwxyz" gt_LETTERS)))
    (g_MOST_FIELDS : PySem.W.nsIn K mainGlobals "MOST_FIELDS" = some (some (.int 4 gt_MOST_FIELDS)))
    (g_MOST_PACKETS : PySem.W.nsIn K mainGlobals "MOST_PACKETS" = some (some (.int 64 gt_MOST_PACKETS)))
    (g_MOST_VALUES : PySem.W.nsIn K mainGlobals "MOST_VALUES" = some (some (.int 6 gt_MOST_VALUES)))
    (x_BadTest : PySem.W.nsIn K mainGlobals "BadTest" = some (some (.ref X_BadTest)))
    (xq_BadTest : PySem.W.excIn K X_BadTest [.type "ValueError", .type "Exception", .type "BaseException", .type "object"] "ValueError.__new__" = true)
    (xk_BadTest : PySem.W.keepIn K (.ref X_BadTest) = true)
    (xs_BadTest : PySem.W.subIn K (.ref X_BadTest) (.type "BaseException") = some true)
    (xt_BadTest : PySem.W.typeIn K (.ref X_BadTest) = some (.type "type"))
    (xm_BadTest : PySem.W.exmOne K (.ref X_BadTest) (.ref X_BadTest) = some true)
    (x1_BadTest : PySem.W.findIn K (.ref X_BadTest) "__getattribute__" = some (some (.builtin "BaseException.__getattribute__")))
    (x2_BadTest : PySem.W.findIn K (.ref X_BadTest) "__getattr__" = some none)
    (x3_BadTest : PySem.W.hasDictIn K X_BadTest = true)
    (x4_BadTest : PySem.W.findIn K (.ref X_BadTest) "__class__" = some (some (.builtin "object.__class__")))
    (x5_BadTest : PySem.W.specialIn K (.builtin "object.__class__") "__get__" = some (some (.builtin "getset_descriptor.__get__")))
    (x6_BadTest : PySem.W.takesIn K (.builtin "object.__class__") = some true)
    (x7_BadTest : PySem.W.mroIn K X_BadTest (.type "object") = some true)
    (x8_BadTest : PySem.W.kitOne K (.ref X_BadTest) (.type "ValueError") = some true)
    : ∃ fd : FuncData, (∀ (s : Shared) (v : Value), BindsTo s fd ⟨[v], []⟩ [("script", v)]) ∧ ∀ base : Heap, K.In base → base.Ns mainGlobals mg → FnG P w K mg base (L2.CX P w) 65 fa fd ["script"] (spLaw K) := by
  have e := hfa.symm.trans (PySem.W.mg_of X G a_law)
  obtain rfl : f_law = fa := by cases e; rfl
  refine ⟨PySem.W.fnOf "law" "law" (defArgs s_law) (defBody s_law) (defScope s_law) .none kV_law dc_law pm_law an_law cd_law ct_law, fun s v => .of_eq rfl, fun base _ _ => ?_⟩
  have T : Top K mg X_BadTest := ⟨PySem.W.mg_none_of X G z_all, PySem.W.mg_none_of X G z_bool, PySem.W.mg_none_of X G z_int, PySem.W.mg_none_of X G z_isinstance, PySem.W.mg_none_of X G z_len, PySem.W.mg_none_of X G z_list, PySem.W.mg_none_of X G z_range, PySem.W.mg_none_of X G z_sorted, PySem.W.mg_none_of X G z_str, PySem.W.mg_none_of X G z_tuple, PySem.W.mg_none_of X G z_zip, ⟨_, .str "abcdefghijklmnopqrstuvwxyz", PySem.W.mg_of X G g_LETTERS, ⟨_, rfl⟩, fun _ => .str _ (by decide +kernel)⟩, ⟨_, .int 4, PySem.W.mg_of X G g_MOST_FIELDS, ⟨_, rfl⟩, fun _ => .int _⟩, ⟨_, .int 64, PySem.W.mg_of X G g_MOST_PACKETS, ⟨_, rfl⟩, fun _ => .int _⟩, ⟨_, .int 6, PySem.W.mg_of X G g_MOST_VALUES, ⟨_, rfl⟩, fun _ => .int _⟩, ⟨xq_BadTest, PySem.W.mg_of X G x_BadTest, xk_BadTest, xs_BadTest, xt_BadTest, xm_BadTest, ⟨x1_BadTest, x2_BadTest, xs_BadTest, x3_BadTest, x4_BadTest, x5_BadTest, x6_BadTest, x7_BadTest⟩, x8_BadTest⟩, (cls_cons (clsF_all (PySem.W.mg_of X G ca_Fields) ⟨cg_Fields, cd_Fields, co_Fields, cs_Fields⟩ cn_Fields_names) cls_nil), (cls_cons (clsF_all (PySem.W.mg_of X G ca_Fields) ⟨cg_Fields, cd_Fields, co_Fields, cs_Fields⟩ cn_Fields_packets) cls_nil), (cls_cons (clsF_all (PySem.W.mg_of X G ca_Fields) ⟨cg_Fields, cd_Fields, co_Fields, cs_Fields⟩ cn_Fields_rows) cls_nil)⟩
  have FD__law_draws : FunD K "_law_draws" "_law_draws" (defArgs s__law_draws) (defBody s__law_draws) (defScope s__law_draws) [] [] f__law_draws _ := ⟨⟨_, _, _, _, _, _, _, _, _, _, rfl, l__law_draws, c__law_draws, .inl ⟨rfl, rfl⟩, .inl rfl⟩, k__law_draws⟩
  have B__law_draws : Binds K _ P__law_draws [] := .all (fd := PySem.W.fnOf "_law_draws" "_law_draws" (defArgs s__law_draws) (defBody s__law_draws) (defScope s__law_draws) .none kV__law_draws dc__law_draws pm__law_draws an__law_draws cd__law_draws ct__law_draws) fun us hl => match us, hl with | [_], _ => rfl
  have O__law_draws : FnG P w K mg base (L2.CX P w) 1 f__law_draws _ P__law_draws (SpO ⟨K, mg⟩ P__law_draws.length F__law_draws) := (show FnG P w K mg base (L2.CX P w) (0 + 1) f__law_draws _ P__law_draws _ from fnO FD__law_draws sc__law_draws fun cdv A outer s H E hr tk => b__law_draws T  f__law_draws cdv A outer s H E hr tk)
  have D__law_draws : DefOK P w K mg base "_law_draws" P__law_draws 1 F__law_draws := ⟨f__law_draws, _, PySem.W.mg_of X G a__law_draws, k__law_draws, B__law_draws, O__law_draws⟩
  have FD_all_rows : FunD K "all_rows" "all_rows" (defArgs s_all_rows) (defBody s_all_rows) (defScope s_all_rows) [] [] f_all_rows _ := ⟨⟨_, _, _, _, _, _, _, _, _, _, rfl, l_all_rows, c_all_rows, .inl ⟨rfl, rfl⟩, .inl rfl⟩, k_all_rows⟩
  have B_all_rows : Binds K _ P_all_rows [] := .all (fd := PySem.W.fnOf "all_rows" "all_rows" (defArgs s_all_rows) (defBody s_all_rows) (defScope s_all_rows) .none kV_all_rows dc_all_rows pm_all_rows an_all_rows cd_all_rows ct_all_rows) fun us hl => match us, hl with | [_], _ => rfl
  have O_all_rows : FnG P w K mg base (L2.CX P w) 1 f_all_rows _ P_all_rows (SpP ⟨K, mg⟩ P_all_rows.length F_all_rows) := (show FnG P w K mg base (L2.CX P w) (0 + 1) f_all_rows _ P_all_rows _ from fnP FD_all_rows sc_all_rows fun cdv A outer s H E hr tk => b_all_rows T  f_all_rows cdv A outer s H E hr tk)
  have D_all_rows : DefK P w K mg base "all_rows" P_all_rows [] 1 F_all_rows := ⟨f_all_rows, _, _, _, PySem.W.mg_of X G a_all_rows, k_all_rows, B_all_rows, .nil, fun _ =>  .nil, O_all_rows⟩
  have FD_is_name : FunD K "is_name" "is_name" (defArgs s_is_name) (defBody s_is_name) (defScope s_is_name) [] [] f_is_name _ := ⟨⟨_, _, _, _, _, _, _, _, _, _, rfl, l_is_name, c_is_name, .inl ⟨rfl, rfl⟩, .inl rfl⟩, k_is_name⟩
  have B_is_name : Binds K _ P_is_name [] := .all (fd := PySem.W.fnOf "is_name" "is_name" (defArgs s_is_name) (defBody s_is_name) (defScope s_is_name) .none kV_is_name dc_is_name pm_is_name an_is_name cd_is_name ct_is_name) fun us hl => match us, hl with | [_], _ => rfl
  have O_is_name : FnG P w K mg base (L2.CX P w) 1 f_is_name _ P_is_name (SpP ⟨K, mg⟩ P_is_name.length F_is_name) := (show FnG P w K mg base (L2.CX P w) (0 + 1) f_is_name _ P_is_name _ from fnP FD_is_name sc_is_name fun cdv A outer s H E hr tk => b_is_name T  f_is_name cdv A outer s H E hr tk)
  have D_is_name : DefK P w K mg base "is_name" P_is_name [] 1 F_is_name := ⟨f_is_name, _, _, _, PySem.W.mg_of X G a_is_name, k_is_name, B_is_name, .nil, fun _ =>  .nil, O_is_name⟩
  have FD_is_integer : FunD K "is_integer" "is_integer" (defArgs s_is_integer) (defBody s_is_integer) (defScope s_is_integer) [] [] f_is_integer _ := ⟨⟨_, _, _, _, _, _, _, _, _, _, rfl, l_is_integer, c_is_integer, .inl ⟨rfl, rfl⟩, .inl rfl⟩, k_is_integer⟩
  have B_is_integer : Binds K _ P_is_integer [] := .all (fd := PySem.W.fnOf "is_integer" "is_integer" (defArgs s_is_integer) (defBody s_is_integer) (defScope s_is_integer) .none kV_is_integer dc_is_integer pm_is_integer an_is_integer cd_is_integer ct_is_integer) fun us hl => match us, hl with | [_], _ => rfl
  have O_is_integer : FnG P w K mg base (L2.CX P w) 1 f_is_integer _ P_is_integer (SpP ⟨K, mg⟩ P_is_integer.length F_is_integer) := (show FnG P w K mg base (L2.CX P w) (0 + 1) f_is_integer _ P_is_integer _ from fnP FD_is_integer sc_is_integer fun cdv A outer s H E hr tk => b_is_integer T  f_is_integer cdv A outer s H E hr tk)
  have D_is_integer : DefK P w K mg base "is_integer" P_is_integer [] 1 F_is_integer := ⟨f_is_integer, _, _, _, PySem.W.mg_of X G a_is_integer, k_is_integer, B_is_integer, .nil, fun _ =>  .nil, O_is_integer⟩
  have FD_Fields____init__ : FunD K "__init__" "Fields.__init__" (defArgs s_Fields____init__) (defBody s_Fields____init__) (defScope s_Fields____init__) [] [] f_Fields____init__ _ := ⟨⟨_, _, _, _, _, _, _, _, _, _, rfl, l_Fields____init__, c_Fields____init__, .inl ⟨rfl, rfl⟩, .inl rfl⟩, k_Fields____init__⟩
  have B_Fields____init__ : Binds K _ P_Fields____init__ [] := .all (fd := PySem.W.fnOf "__init__" "Fields.__init__" (defArgs s_Fields____init__) (defBody s_Fields____init__) (defScope s_Fields____init__) .none kV_Fields____init__ dc_Fields____init__ pm_Fields____init__ an_Fields____init__ cd_Fields____init__ ct_Fields____init__) fun us hl => match us, hl with | [_, _], _ => rfl
  have O_Fields____init__ : FnG P w K mg base (L2.CX P w) 2 f_Fields____init__ _ P_Fields____init__ (SpI ⟨K, mg⟩ "Fields" P_Fields____init__.length F_Fields____init__) := (show FnG P w K mg base (L2.CX P w) (1 + 1) f_Fields____init__ _ P_Fields____init__ _ from fnI FD_Fields____init__ sc_Fields____init__ fun cdv A outer s H E hr tk => b_Fields____init__ T (defK_mono D_all_rows (by omega)) (defK_mono D_is_name (by omega)) (defK_mono D_is_integer (by omega)) f_Fields____init__ cdv A outer s H E hr tk)
  have D_Fields____init__ : DefIK P w K mg base "Fields" P_Fields____init__ 3 F_Fields____init__ := ⟨2, Nat.le_refl _, X_Fields, f_Fields____init__, _, PySem.W.mg_of X G ca_Fields, ⟨cm_Fields, a_Fields____init__, ai_Fields____init__, ck_Fields⟩, B_Fields____init__, O_Fields____init__⟩
  have FD__law_draw : FunD K "_law_draw" "_law_draw" (defArgs s__law_draw) (defBody s__law_draw) (defScope s__law_draw) [] [] f__law_draw _ := ⟨⟨_, _, _, _, _, _, _, _, _, _, rfl, l__law_draw, c__law_draw, .inl ⟨rfl, rfl⟩, .inl rfl⟩, k__law_draw⟩
  have B__law_draw : Binds K _ P__law_draw [] := .all (fd := PySem.W.fnOf "_law_draw" "_law_draw" (defArgs s__law_draw) (defBody s__law_draw) (defScope s__law_draw) .none kV__law_draw dc__law_draw pm__law_draw an__law_draw cd__law_draw ct__law_draw) fun us hl => match us, hl with | [_, _], _ => rfl
  have O__law_draw : FnG P w K mg base (L2.CX P w) 1 f__law_draw _ P__law_draw (SpM ⟨K, mg⟩ P__law_draw.length F__law_draw) := (show FnG P w K mg base (L2.CX P w) (0 + 1) f__law_draw _ P__law_draw _ from fnM FD__law_draw sc__law_draw fun cdv A outer s H E hr tk => b__law_draw T  f__law_draw cdv A outer s H E hr tk)
  have D__law_draw : DefMK P w K mg base "_law_draw" P__law_draw 1 F__law_draw := ⟨f__law_draw, _, PySem.W.mg_of X G a__law_draw, k__law_draw, B__law_draw, O__law_draw⟩
  have FD__law_fields : FunD K "_law_fields" "_law_fields" (defArgs s__law_fields) (defBody s__law_fields) (defScope s__law_fields) [] [] f__law_fields _ := ⟨⟨_, _, _, _, _, _, _, _, _, _, rfl, l__law_fields, c__law_fields, .inl ⟨rfl, rfl⟩, .inl rfl⟩, k__law_fields⟩
  have B__law_fields : Binds K _ P__law_fields [] := .all (fd := PySem.W.fnOf "_law_fields" "_law_fields" (defArgs s__law_fields) (defBody s__law_fields) (defScope s__law_fields) .none kV__law_fields dc__law_fields pm__law_fields an__law_fields cd__law_fields ct__law_fields) fun us hl => match us, hl with | [_], _ => rfl
  have O__law_fields : FnG P w K mg base (L2.CX P w) 2 f__law_fields _ P__law_fields (SpM ⟨K, mg⟩ P__law_fields.length F__law_fields) := (show FnG P w K mg base (L2.CX P w) (1 + 1) f__law_fields _ P__law_fields _ from fnM FD__law_fields sc__law_fields fun cdv A outer s H E hr tk => b__law_fields T (defMK_mono D__law_draw (by omega)) f__law_fields cdv A outer s H E hr tk)
  have D__law_fields : DefMK P w K mg base "_law_fields" P__law_fields 2 F__law_fields := ⟨f__law_fields, _, PySem.W.mg_of X G a__law_fields, k__law_fields, B__law_fields, O__law_fields⟩
  have FD__law_rows : FunD K "_law_rows" "_law_rows" (defArgs s__law_rows) (defBody s__law_rows) (defScope s__law_rows) [] [] f__law_rows _ := ⟨⟨_, _, _, _, _, _, _, _, _, _, rfl, l__law_rows, c__law_rows, .inl ⟨rfl, rfl⟩, .inl rfl⟩, k__law_rows⟩
  have B__law_rows : Binds K _ P__law_rows [] := .all (fd := PySem.W.fnOf "_law_rows" "_law_rows" (defArgs s__law_rows) (defBody s__law_rows) (defScope s__law_rows) .none kV__law_rows dc__law_rows pm__law_rows an__law_rows cd__law_rows ct__law_rows) fun us hl => match us, hl with | [_], _ => rfl
  have O__law_rows : FnG P w K mg base (L2.CX P w) 1 f__law_rows _ P__law_rows (SpP ⟨K, mg⟩ P__law_rows.length F__law_rows) := (show FnG P w K mg base (L2.CX P w) (0 + 1) f__law_rows _ P__law_rows _ from fnP FD__law_rows sc__law_rows fun cdv A outer s H E hr tk => b__law_rows T  f__law_rows cdv A outer s H E hr tk)
  have D__law_rows : DefK P w K mg base "_law_rows" P__law_rows [] 1 F__law_rows := ⟨f__law_rows, _, _, _, PySem.W.mg_of X G a__law_rows, k__law_rows, B__law_rows, .nil, fun _ =>  .nil, O__law_rows⟩
  have FD__law_look : FunD K "_law_look" "_law_look" (defArgs s__law_look) (defBody s__law_look) (defScope s__law_look) [] [] f__law_look _ := ⟨⟨_, _, _, _, _, _, _, _, _, _, rfl, l__law_look, c__law_look, .inl ⟨rfl, rfl⟩, .inl rfl⟩, k__law_look⟩
  have B__law_look : Binds K _ P__law_look [] := .all (fd := PySem.W.fnOf "_law_look" "_law_look" (defArgs s__law_look) (defBody s__law_look) (defScope s__law_look) .none kV__law_look dc__law_look pm__law_look an__law_look cd__law_look ct__law_look) fun us hl => match us, hl with | [_, _, _], _ => rfl
  have O__law_look : ∀ m : Nat, FnG P w K mg base (L2.CX P w) (1 + m) f__law_look _ P__law_look (SpM ⟨K, mg⟩ P__law_look.length (F__law_look m)) := fun m => by
    induction m with
    | zero => exact fn_noneM
    | succ m ih => exact fnM FD__law_look sc__law_look fun cdv A outer s H E hr tk => b__law_look T (defMK_mono D__law_draw (by omega)) ⟨f__law_look, _, PySem.W.mg_of X G a__law_look, k__law_look, B__law_look, ih⟩ f__law_look cdv A outer s H E hr tk
  have D__law_look : DefMK P w K mg base "_law_look" P__law_look 61 (F__law_look 60) := ⟨f__law_look, _, PySem.W.mg_of X G a__law_look, k__law_look, B__law_look, O__law_look 60⟩
  have FD_Fields__place : FunD K "place" "Fields.place" (defArgs s_Fields__place) (defBody s_Fields__place) (defScope s_Fields__place) [] [] f_Fields__place _ := ⟨⟨_, _, _, _, _, _, _, _, _, _, rfl, l_Fields__place, c_Fields__place, .inl ⟨rfl, rfl⟩, .inl rfl⟩, k_Fields__place⟩
  have B_Fields__place : Binds K _ P_Fields__place [] := .all (fd := PySem.W.fnOf "place" "Fields.place" (defArgs s_Fields__place) (defBody s_Fields__place) (defScope s_Fields__place) .none kV_Fields__place dc_Fields__place pm_Fields__place an_Fields__place cd_Fields__place ct_Fields__place) fun us hl => match us, hl with | [_, _], _ => rfl
  have O_Fields__place : FnG P w K mg base (L2.CX P w) 1 f_Fields__place _ P_Fields__place (SpP ⟨K, mg⟩ P_Fields__place.length F_Fields__place) := (show FnG P w K mg base (L2.CX P w) (0 + 1) f_Fields__place _ P_Fields__place _ from fnP FD_Fields__place sc_Fields__place fun cdv A outer s H E hr tk => b_Fields__place T  f_Fields__place cdv A outer s H E hr tk)
  have D_Fields__place : DefTK P w K mg base "Fields" "place" P_Fields__place 1 F_Fields__place := ⟨X_Fields, f_Fields__place, _, PySem.W.mg_of X G ca_Fields, ⟨cg_Fields, cd_Fields, co_Fields, cs_Fields⟩, ⟨a_Fields__place, ai_Fields__place, k_Fields__place⟩, B_Fields__place, O_Fields__place⟩
  have FD_is_value : FunD K "is_value" "is_value" (defArgs s_is_value) (defBody s_is_value) (defScope s_is_value) [] [] f_is_value _ := ⟨⟨_, _, _, _, _, _, _, _, _, _, rfl, l_is_value, c_is_value, .inl ⟨rfl, rfl⟩, .inl rfl⟩, k_is_value⟩
  have B_is_value : Binds K _ P_is_value [] := .all (fd := PySem.W.fnOf "is_value" "is_value" (defArgs s_is_value) (defBody s_is_value) (defScope s_is_value) .none kV_is_value dc_is_value pm_is_value an_is_value cd_is_value ct_is_value) fun us hl => match us, hl with | [_, _, _], _ => rfl
  have O_is_value : FnG P w K mg base (L2.CX P w) 2 f_is_value _ P_is_value (SpP ⟨K, mg⟩ P_is_value.length F_is_value) := (show FnG P w K mg base (L2.CX P w) (1 + 1) f_is_value _ P_is_value _ from fnP FD_is_value sc_is_value fun cdv A outer s H E hr tk => b_is_value T (defK_mono D_is_name (by omega)) (defK_mono D_is_integer (by omega)) (defTK_mono D_Fields__place (by omega)) f_is_value cdv A outer s H E hr tk)
  have D_is_value : DefK P w K mg base "is_value" P_is_value [] 2 F_is_value := ⟨f_is_value, _, _, _, PySem.W.mg_of X G a_is_value, k_is_value, B_is_value, .nil, fun _ =>  .nil, O_is_value⟩
  have FD_is_look : FunD K "is_look" "is_look" (defArgs s_is_look) (defBody s_is_look) (defScope s_is_look) [.int 40] [] f_is_look _ := ⟨⟨_, _, _, _, _, _, _, _, _, _, rfl, l_is_look, c_is_look, .inr ⟨by simp, T_is_look, _, [.int 40 tk_is_look_0], tn_is_look, rfl, t_is_look, rfl, (.cons ⟨_, rfl⟩ .nil)⟩, .inl rfl⟩, k_is_look⟩
  obtain ⟨ds_is_look_0, dr_is_look_0, B_is_look_0⟩ := FD_is_look.binds1 (ps := P_is_look) 3 1 (by simp) rfl fun _ _ _ _ _ _ _ us its h1 h2 => match us, its, h1, h2 with | [_, _, _], [_], _, _ => ⟨_, rfl, rfl⟩
  obtain ⟨ds_is_look_1, dr_is_look_1, B_is_look_1⟩ := FD_is_look.binds1 (ps := P_is_look) 2 0 (by simp) rfl fun _ _ _ _ _ _ _ us its h1 h2 => match us, its, h1, h2 with | [_, _], [_], _, _ => ⟨_, rfl, rfl⟩
  have O_is_look : ∀ m : Nat, FnG P w K mg base (L2.CX P w) (2 + m) f_is_look _ P_is_look (SpP ⟨K, mg⟩ P_is_look.length (F_is_look m)) := fun m => by
    induction m with
    | zero => exact fn_none
    | succ m ih => exact fnP FD_is_look sc_is_look fun cdv A outer s H E hr tk => b_is_look T (defK_mono D_is_value (by omega)) ⟨f_is_look, _, _, _, PySem.W.mg_of X G a_is_look, k_is_look, B_is_look_0, dr_is_look_0, (fun _ => .nil), ih⟩ f_is_look cdv A outer s H E hr tk
  have D_is_look_0 : DefK P w K mg base "is_look" P_is_look [] 62 (F_is_look 60) := ⟨f_is_look, _, _, _, PySem.W.mg_of X G a_is_look, k_is_look, B_is_look_0, dr_is_look_0, fun _ =>  .nil, O_is_look 60⟩
  have D_is_look_1 : DefK P w K mg base "is_look" P_is_look [.int 40] 62 (F_is_look 60) := ⟨f_is_look, _, _, _, PySem.W.mg_of X G a_is_look, k_is_look, B_is_look_1, dr_is_look_1, fun _ => (.cons (.int _) .nil), O_is_look 60⟩
  have FD__law_bad_fields : FunD K "_law_bad_fields" "_law_bad_fields" (defArgs s__law_bad_fields) (defBody s__law_bad_fields) (defScope s__law_bad_fields) [] [] f__law_bad_fields _ := ⟨⟨_, _, _, _, _, _, _, _, _, _, rfl, l__law_bad_fields, c__law_bad_fields, .inl ⟨rfl, rfl⟩, .inl rfl⟩, k__law_bad_fields⟩
  have B__law_bad_fields : Binds K _ P__law_bad_fields [] := .all (fd := PySem.W.fnOf "_law_bad_fields" "_law_bad_fields" (defArgs s__law_bad_fields) (defBody s__law_bad_fields) (defScope s__law_bad_fields) .none kV__law_bad_fields dc__law_bad_fields pm__law_bad_fields an__law_bad_fields cd__law_bad_fields ct__law_bad_fields) fun us hl => match us, hl with | [_], _ => rfl
  have O__law_bad_fields : FnG P w K mg base (L2.CX P w) 4 f__law_bad_fields _ P__law_bad_fields (SpP ⟨K, mg⟩ P__law_bad_fields.length F__law_bad_fields) := (show FnG P w K mg base (L2.CX P w) (3 + 1) f__law_bad_fields _ P__law_bad_fields _ from fnP FD__law_bad_fields sc__law_bad_fields fun cdv A outer s H E hr tk => b__law_bad_fields T (defIK_mono D_Fields____init__ (by omega)) f__law_bad_fields cdv A outer s H E hr tk)
  have D__law_bad_fields : DefK P w K mg base "_law_bad_fields" P__law_bad_fields [] 4 F__law_bad_fields := ⟨f__law_bad_fields, _, _, _, PySem.W.mg_of X G a__law_bad_fields, k__law_bad_fields, B__law_bad_fields, .nil, fun _ =>  .nil, O__law_bad_fields⟩
  have FD__law_same : FunD K "_law_same" "_law_same" (defArgs s__law_same) (defBody s__law_same) (defScope s__law_same) [] [] f__law_same _ := ⟨⟨_, _, _, _, _, _, _, _, _, _, rfl, l__law_same, c__law_same, .inl ⟨rfl, rfl⟩, .inl rfl⟩, k__law_same⟩
  have B__law_same : Binds K _ P__law_same [] := .all (fd := PySem.W.fnOf "_law_same" "_law_same" (defArgs s__law_same) (defBody s__law_same) (defScope s__law_same) .none kV__law_same dc__law_same pm__law_same an__law_same cd__law_same ct__law_same) fun us hl => match us, hl with | [_, _], _ => rfl
  have O__law_same : ∀ m : Nat, FnG P w K mg base (L2.CX P w) (0 + m) f__law_same _ P__law_same (SpP ⟨K, mg⟩ P__law_same.length (F__law_same m)) := fun m => by
    induction m with
    | zero => exact fn_none
    | succ m ih => exact fnP FD__law_same sc__law_same fun cdv A outer s H E hr tk => b__law_same T ⟨f__law_same, _, _, _, PySem.W.mg_of X G a__law_same, k__law_same, B__law_same, .nil, (fun _ => .nil), ih⟩ f__law_same cdv A outer s H E hr tk
  have D__law_same : DefK P w K mg base "_law_same" P__law_same [] 60 (F__law_same 60) := ⟨f__law_same, _, _, _, PySem.W.mg_of X G a__law_same, k__law_same, B__law_same, .nil, fun _ =>  .nil, O__law_same 60⟩
  have FD_is_packet : FunD K "is_packet" "is_packet" (defArgs s_is_packet) (defBody s_is_packet) (defScope s_is_packet) [] [] f_is_packet _ := ⟨⟨_, _, _, _, _, _, _, _, _, _, rfl, l_is_packet, c_is_packet, .inl ⟨rfl, rfl⟩, .inl rfl⟩, k_is_packet⟩
  have B_is_packet : Binds K _ P_is_packet [] := .all (fd := PySem.W.fnOf "is_packet" "is_packet" (defArgs s_is_packet) (defBody s_is_packet) (defScope s_is_packet) .none kV_is_packet dc_is_packet pm_is_packet an_is_packet cd_is_packet ct_is_packet) fun us hl => match us, hl with | [_, _], _ => rfl
  have O_is_packet : FnG P w K mg base (L2.CX P w) 2 f_is_packet _ P_is_packet (SpP ⟨K, mg⟩ P_is_packet.length F_is_packet) := (show FnG P w K mg base (L2.CX P w) (1 + 1) f_is_packet _ P_is_packet _ from fnP FD_is_packet sc_is_packet fun cdv A outer s H E hr tk => b_is_packet T (defK_mono D_is_integer (by omega)) f_is_packet cdv A outer s H E hr tk)
  have D_is_packet : DefK P w K mg base "is_packet" P_is_packet [] 2 F_is_packet := ⟨f_is_packet, _, _, _, PySem.W.mg_of X G a_is_packet, k_is_packet, B_is_packet, .nil, fun _ =>  .nil, O_is_packet⟩
  have FD_sees : FunD K "sees" "sees" (defArgs s_sees) (defBody s_sees) (defScope s_sees) [] [] f_sees _ := ⟨⟨_, _, _, _, _, _, _, _, _, _, rfl, l_sees, c_sees, .inl ⟨rfl, rfl⟩, .inl rfl⟩, k_sees⟩
  have B_sees : Binds K _ P_sees [] := .all (fd := PySem.W.fnOf "sees" "sees" (defArgs s_sees) (defBody s_sees) (defScope s_sees) .none kV_sees dc_sees pm_sees an_sees cd_sees ct_sees) fun us hl => match us, hl with | [_, _, _], _ => rfl
  have O_sees : ∀ m : Nat, FnG P w K mg base (L2.CX P w) (1 + m) f_sees _ P_sees (SpP ⟨K, mg⟩ P_sees.length (F_sees m)) := fun m => by
    induction m with
    | zero => exact fn_none
    | succ m ih => exact fnP FD_sees sc_sees fun cdv A outer s H E hr tk => b_sees T ⟨f_sees, _, _, _, PySem.W.mg_of X G a_sees, k_sees, B_sees, .nil, (fun _ => .nil), ih⟩ (defTK_mono D_Fields__place (by omega)) f_sees cdv A outer s H E hr tk
  have D_sees : DefK P w K mg base "sees" P_sees [] 61 (F_sees 60) := ⟨f_sees, _, _, _, PySem.W.mg_of X G a_sees, k_sees, B_sees, .nil, fun _ =>  .nil, O_sees 60⟩
  have FD_packets_of : FunD K "packets_of" "packets_of" (defArgs s_packets_of) (defBody s_packets_of) (defScope s_packets_of) [] [] f_packets_of _ := ⟨⟨_, _, _, _, _, _, _, _, _, _, rfl, l_packets_of, c_packets_of, .inl ⟨rfl, rfl⟩, .inl rfl⟩, k_packets_of⟩
  have B_packets_of : Binds K _ P_packets_of [] := .all (fd := PySem.W.fnOf "packets_of" "packets_of" (defArgs s_packets_of) (defBody s_packets_of) (defScope s_packets_of) .none kV_packets_of dc_packets_of pm_packets_of an_packets_of cd_packets_of ct_packets_of) fun us hl => match us, hl with | [_, _], _ => rfl
  have O_packets_of : FnG P w K mg base (L2.CX P w) 63 f_packets_of _ P_packets_of (SpP ⟨K, mg⟩ P_packets_of.length F_packets_of) := (show FnG P w K mg base (L2.CX P w) (62 + 1) f_packets_of _ P_packets_of _ from fnP FD_packets_of sc_packets_of fun cdv A outer s H E hr tk => b_packets_of T (defK_mono D_is_look_1 (by omega)) (defK_mono D_sees (by omega)) f_packets_of cdv A outer s H E hr tk)
  have D_packets_of : DefK P w K mg base "packets_of" P_packets_of [] 63 F_packets_of := ⟨f_packets_of, _, _, _, PySem.W.mg_of X G a_packets_of, k_packets_of, B_packets_of, .nil, fun _ =>  .nil, O_packets_of⟩
  have FD__law_bad_look : FunD K "_law_bad_look" "_law_bad_look" (defArgs s__law_bad_look) (defBody s__law_bad_look) (defScope s__law_bad_look) [] [] f__law_bad_look _ := ⟨⟨_, _, _, _, _, _, _, _, _, _, rfl, l__law_bad_look, c__law_bad_look, .inl ⟨rfl, rfl⟩, .inl rfl⟩, k__law_bad_look⟩
  have B__law_bad_look : Binds K _ P__law_bad_look [] := .all (fd := PySem.W.fnOf "_law_bad_look" "_law_bad_look" (defArgs s__law_bad_look) (defBody s__law_bad_look) (defScope s__law_bad_look) .none kV__law_bad_look dc__law_bad_look pm__law_bad_look an__law_bad_look cd__law_bad_look ct__law_bad_look) fun us hl => match us, hl with | [_, _], _ => rfl
  have O__law_bad_look : FnG P w K mg base (L2.CX P w) 64 f__law_bad_look _ P__law_bad_look (SpP ⟨K, mg⟩ P__law_bad_look.length F__law_bad_look) := (show FnG P w K mg base (L2.CX P w) (63 + 1) f__law_bad_look _ P__law_bad_look _ from fnP FD__law_bad_look sc__law_bad_look fun cdv A outer s H E hr tk => b__law_bad_look T (defK_mono D_packets_of (by omega)) f__law_bad_look cdv A outer s H E hr tk)
  have D__law_bad_look : DefK P w K mg base "_law_bad_look" P__law_bad_look [] 64 F__law_bad_look := ⟨f__law_bad_look, _, _, _, PySem.W.mg_of X G a__law_bad_look, k__law_bad_look, B__law_bad_look, .nil, fun _ =>  .nil, O__law_bad_look⟩
  have FD__law_sees : FunD K "_law_sees" "_law_sees" (defArgs s__law_sees) (defBody s__law_sees) (defScope s__law_sees) [] [] f__law_sees _ := ⟨⟨_, _, _, _, _, _, _, _, _, _, rfl, l__law_sees, c__law_sees, .inl ⟨rfl, rfl⟩, .inl rfl⟩, k__law_sees⟩
  have B__law_sees : Binds K _ P__law_sees [] := .all (fd := PySem.W.fnOf "_law_sees" "_law_sees" (defArgs s__law_sees) (defBody s__law_sees) (defScope s__law_sees) .none kV__law_sees dc__law_sees pm__law_sees an__law_sees cd__law_sees ct__law_sees) fun us hl => match us, hl with | [_, _, _], _ => rfl
  have O__law_sees : ∀ m : Nat, FnG P w K mg base (L2.CX P w) (0 + m) f__law_sees _ P__law_sees (SpP ⟨K, mg⟩ P__law_sees.length (F__law_sees m)) := fun m => by
    induction m with
    | zero => exact fn_none
    | succ m ih => exact fnP FD__law_sees sc__law_sees fun cdv A outer s H E hr tk => b__law_sees T ⟨f__law_sees, _, _, _, PySem.W.mg_of X G a__law_sees, k__law_sees, B__law_sees, .nil, (fun _ => .nil), ih⟩ f__law_sees cdv A outer s H E hr tk
  have D__law_sees : DefK P w K mg base "_law_sees" P__law_sees [] 60 (F__law_sees 60) := ⟨f__law_sees, _, _, _, PySem.W.mg_of X G a__law_sees, k__law_sees, B__law_sees, .nil, fun _ =>  .nil, O__law_sees 60⟩
  have FD_put : FunD K "put" "put" (defArgs s_put) (defBody s_put) (defScope s_put) [] [] f_put _ := ⟨⟨_, _, _, _, _, _, _, _, _, _, rfl, l_put, c_put, .inl ⟨rfl, rfl⟩, .inl rfl⟩, k_put⟩
  have B_put : Binds K _ P_put [] := .all (fd := PySem.W.fnOf "put" "put" (defArgs s_put) (defBody s_put) (defScope s_put) .none kV_put dc_put pm_put an_put cd_put ct_put) fun us hl => match us, hl with | [_, _, _, _], _ => rfl
  have O_put : FnG P w K mg base (L2.CX P w) 2 f_put _ P_put (SpP ⟨K, mg⟩ P_put.length F_put) := (show FnG P w K mg base (L2.CX P w) (1 + 1) f_put _ P_put _ from fnP FD_put sc_put fun cdv A outer s H E hr tk => b_put T (defTK_mono D_Fields__place (by omega)) f_put cdv A outer s H E hr tk)
  have D_put : DefK P w K mg base "put" P_put [] 2 F_put := ⟨f_put, _, _, _, PySem.W.mg_of X G a_put, k_put, B_put, .nil, fun _ =>  .nil, O_put⟩
  have FD__law_put : FunD K "_law_put" "_law_put" (defArgs s__law_put) (defBody s__law_put) (defScope s__law_put) [] [] f__law_put _ := ⟨⟨_, _, _, _, _, _, _, _, _, _, rfl, l__law_put, c__law_put, .inl ⟨rfl, rfl⟩, .inl rfl⟩, k__law_put⟩
  have B__law_put : Binds K _ P__law_put [] := .all (fd := PySem.W.fnOf "_law_put" "_law_put" (defArgs s__law_put) (defBody s__law_put) (defScope s__law_put) .none kV__law_put dc__law_put pm__law_put an__law_put cd__law_put ct__law_put) fun us hl => match us, hl with | [_, _, _, _], _ => rfl
  have O__law_put : FnG P w K mg base (L2.CX P w) 1 f__law_put _ P__law_put (SpP ⟨K, mg⟩ P__law_put.length F__law_put) := (show FnG P w K mg base (L2.CX P w) (0 + 1) f__law_put _ P__law_put _ from fnP FD__law_put sc__law_put fun cdv A outer s H E hr tk => b__law_put T  f__law_put cdv A outer s H E hr tk)
  have D__law_put : DefK P w K mg base "_law_put" P__law_put [] 1 F__law_put := ⟨f__law_put, _, _, _, PySem.W.mg_of X G a__law_put, k__law_put, B__law_put, .nil, fun _ =>  .nil, O__law_put⟩
  have FD_just : FunD K "just" "just" (defArgs s_just) (defBody s_just) (defScope s_just) [] [] f_just _ := ⟨⟨_, _, _, _, _, _, _, _, _, _, rfl, l_just, c_just, .inl ⟨rfl, rfl⟩, .inl rfl⟩, k_just⟩
  have B_just : Binds K _ P_just [] := .all (fd := PySem.W.fnOf "just" "just" (defArgs s_just) (defBody s_just) (defScope s_just) .none kV_just dc_just pm_just an_just cd_just ct_just) fun us hl => match us, hl with | [_, _], _ => rfl
  have O_just : FnG P w K mg base (L2.CX P w) 1 f_just _ P_just (SpP ⟨K, mg⟩ P_just.length F_just) := (show FnG P w K mg base (L2.CX P w) (0 + 1) f_just _ P_just _ from fnP FD_just sc_just fun cdv A outer s H E hr tk => b_just T  f_just cdv A outer s H E hr tk)
  have D_just : DefK P w K mg base "just" P_just [] 1 F_just := ⟨f_just, _, _, _, PySem.W.mg_of X G a_just, k_just, B_just, .nil, fun _ =>  .nil, O_just⟩
  have FD_law : FunD K "law" "law" (defArgs s_law) (defBody s_law) (defScope s_law) [] [] f_law _ := ⟨⟨_, _, _, _, _, _, _, _, _, _, rfl, l_law, c_law, .inl ⟨rfl, rfl⟩, .inl rfl⟩, k_law⟩
  have B_law : Binds K _ P_law [] := .all (fd := PySem.W.fnOf "law" "law" (defArgs s_law) (defBody s_law) (defScope s_law) .none kV_law dc_law pm_law an_law cd_law ct_law) fun us hl => match us, hl with | [_], _ => rfl
  have O_law : FnG P w K mg base (L2.CX P w) 65 f_law _ P_law (SpP ⟨K, mg⟩ P_law.length F_law) := (show FnG P w K mg base (L2.CX P w) (64 + 1) f_law _ P_law _ from fnP FD_law sc_law fun cdv A outer s H E hr tk => b_law T (defOK_mono D__law_draws (by omega)) (defIK_mono D_Fields____init__ (by omega)) (defMK_mono D__law_fields (by omega)) (defK_mono D__law_rows (by omega)) (defMK_mono D__law_look (by omega)) (defMK_mono D__law_draw (by omega)) (defK_mono D_is_look_1 (by omega)) (defK_mono D__law_bad_fields (by omega)) (defK_mono D__law_same (by omega)) (defK_mono D_is_packet (by omega)) (defK_mono D_is_value (by omega)) (defK_mono D__law_bad_look (by omega)) (defK_mono D_all_rows (by omega)) (defK_mono D__law_sees (by omega)) (defK_mono D_packets_of (by omega)) (defK_mono D_sees (by omega)) (defK_mono D_put (by omega)) (defK_mono D__law_put (by omega)) (defK_mono D_just (by omega)) (defTK_mono D_Fields__place (by omega)) f_law cdv A outer s H E hr tk)
  exact O_law.imp fun vs H Q E h => law_imp tr vs H Q E h
theorem truth : Truth := truthP
end Lk01

open PySem PySem.W PyProof.Rows in
set_option maxRecDepth 100000 in
set_option maxHeartbeats 0 in
theorem PySem.Challenge.cw_guardedways_k73_packets_and_looks_holds : PySem.Challenge.rw_guardedways_k73_packets_and_looks.Holds := by
  w_on; o_law; k_head; (case hw => w_witness2)
  k_fill
  refine Pu.walkP (l := PySem.Challenge.rw_guardedways_k73_packets_and_looks) (k := 65) rfl rfl ⟨⟨rfl, by decide, by decide⟩, rfl⟩ (fun w h Y => PySem.W.kIn_of Y) ?F
  case F =>
    intro w mg fa h KX G hmg
    refine' Lk01.all_mk Lk01.truth KX G hmg ?ca_Fields ?cg_Fields ?cd_Fields ?co_Fields ?cs_Fields ?cn_Fields_names ?cn_Fields_packets ?cn_Fields_rows ?cm_Fields ?ck_Fields ?a__law_draws ?l__law_draws ?c__law_draws ?k__law_draws ?a_all_rows ?l_all_rows ?c_all_rows ?k_all_rows ?a_is_name ?l_is_name ?c_is_name ?k_is_name ?a_is_integer ?l_is_integer ?c_is_integer ?k_is_integer ?a_Fields____init__ ?ai_Fields____init__ ?l_Fields____init__ ?c_Fields____init__ ?k_Fields____init__ ?a__law_draw ?l__law_draw ?c__law_draw ?k__law_draw ?a__law_fields ?l__law_fields ?c__law_fields ?k__law_fields ?a__law_rows ?l__law_rows ?c__law_rows ?k__law_rows ?a__law_look ?l__law_look ?c__law_look ?k__law_look ?a_Fields__place ?ai_Fields__place ?l_Fields__place ?c_Fields__place ?k_Fields__place ?a_is_value ?l_is_value ?c_is_value ?k_is_value ?a_is_look ?l_is_look ?c_is_look ?k_is_look ?t_is_look ?a__law_bad_fields ?l__law_bad_fields ?c__law_bad_fields ?k__law_bad_fields ?a__law_same ?l__law_same ?c__law_same ?k__law_same ?a_is_packet ?l_is_packet ?c_is_packet ?k_is_packet ?a_sees ?l_sees ?c_sees ?k_sees ?a_packets_of ?l_packets_of ?c_packets_of ?k_packets_of ?a__law_bad_look ?l__law_bad_look ?c__law_bad_look ?k__law_bad_look ?a__law_sees ?l__law_sees ?c__law_sees ?k__law_sees ?a_put ?l_put ?c_put ?k_put ?a__law_put ?l__law_put ?c__law_put ?k__law_put ?a_just ?l_just ?c_just ?k_just ?a_law ?l_law ?c_law ?k_law ?z_all ?z_bool ?z_int ?z_isinstance ?z_len ?z_list ?z_range ?z_sorted ?z_str ?z_tuple ?z_zip ?g_LETTERS ?g_MOST_FIELDS ?g_MOST_PACKETS ?g_MOST_VALUES ?x_BadTest ?xq_BadTest ?xk_BadTest ?xs_BadTest ?xt_BadTest ?xm_BadTest ?x1_BadTest ?x2_BadTest ?x3_BadTest ?x4_BadTest ?x5_BadTest ?x6_BadTest ?x7_BadTest ?x8_BadTest
    (case ca_Fields => first | k_is | kernel_rfl)
    (case cg_Fields => first | k_is | kernel_rfl)
    (case cd_Fields => first | k_is | kernel_rfl)
    (case co_Fields => first | k_is | kernel_rfl)
    (case cs_Fields => first | k_is | kernel_rfl)
    (case cn_Fields_names => first | k_is | kernel_rfl)
    (case cn_Fields_packets => first | k_is | kernel_rfl)
    (case cn_Fields_rows => first | k_is | kernel_rfl)
    (case cm_Fields => first | k_is | kernel_rfl)
    (case ck_Fields => first | k_is | kernel_rfl)
    (case a__law_draws => k_is)
    (case l__law_draws => k_is)
    (case c__law_draws => k_is)
    (case k__law_draws => k_is)
    (case a_all_rows => k_is)
    (case l_all_rows => k_is)
    (case c_all_rows => k_is)
    (case k_all_rows => k_is)
    (case a_is_name => k_is)
    (case l_is_name => k_is)
    (case c_is_name => k_is)
    (case k_is_name => k_is)
    (case a_is_integer => k_is)
    (case l_is_integer => k_is)
    (case c_is_integer => k_is)
    (case k_is_integer => k_is)
    (case a_Fields____init__ => k_is)
    (case ai_Fields____init__ => first | k_is | kernel_rfl)
    (case l_Fields____init__ => k_is)
    (case c_Fields____init__ => k_is)
    (case k_Fields____init__ => k_is)
    (case a__law_draw => k_is)
    (case l__law_draw => k_is)
    (case c__law_draw => k_is)
    (case k__law_draw => k_is)
    (case a__law_fields => k_is)
    (case l__law_fields => k_is)
    (case c__law_fields => k_is)
    (case k__law_fields => k_is)
    (case a__law_rows => k_is)
    (case l__law_rows => k_is)
    (case c__law_rows => k_is)
    (case k__law_rows => k_is)
    (case a__law_look => k_is)
    (case l__law_look => k_is)
    (case c__law_look => k_is)
    (case k__law_look => k_is)
    (case a_Fields__place => k_is)
    (case ai_Fields__place => first | k_is | kernel_rfl)
    (case l_Fields__place => k_is)
    (case c_Fields__place => k_is)
    (case k_Fields__place => k_is)
    (case a_is_value => k_is)
    (case l_is_value => k_is)
    (case c_is_value => k_is)
    (case k_is_value => k_is)
    (case a_is_look => k_is)
    (case l_is_look => k_is)
    (case c_is_look => k_is)
    (case k_is_look => k_is)
    (case t_is_look => k_is)
    (case a__law_bad_fields => k_is)
    (case l__law_bad_fields => k_is)
    (case c__law_bad_fields => k_is)
    (case k__law_bad_fields => k_is)
    (case a__law_same => k_is)
    (case l__law_same => k_is)
    (case c__law_same => k_is)
    (case k__law_same => k_is)
    (case a_is_packet => k_is)
    (case l_is_packet => k_is)
    (case c_is_packet => k_is)
    (case k_is_packet => k_is)
    (case a_sees => k_is)
    (case l_sees => k_is)
    (case c_sees => k_is)
    (case k_sees => k_is)
    (case a_packets_of => k_is)
    (case l_packets_of => k_is)
    (case c_packets_of => k_is)
    (case k_packets_of => k_is)
    (case a__law_bad_look => k_is)
    (case l__law_bad_look => k_is)
    (case c__law_bad_look => k_is)
    (case k__law_bad_look => k_is)
    (case a__law_sees => k_is)
    (case l__law_sees => k_is)
    (case c__law_sees => k_is)
    (case k__law_sees => k_is)
    (case a_put => k_is)
    (case l_put => k_is)
    (case c_put => k_is)
    (case k_put => k_is)
    (case a__law_put => k_is)
    (case l__law_put => k_is)
    (case c__law_put => k_is)
    (case k__law_put => k_is)
    (case a_just => k_is)
    (case l_just => k_is)
    (case c_just => k_is)
    (case k_just => k_is)
    (case a_law => k_is)
    (case l_law => k_is)
    (case c_law => k_is)
    (case k_law => k_is)
    (case z_all => k_is)
    (case z_bool => k_is)
    (case z_int => k_is)
    (case z_isinstance => k_is)
    (case z_len => k_is)
    (case z_list => k_is)
    (case z_range => k_is)
    (case z_sorted => k_is)
    (case z_str => k_is)
    (case z_tuple => k_is)
    (case z_zip => k_is)
    (case g_LETTERS => k_is)
    (case g_MOST_FIELDS => k_is)
    (case g_MOST_PACKETS => k_is)
    (case g_MOST_VALUES => k_is)
    (case x_BadTest => k_is)
    (case xq_BadTest => kernel_rfl)
    (case xk_BadTest => k_is)
    (case xs_BadTest => k_is)
    (case xt_BadTest => k_is)
    (case xm_BadTest => kernel_rfl)
    (case x1_BadTest => k_is)
    (case x2_BadTest => k_is)
    (case x3_BadTest => k_is)
    (case x4_BadTest => k_is)
    (case x5_BadTest => k_is)
    (case x6_BadTest => k_is)
    (case x7_BadTest => k_is)
    (case x8_BadTest => kernel_rfl)
#print axioms PySem.Challenge.cw_guardedways_k73_packets_and_looks_holds
