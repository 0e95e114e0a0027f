import PyProof.Rows.All
import HandS.ForMost
import HandS.ForExc
import HandS.IsInst
import HandS.TupAny
import HandS.Wide
import HandS.Style
import HandS.Defaults
import HandS.More
import HandS.TupLen
import KE.SortData
import KE.KDictCopyH
import KE.KDictWalk
import HandS.Iter
import PySem.Challenge.RW_whoeverwithin_k07_passes
set_option Elab.async false
set_option linter.all false
set_option maxRecDepth 100000
set_option exponentiation.threshold 3000
/-! DL: a data layer over HandS. Values as trees (D), mutable objects in a numbered store (M), weakest preconditions over these. -/
namespace DL
open PySem PySem.Spec PyProof.Rows L2

inductive D where
  | non | bl (b : Bool) | int (i : Int) | str (s : List Nat) | tup (ds : List D) | lst (ds : List D)
  | dic (t : Bool) (ks vs : List D) | scr (ds : List D) | obj (v : V)
instance : Inhabited D := ⟨.non⟩
/-- what a name holds: data, or the n-th mutable object -/
inductive U where
  | d (x : D) | r (n : Nat)
/-- a mutable object -/
inductive MO where
  | lst (ds : List D) | box (us : List U) | dct (t : Bool) (kv : List (D × D)) | dead

def keyD : Key → D
  | .inl i => .int i
  | .inr x => .str x.cps.toList
def DicAt (H : Hp) (a : Addr) (t : Bool) (ks : List D) (xs : List V) : Prop :=
  match t with
  | false => ∃ kvs : List (Key × V), H a = some (.dK kvs) ∧ ks = kvs.map (fun p => keyD p.1) ∧ xs = kvs.map (·.2)
  | true => ∃ kvs : List (List Key × V), H a = some (.dT kvs) ∧ ks = kvs.map (fun p => D.tup (p.1.map keyD)) ∧ xs = kvs.map (·.2)
theorem DicAt.mono {H H' : Hp} (h : Same H H') {a : Addr} {t : Bool} {ks : List D} {xs : List V} (x : DicAt H a t ks xs) : DicAt H' a t ks xs := by
  cases t with
  | false => obtain ⟨kvs, e, r⟩ := x; exact ⟨kvs, h _ _ e, r⟩
  | true => obtain ⟨kvs, e, r⟩ := x; exact ⟨kvs, h _ _ e, r⟩
theorem same_sqT {K : PySem.W.Frag} {H H' : Hp} {a : Addr} {xs : List V} (e : Same H H') (h : SqT K H a xs) : SqT K H' a xs := by
  rcases h with (h | ⟨o, h⟩) | h
  · exact .inl (.inl (e _ _ h))
  · exact .inl (.inr ⟨o, e _ _ h⟩)
  · exact .inr h

/-- what a key's texts keep to -/
def goodS (s : List Nat) : Prop := s.all (· < 0x110000) = true ∧ s.length ≤ sizeLine
def goodI : D → Prop
  | .str s => goodS s
  | _ => True
def goodK : D → Prop
  | .str s => goodS s
  | .tup ds => ∀ d ∈ ds, goodI d
  | _ => True
mutual
def Rep (K : PySem.W.Frag) (F : Hp) : D → V → Prop
  | .non, v => v = .non
  | .bl b, v => v = .bl b
  | .int i, v => v = .int i
  | .str s, v => v = .str ⟨s.toArray⟩ ∧ s.all (· < 0x110000) = true ∧ s.length ≤ sizeLine
  | .tup ds, v => ∃ a xs, v = .ref a ∧ F a = some (.tup xs) ∧ Reps K F ds xs
  | .lst ds, v => ∃ a xs, v = .ref a ∧ F a = some (.lst xs) ∧ Reps K F ds xs
  | .scr ds, v => ∃ a xs, v = .ref a ∧ SqL K F a xs ∧ Reps K F ds xs
  | .dic t ks vs, v => ∃ a xs, v = .ref a ∧ (DicAt F a t ks xs ∧ ∀ k ∈ ks, goodK k) ∧ Reps K F vs xs
  | .obj w, v => v = w
def Reps (K : PySem.W.Frag) (F : Hp) : List D → List V → Prop
  | [], vs => vs = []
  | d :: ds, vs => ∃ v r, vs = v :: r ∧ Rep K F d v ∧ Reps K F ds r
end

section
variable {K : PySem.W.Frag} {F F' : Hp}
mutual
theorem Rep.mono (h : Same F F') : ∀ {d : D} {v : V}, Rep K F d v → Rep K F' d v
  | .non, _, x => x
  | .bl _, _, x => x
  | .int _, _, x => x
  | .str _, _, x => x
  | .obj _, _, x => x
  | .tup ds, v, x => by
    obtain ⟨a, xs, e, s, r⟩ := x
    exact ⟨a, xs, e, h _ _ s, Reps.mono h r⟩
  | .lst ds, v, x => by
    obtain ⟨a, xs, e, s, r⟩ := x
    exact ⟨a, xs, e, h _ _ s, Reps.mono h r⟩
  | .scr ds, v, x => by
    obtain ⟨a, xs, e, s, r⟩ := x
    exact ⟨a, xs, e, h.seq s, Reps.mono h r⟩
  | .dic t ks vs, v, x => by
    obtain ⟨a, xs, e, s, r⟩ := x
    exact ⟨a, xs, e, ⟨s.1.mono h, s.2⟩, Reps.mono h r⟩
theorem Reps.mono (h : Same F F') : ∀ {ds : List D} {vs : List V}, Reps K F ds vs → Reps K F' ds vs
  | [], _, x => x
  | d :: ds, vs, x => by
    obtain ⟨v, r, e, a, b⟩ := x
    exact ⟨v, r, e, Rep.mono h a, Reps.mono h b⟩
end
theorem Reps.length : ∀ {ds : List D} {vs : List V}, Reps K F ds vs → vs.length = ds.length
  | [], _, x => by have e : _ = [] := x; subst e; rfl
  | d :: ds, vs, x => by
    obtain ⟨v, r, e, a, b⟩ := x
    rw [e, List.length_cons, List.length_cons, Reps.length b]
theorem Reps.get : ∀ {ds : List D} {vs : List V} {i : Nat} {d : D}, Reps K F ds vs → ds[i]? = some d → ∃ v, vs[i]? = some v ∧ Rep K F d v
  | [], _, _, _, _, h => by simp at h
  | d :: ds, vs, 0, d', x, h => by
    obtain ⟨v, r, rfl, a, b⟩ := x
    have e : d = d' := by simpa using h
    exact ⟨v, rfl, e ▸ a⟩
  | d :: ds, vs, i + 1, d', x, h => by
    obtain ⟨v, r, rfl, a, b⟩ := x
    obtain ⟨v', h1, h2⟩ := Reps.get (i := i) b (by simpa using h)
    exact ⟨v', by simpa using h1, h2⟩
theorem Reps.set : ∀ {ds : List D} {vs : List V} {i : Nat} {d : D} {v : V}, Reps K F ds vs → Rep K F d v → Reps K F (ds.set i d) (vs.set i v)
  | [], _, _, _, _, x, _ => by have e : _ = [] := x; rw [e]; exact rfl
  | d :: ds, vs, 0, d', v', x, y => by
    obtain ⟨v, r, rfl, a, b⟩ := x
    exact ⟨v', r, rfl, y, b⟩
  | d :: ds, vs, i + 1, d', v', x, y => by
    obtain ⟨v, r, rfl, a, b⟩ := x
    exact ⟨v, r.set i v', rfl, a, Reps.set b y⟩
theorem Reps.append : ∀ {ds es : List D} {vs ws : List V}, Reps K F ds vs → Reps K F es ws → Reps K F (ds ++ es) (vs ++ ws)
  | [], _, _, _, x, y => by have e : _ = [] := x; rw [e]; exact y
  | d :: ds, es, vs, ws, x, y => by
    obtain ⟨v, r, rfl, a, b⟩ := x
    exact ⟨v, r ++ ws, rfl, a, Reps.append b y⟩
theorem Reps.take : ∀ {ds : List D} {vs : List V} (n : Nat), Reps K F ds vs → Reps K F (ds.take n) (vs.take n)
  | _, _, 0, _ => by rw [List.take_zero, List.take_zero]; exact rfl
  | [], _, n + 1, x => by have e : _ = [] := x; rw [e]; exact rfl
  | d :: ds, vs, n + 1, x => by
    obtain ⟨v, r, rfl, a, b⟩ := x
    exact ⟨v, r.take n, rfl, a, Reps.take n b⟩
theorem Reps.drop : ∀ {ds : List D} {vs : List V} (n : Nat), Reps K F ds vs → Reps K F (ds.drop n) (vs.drop n)
  | _, _, 0, x => x
  | [], _, n + 1, x => by have e : _ = [] := x; rw [e]; exact rfl
  | d :: ds, vs, n + 1, x => by
    obtain ⟨v, r, rfl, a, b⟩ := x
    exact Reps.drop n b
theorem Reps.reverse : ∀ {ds : List D} {vs : List V}, Reps K F ds vs → Reps K F ds.reverse vs.reverse
  | [], _, x => by have e : _ = [] := x; rw [e]; exact rfl
  | d :: ds, vs, x => by
    obtain ⟨v, r, rfl, a, b⟩ := x
    rw [List.reverse_cons, List.reverse_cons]
    exact Reps.append (Reps.reverse b) ⟨v, [], rfl, a, rfl⟩
theorem Reps.eraseIdx : ∀ {ds : List D} {vs : List V} (n : Nat), Reps K F ds vs → Reps K F (ds.eraseIdx n) (vs.eraseIdx n)
  | [], _, n, x => by have e : _ = [] := x; rw [e]; exact rfl
  | d :: ds, vs, 0, x => by
    obtain ⟨v, r, rfl, a, b⟩ := x
    exact b
  | d :: ds, vs, n + 1, x => by
    obtain ⟨v, r, rfl, a, b⟩ := x
    exact ⟨v, r.eraseIdx n, rfl, a, Reps.eraseIdx n b⟩
theorem Reps.cons {d : D} {ds : List D} {v : V} {vs : List V} (h : Rep K F d v) (r : Reps K F ds vs) : Reps K F (d :: ds) (v :: vs) := ⟨v, vs, rfl, h, r⟩
end

/-! ### values with references -/
def UR (K : PySem.W.Frag) (F : Hp) (A : List Addr) : U → V → Prop
  | .d x, v => Rep K F x v
  | .r n, v => ∃ a, A[n]? = some a ∧ v = .ref a
def URs (K : PySem.W.Frag) (F : Hp) (A : List Addr) : List U → List V → Prop
  | [], vs => vs = []
  | u :: us, vs => ∃ v r, vs = v :: r ∧ UR K F A u v ∧ URs K F A us r
/-- the store of addresses has grown at its end -/
def Gr (F : Hp) (A : List Addr) (F' : Hp) (A' : List Addr) : Prop := Same F F' ∧ ∃ B, A' = A ++ B
theorem Gr.refl {F : Hp} {A : List Addr} : Gr F A F A := ⟨Same.refl F, [], (List.append_nil A).symm⟩
theorem Gr.trans {F F1 F2 : Hp} {A A1 A2 : List Addr} (a : Gr F A F1 A1) (b : Gr F1 A1 F2 A2) : Gr F A F2 A2 := by
  obtain ⟨x, B, rfl⟩ := a
  obtain ⟨y, C, rfl⟩ := b
  exact ⟨x.trans y, B ++ C, by rw [List.append_assoc]⟩
theorem get_app {α : Type} {A B : List α} {n : Nat} {a : α} (h : A[n]? = some a) : (A ++ B)[n]? = some a := by
  rw [List.getElem?_append_left (List.getElem?_eq_some_iff.mp h).1]; exact h
section
variable {K : PySem.W.Frag} {F F' : Hp} {A A' : List Addr}
theorem UR.mono (h : Gr F A F' A') : ∀ {u : U} {v : V}, UR K F A u v → UR K F' A' u v
  | .d x, v, r => Rep.mono h.1 r
  | .r n, v, r => by
    obtain ⟨B, rfl⟩ := h.2
    obtain ⟨a, e, q⟩ := r
    exact ⟨a, get_app e, q⟩
theorem URs.mono (h : Gr F A F' A') : ∀ {us : List U} {vs : List V}, URs K F A us vs → URs K F' A' us vs
  | [], _, r => r
  | u :: us, vs, r => by
    obtain ⟨v, w, e, a, b⟩ := r
    exact ⟨v, w, e, UR.mono h a, URs.mono h b⟩
theorem URs.length : ∀ {us : List U} {vs : List V}, URs K F A us vs → vs.length = us.length
  | [], _, x => by have e : _ = [] := x; subst e; rfl
  | u :: us, vs, x => by
    obtain ⟨v, r, e, a, b⟩ := x
    rw [e, List.length_cons, List.length_cons, URs.length b]
theorem URs.get : ∀ {ds : List U} {vs : List V} {i : Nat} {d : U}, URs K F A ds vs → ds[i]? = some d → ∃ v, vs[i]? = some v ∧ UR K F A d v
  | [], _, _, _, _, h => by simp at h
  | d :: ds, vs, 0, d', x, h => by
    obtain ⟨v, r, rfl, a, b⟩ := x
    have e : d = d' := by simpa using h
    exact ⟨v, rfl, e ▸ a⟩
  | d :: ds, vs, i + 1, d', x, h => by
    obtain ⟨v, r, rfl, a, b⟩ := x
    obtain ⟨v', h1, h2⟩ := URs.get (i := i) b (by simpa using h)
    exact ⟨v', by simpa using h1, h2⟩
theorem URs.set : ∀ {ds : List U} {vs : List V} {i : Nat} {d : U} {v : V}, URs K F A ds vs → UR K F A d v → URs K F A (ds.set i d) (vs.set i v)
  | [], _, _, _, _, x, _ => by have e : _ = [] := x; rw [e]; exact rfl
  | d :: ds, vs, 0, d', v', x, y => by
    obtain ⟨v, r, rfl, a, b⟩ := x
    exact ⟨v', r, rfl, y, b⟩
  | d :: ds, vs, i + 1, d', v', x, y => by
    obtain ⟨v, r, rfl, a, b⟩ := x
    exact ⟨v, r.set i v', rfl, a, URs.set b y⟩
/-- the data of a list of values without references -/
def datas : List U → Option (List D)
  | [] => some []
  | .d x :: us => (datas us).map (x :: ·)
  | .r _ :: _ => none
theorem URs.datas : ∀ {us : List U} {vs : List V} {ds : List D}, URs K F A us vs → DL.datas us = some ds → Reps K F ds vs
  | [], vs, ds, r, h => by
    have e : ds = [] := by simpa [DL.datas] using h.symm
    subst e; exact r
  | .d x :: us, vs, ds, r, h => by
    obtain ⟨v, w, rfl, a, b⟩ := r
    unfold DL.datas at h
    cases e : DL.datas us with
    | none => rw [e] at h; cases h
    | some ds' =>
      rw [e] at h
      have e2 : x :: ds' = ds := Option.some.inj h
      subst e2
      exact ⟨v, w, rfl, a, URs.datas b e⟩
  | .r _ :: us, vs, ds, r, h => by cases h
end

/-! ### the world: what stands, what is known -/
def MOk (K : PySem.W.Frag) (F : Hp) (A : List Addr) (H : Hp) (a : Addr) : MO → Prop
  | .lst ds => ∃ vs, H a = some (.lst vs) ∧ Reps K F ds vs
  | .box us => ∃ vs, H a = some (.lst vs) ∧ URs K F A us vs
  | .dct t kv => ∃ vs, (DicAt H a t (kv.map (·.1)) vs ∧ ∀ k ∈ kv.map (·.1), goodK k) ∧ Reps K F (kv.map (·.2)) vs
  | .dead => True
/-- the entry of the running def -/
structure En where
  H : Hp
  F : Hp
  G : Hp
  A : List Addr
structure Wd (K : PySem.W.Frag) (en : En) (δ : List (Option U)) (M : List MO) (σ : L2.St) (H F : Hp) (A : List Addr) : Prop where
  sub : Same F H
  tups : ∀ (a : Addr) (xs : List V), H a = some (.tup xs) → F a = some (.tup xs)
  len : A.length = M.length
  nd : A.Nodup
  dis : ∀ (i : Nat) (a : Addr) (o : MO), A[i]? = some a → M[i]? = some o → o ≠ MO.dead → F a = none
  mem : ∀ (i : Nat) (a : Addr) (o : MO), A[i]? = some a → M[i]? = some o → MOk K F A H a o
  here : ∀ a : Addr, a ∈ A → H a ≠ none
  dl : δ.length = σ.length
  sl : ∀ (i : Nat) (u : U), δ[i]? = some (some u) → ∃ v, σ[i]? = some (some v) ∧ UR K F A u v
  keep : ∀ (a : Addr) (o : HO), en.H a = some o → a ∉ en.A → H a = some o
  there : ∀ a : Addr, H a = none → en.H a = none
  subF : Same en.G F
  newF : ∀ a : Addr, F a ≠ none → en.F a = none → en.H a = none
  pre : ∃ B, A = en.A ++ B
  newA : ∀ (i : Nat) (a : Addr), en.A.length ≤ i → A[i]? = some a → en.H a = none
theorem MOk.mono {K : PySem.W.Frag} {F F' : Hp} {A A' : List Addr} {H H' : Hp} {a : Addr} (g : Gr F A F' A') (h : ∀ o, H a = some o → H' a = some o) : ∀ {m : MO}, MOk K F A H a m → MOk K F' A' H' a m
  | .lst ds, ⟨vs, e, r⟩ => ⟨vs, h _ e, r.mono g.1⟩
  | .box us, ⟨vs, e, r⟩ => ⟨vs, h _ e, r.mono g⟩
  | .dct t kv, ⟨vs, e, r⟩ => by
    obtain ⟨e, gd⟩ := e
    refine ⟨vs, ⟨?_, gd⟩, r.mono g.1⟩
    cases t with
    | false => obtain ⟨kvs, e, r⟩ := e; exact ⟨kvs, h _ e, r⟩
    | true => obtain ⟨kvs, e, r⟩ := e; exact ⟨kvs, h _ e, r⟩
  | .dead, _ => trivial
section
variable {K : PySem.W.Frag} {en : En} {δ : List (Option U)} {M : List MO} {σ : L2.St} {H F : Hp} {A : List Addr}
theorem Wd.fF (w : Wd K en δ M σ H F A) {p : Addr} (h : H p = none) : F p = none := by
  cases e : F p with
  | none => rfl
  | some o => have q := w.sub _ _ e; rw [h] at q; cases q
theorem Wd.fA (w : Wd K en δ M σ H F A) {p : Addr} (h : H p = none) : p ∉ A := fun z => w.here p z h
/-- a new immutable object -/
theorem Wd.laid (w : Wd K en δ M σ H F A) {p : Addr} {o : HO} (h : H p = none) : Wd K en δ M σ (upd H p o) (upd F p o) A ∧ Gr F A (upd F p o) A := by
  have sF : Same F (upd F p o) := fun b u e => by rw [upd_ne (ne_of_none e (w.fF h))]; exact e
  have sH : ∀ b u, H b = some u → upd H p o b = some u := fun b u e => by rw [upd_ne (ne_of_none e h)]; exact e
  have g : Gr F A (upd F p o) A := ⟨sF, [], (List.append_nil A).symm⟩
  refine ⟨⟨fun b u e => ?_, fun b xs e => ?_, w.len, w.nd, fun i a m h1 h2 h3 => ?_, fun i a m h1 h2 => (w.mem i a m h1 h2).mono g (sH a), fun a ha => ?_, w.dl, fun i u e => ?_, fun a u e n => sH a u (w.keep a u e n), fun a e => ?_, w.subF.trans sF, fun a e n => ?_, w.pre, w.newA⟩, g⟩
  · by_cases hb : b = p
    · subst hb; rw [upd_same] at e ⊢; exact e
    · rw [upd_ne hb] at e ⊢; exact w.sub b u e
  · by_cases hb : b = p
    · subst hb; rw [upd_same] at e ⊢; exact e
    · rw [upd_ne hb] at e ⊢; exact w.tups b xs e
  · have : a ≠ p := fun z => by
      subst z
      exact w.fA h (List.mem_of_getElem? h1)
    rw [upd_ne this]; exact w.dis i a m h1 h2 h3
  · have : a ≠ p := fun z => by subst z; exact w.fA h ha
    rw [upd_ne this]; exact w.here a ha
  · obtain ⟨v, e1, e2⟩ := w.sl i u e
    exact ⟨v, e1, e2.mono g⟩
  · by_cases hb : a = p
    · subst hb; rw [upd_same] at e; cases e
    · rw [upd_ne hb] at e; exact w.there a e
  · by_cases hb : a = p
    · subst hb; exact w.there a h
    · rw [upd_ne hb] at e; exact w.newF a e n
/-- a new mutable object -/
theorem Wd.push (w : Wd K en δ M σ H F A) {p : Addr} {o : HO} {m : MO} (h : H p = none) (hm : MOk K F A (upd H p o) p m) (ho : ∀ xs, o ≠ .tup xs) : Wd K en δ (M ++ [m]) σ (upd H p o) F (A ++ [p]) ∧ Gr F A F (A ++ [p]) := by
  have sH : ∀ b u, H b = some u → upd H p o b = some u := fun b u e => by rw [upd_ne (ne_of_none e h)]; exact e
  have g : Gr F A F (A ++ [p]) := ⟨Same.refl F, [p], rfl⟩
  have split : ∀ {i : Nat} {a : Addr} {x : MO}, (A ++ [p])[i]? = some a → (M ++ [m])[i]? = some x → (A[i]? = some a ∧ M[i]? = some x) ∨ (a = p ∧ x = m) := fun {i a x} h1 h2 => by
    by_cases hi : i < A.length
    · rw [List.getElem?_append_left hi] at h1
      rw [List.getElem?_append_left (by rw [← w.len]; exact hi)] at h2
      exact .inl ⟨h1, h2⟩
    · rw [List.getElem?_append_right (by omega)] at h1
      rw [List.getElem?_append_right (by rw [← w.len]; omega), ← w.len] at h2
      cases q : i - A.length with
      | zero =>
        rw [q] at h1 h2
        exact .inr ⟨(Option.some.inj h1).symm, (Option.some.inj h2).symm⟩
      | succ j => rw [q] at h1; simp at h1
  refine ⟨⟨fun b u e => sH b u (w.sub b u e), fun b xs e => ?_, by rw [List.length_append, List.length_append, w.len]; rfl, ?_, fun i a x h1 h2 h3 => ?_, fun i a x h1 h2 => ?_, fun a ha => ?_, w.dl, fun i u e => ?_, fun a u e n => sH a u (w.keep a u e n), fun a e => ?_, w.subF, w.newF, ?_, fun i a hi e => ?_⟩, g⟩
  · by_cases hb : b = p
    · subst hb; rw [upd_same] at e; exact absurd (Option.some.inj e) (ho xs)
    · rw [upd_ne hb] at e; exact w.tups b xs e
  · rw [List.nodup_append]
    refine ⟨w.nd, by simp, fun a ha b hb => ?_⟩
    have : b = p := by simpa using hb
    subst this
    intro z; subst z; exact w.fA h ha
  · rcases split h1 h2 with ⟨e1, e2⟩ | ⟨rfl, rfl⟩
    · exact w.dis i a x e1 e2 h3
    · exact w.fF h
  · rcases split h1 h2 with ⟨e1, e2⟩ | ⟨rfl, rfl⟩
    · exact (w.mem i a x e1 e2).mono g (sH a)
    · exact hm.mono g (fun _ e => e)
  · rcases List.mem_append.mp ha with z | z
    · have : a ≠ p := fun q => by subst q; exact w.fA h z
      rw [upd_ne this]; exact w.here a z
    · have : a = p := by simpa using z
      subst this; rw [upd_same]; exact fun q => nomatch q
  · obtain ⟨v, e1, e2⟩ := w.sl i u e
    exact ⟨v, e1, e2.mono g⟩
  · by_cases hb : a = p
    · subst hb; rw [upd_same] at e; cases e
    · rw [upd_ne hb] at e; exact w.there a e
  · obtain ⟨B, e⟩ := w.pre
    exact ⟨B ++ [p], by rw [e, List.append_assoc]⟩
  · by_cases hi2 : i < A.length
    · rw [List.getElem?_append_left hi2] at e
      exact w.newA i a hi e
    · have hm' : a ∈ [p] := by
        rw [List.getElem?_append_right (by omega)] at e
        exact List.mem_of_getElem? e
      have : a = p := by simpa using hm'
      subst this
      exact w.there a h
/-- a mutable object is written -/
theorem Wd.write (w : Wd K en δ M σ H F A) {n : Nat} {a : Addr} {o : HO} {m m' : MO} (ha : A[n]? = some a) (hm : M[n]? = some m) (hd : m ≠ MO.dead) (h : MOk K F A (upd H a o) a m') (ho : ∀ xs, o ≠ .tup xs) :
    Wd K en δ (M.set n m') σ (upd H a o) F A := by
  have fa := w.dis n a m ha hm hd
  have inj : ∀ {i b}, A[i]? = some b → i ≠ n → b ≠ a := fun {i b} e ne z => by
    subst z
    exact ne ((List.getElem?_inj (List.getElem?_eq_some_iff.mp e).1 w.nd).mp (e.trans ha.symm))
  have hln : n < M.length := by rw [← w.len]; exact (List.getElem?_eq_some_iff.mp ha).1
  refine ⟨fun b u e => ?_, fun b xs e => ?_, by rw [List.length_set]; exact w.len, w.nd, fun i b x h1 h2 h3 => ?_, fun i b x h1 h2 => ?_, fun b hb => ?_, w.dl, w.sl, fun b u e n' => ?_, fun b e => ?_, w.subF, w.newF, w.pre, w.newA⟩
  · rw [upd_ne (ne_of_none e fa)]; exact w.sub b u e
  · by_cases hb : b = a
    · subst hb; rw [upd_same] at e; exact absurd (Option.some.inj e) (ho xs)
    · rw [upd_ne hb] at e; exact w.tups b xs e
  · by_cases hi : i = n
    · subst hi
      rw [ha] at h1; cases h1; exact fa
    · rw [List.getElem?_set_ne (Ne.symm hi)] at h2
      exact w.dis i b x h1 h2 h3
  · by_cases hi : i = n
    · subst hi
      rw [ha] at h1; cases h1
      rw [List.getElem?_set_self hln] at h2
      cases h2; exact h
    · rw [List.getElem?_set_ne (Ne.symm hi)] at h2
      exact (w.mem i b x h1 h2).mono Gr.refl fun u e => by rw [upd_ne (inj h1 hi)]; exact e
  · by_cases hb2 : b = a
    · subst hb2; rw [upd_same]; exact fun q => nomatch q
    · rw [upd_ne hb2]; exact w.here b hb
  · by_cases hb2 : b = a
    · subst hb2
      exfalso
      by_cases hn : n < en.A.length
      · obtain ⟨B, q⟩ := w.pre
        rw [q, List.getElem?_append_left hn] at ha
        exact n' (List.mem_of_getElem? ha)
      · have := w.newA n b (by omega) ha
        rw [e] at this; cases this
    · rw [upd_ne hb2]; exact w.keep b u e n'
  · by_cases hb2 : b = a
    · subst hb2; rw [upd_same] at e; cases e
    · rw [upd_ne hb2] at e; exact w.there b e
/-- a name is stored -/
theorem Wd.store (w : Wd K en δ M σ H F A) {i : Nat} {u : U} {v : V} (r : UR K F A u v) : Wd K en (δ.set i (some u)) M (σ.set i (some v)) H F A :=
  { w with
    dl := by rw [List.length_set, List.length_set]; exact w.dl
    sl := fun j x e => by
      by_cases hj : j = i
      · subst hj
        have hl : j < δ.length := by
          have := (List.getElem?_eq_some_iff.mp e).1
          rwa [List.length_set] at this
        rw [List.getElem?_set_self hl] at e
        cases e
        exact ⟨v, List.getElem?_set_self (by rw [← w.dl]; exact hl), r⟩
      · rw [List.getElem?_set_ne (Ne.symm hj)] at e ⊢
        exact w.sl j x e }
/-- a name is forgotten -/
theorem Wd.less (w : Wd K en δ M σ H F A) {δ' : List (Option U)} (hl : δ'.length = δ.length) (h : ∀ (i : Nat) u, δ'[i]? = some (some u) → δ[i]? = some (some u)) : Wd K en δ' M σ H F A :=
  { w with dl := by rw [hl]; exact w.dl, sl := fun j x e => w.sl j x (h j x e) }
/-- a mutable list is mutable no more -/
theorem Wd.freeze (w : Wd K en δ M σ H F A) {n : Nat} {a : Addr} {o : HO} (hn : en.A.length ≤ n) (ha : A[n]? = some a) (hm : H a = some o) :
    (F a = none) → Wd K en δ (M.set n MO.dead) σ H (upd F a o) A ∧ Gr F A (upd F a o) A := fun fa => by
  have sF : Same F (upd F a o) := fun b u e => by rw [upd_ne (ne_of_none e fa)]; exact e
  have g : Gr F A (upd F a o) A := ⟨sF, [], (List.append_nil A).symm⟩
  have inj : ∀ {i b}, A[i]? = some b → i ≠ n → b ≠ a := fun {i b} e ne z => by
    subst z
    exact ne ((List.getElem?_inj (List.getElem?_eq_some_iff.mp e).1 w.nd).mp (e.trans ha.symm))
  have hln : n < M.length := by rw [← w.len]; exact (List.getElem?_eq_some_iff.mp ha).1
  refine ⟨⟨fun b u e => ?_, fun b xs e => sF b _ (w.tups b xs e), by rw [List.length_set]; exact w.len, w.nd, fun i b x h1 h2 h3 => ?_, fun i b x h1 h2 => ?_, w.here, w.dl, fun i u e => ?_, w.keep, w.there, w.subF.trans sF, fun b e q => ?_, w.pre, w.newA⟩, g⟩
  · by_cases hb : b = a
    · subst hb; rw [upd_same] at e; cases e; exact hm
    · rw [upd_ne hb] at e; exact w.sub b u e
  · by_cases hi : i = n
    · subst hi
      rw [List.getElem?_set_self hln] at h2
      cases h2; exact absurd rfl h3
    · rw [List.getElem?_set_ne (Ne.symm hi)] at h2
      rw [upd_ne (inj h1 hi)]
      exact w.dis i b x h1 h2 h3
  · by_cases hi : i = n
    · subst hi
      rw [List.getElem?_set_self hln] at h2
      cases h2; exact trivial
    · rw [List.getElem?_set_ne (Ne.symm hi)] at h2
      exact (w.mem i b x h1 h2).mono g fun _ e => e
  · obtain ⟨v, e1, e2⟩ := w.sl i u e
    exact ⟨v, e1, e2.mono g⟩
  · by_cases hb : b = a
    · subst hb; exact w.newA n b hn ha
    · rw [upd_ne hb] at e; exact w.newF b e q
end
end DL
namespace DL
open PySem PySem.Spec PyProof.Rows L2

/-! ### canonical readings -/
section
variable {X : Cx}
def tE (X : Cx) (e : Expr) : TE := fun σ H Q => ∀ (pins : List (Addr × Obj)) (s : Shared), Inv X pins σ H s → wpAny (model X.prog X.w) X.A (eval e X.env) (EP X pins σ Q) X.xe s
theorem pe_tE {e : Expr} : PE X e (tE X e) := ⟨fun pins s σ H Q I h => h pins s I⟩
theorem tE.mono {e : Expr} {σ : L2.St} {H : Hp} {Q Q' : VK} (h : tE X e σ H Q) (f : ∀ v H', Q v H' → Q' v H') : tE X e σ H Q' := fun pins s I =>
  thn (h pins s I) fun _ _ ⟨v, H', J, r, q⟩ => ⟨v, H', J, r, f _ _ q⟩
theorem tE.of {e : Expr} {t : TE} (h : PE X e t) {σ : L2.St} {H : Hp} {Q : VK} (q : t σ H Q) : tE X e σ H Q := fun pins s I => h.run pins s σ H Q I q
def tT (X : Cx) (e : Expr) : TT := fun σ H Q => ∀ (pins : List (Addr × Obj)) (s : Shared), Inv X pins σ H s → wpAny (model X.prog X.w) X.A (isTrue e X.env (eval e X.env)) (TP X pins σ Q) X.xe s
theorem pt_tT {e : Expr} : PT X e (tT X e) := ⟨fun pins s σ H Q I h => h pins s I⟩
theorem tT.mono {e : Expr} {σ : L2.St} {H : Hp} {Q Q' : Bool → Hp → Prop} (h : tT X e σ H Q) (f : ∀ v H', Q v H' → Q' v H') : tT X e σ H Q' := fun pins s I =>
  thn (h pins s I) fun _ _ ⟨H', J, q⟩ => ⟨H', J, f _ _ q⟩
theorem tT.of {e : Expr} {t : TT} (h : PT X e t) {σ : L2.St} {H : Hp} {Q : Bool → Hp → Prop} (q : t σ H Q) : tT X e σ H Q := fun pins s I => h.run pins s σ H Q I q
def tW (X : Cx) (e : Expr) : TT := fun σ H Q => ∀ (whole : Sem Value) (pins : List (Addr × Obj)) (s : Shared), Inv X pins σ H s → wpAny (model X.prog X.w) X.A (isTrue e X.env whole) (TP X pins σ Q) X.xe s
theorem pw_tW {e : Expr} : PW X e (tW X e) := ⟨fun whole pins s σ H Q I h => h whole pins s I⟩
theorem tW.mono {e : Expr} {σ : L2.St} {H : Hp} {Q Q' : Bool → Hp → Prop} (h : tW X e σ H Q) (f : ∀ v H', Q v H' → Q' v H') : tW X e σ H Q' := fun whole pins s I =>
  thn (h whole pins s I) fun _ _ ⟨H', J, q⟩ => ⟨H', J, f _ _ q⟩
theorem tW.of {e : Expr} {t : TT} (h : PW X e t) {σ : L2.St} {H : Hp} {Q : Bool → Hp → Prop} (q : t σ H Q) : tW X e σ H Q := fun whole pins s I => h.run whole pins s σ H Q I q
def tA (X : Cx) (es : List Expr) : TA := fun σ H Q => ∀ (pos : Pos) (pins : List (Addr × Obj)) (s : Shared), Inv X pins σ H s → wpAny (model X.prog X.w) X.A (spliced (backTo pos (starEach es X.env))) (AP X pins σ Q) X.xe s
theorem pa_tA {es : List Expr} : PA X es (tA X es) := ⟨fun pos pins s σ H Q I h => h pos pins s I⟩
theorem tA.mono {es : List Expr} {σ : L2.St} {H : Hp} {Q Q' : List V → Hp → Prop} (h : tA X es σ H Q) (f : ∀ v H', Q v H' → Q' v H') : tA X es σ H Q' := fun pos pins s I =>
  thn (h pos pins s I) fun _ _ ⟨vs, H', J, r, q⟩ => ⟨vs, H', J, r, f _ _ q⟩
theorem tA.of {es : List Expr} {t : TA} (h : PA X es t) {σ : L2.St} {H : Hp} {Q : List V → Hp → Prop} (q : t σ H Q) : tA X es σ H Q := fun pos pins s I => h.run pos pins s σ H Q I q
def tS (X : Cx) (st : Stmt) : TS := fun D σ H => ∀ (pins : List (Addr × Obj)) (s : Shared), Inv X pins σ H s → wpAny (model X.prog X.w) X.A (exec st X.env) (SP X pins D) X.xe s
theorem ps_tS {st : Stmt} : PS X st (tS X st) := ⟨fun pins s σ H D I h => h pins s I⟩
theorem tS.of {st : Stmt} {t : TS} (h : PS X st t) {σ : L2.St} {H : Hp} {D : Ends} (q : t D σ H) : tS X st D σ H := fun pins s I => h.run pins s σ H D I q
def tSs (X : Cx) (st : List Stmt) : TS := fun D σ H => ∀ (pins : List (Addr × Obj)) (s : Shared), Inv X pins σ H s → wpAny (model X.prog X.w) X.A (execs st X.env) (SP X pins D) X.xe s
theorem pss_tSs {st : List Stmt} : PSs X st (tSs X st) := ⟨fun pins s σ H D I h => h pins s I⟩
theorem tSs.of {st : List Stmt} {t : TS} (h : PSs X st t) {σ : L2.St} {H : Hp} {D : Ends} (q : t D σ H) : tSs X st D σ H := fun pins s I => h.run pins s σ H D I q
theorem sp_mono {pins : List (Addr × Obj)} {D D' : Ends} {f : Flow} {s : Shared} (h : SP X pins D f s) (n : ∀ σ H, D.nx σ H → D'.nx σ H) (r : ∀ v H, D.rt v H → D'.rt v H) (b : ∀ σ H, D.bk σ H → D'.bk σ H) (c : ∀ σ H, D.ct σ H → D'.ct σ H) : SP X pins D' f s := by
  cases f with
  | next => obtain ⟨σ', H', I, q⟩ := h; exact ⟨σ', H', I, n _ _ q⟩
  | brk => obtain ⟨σ', H', I, q⟩ := h; exact ⟨σ', H', I, b _ _ q⟩
  | cont => obtain ⟨σ', H', I, q⟩ := h; exact ⟨σ', H', I, c _ _ q⟩
  | ret u => obtain ⟨v, σ', H', I, e, q⟩ := h; exact ⟨v, σ', H', I, e, r _ _ q⟩
theorem tS.mono {st : Stmt} {σ : L2.St} {H : Hp} {D D' : Ends} (h : tS X st D σ H) (n : ∀ σ H, D.nx σ H → D'.nx σ H) (r : ∀ v H, D.rt v H → D'.rt v H) (b : ∀ σ H, D.bk σ H → D'.bk σ H) (c : ∀ σ H, D.ct σ H → D'.ct σ H) : tS X st D' σ H := fun pins s I =>
  thn (h pins s I) fun _ _ q => sp_mono q n r b c
theorem tSs.mono {st : List Stmt} {σ : L2.St} {H : Hp} {D D' : Ends} (h : tSs X st D σ H) (n : ∀ σ H, D.nx σ H → D'.nx σ H) (r : ∀ v H, D.rt v H → D'.rt v H) (b : ∀ σ H, D.bk σ H → D'.bk σ H) (c : ∀ σ H, D.ct σ H → D'.ct σ H) : tSs X st D' σ H := fun pins s I =>
  thn (h pins s I) fun _ _ q => sp_mono q n r b c
def tG (X : Cx) (tg : Expr) : TG := fun v σ H Q => ∀ (pins : List (Addr × Obj)) (s : Shared) (u : Value), Inv X pins σ H s → RelV v u → wpAny (model X.prog X.w) X.A (assign tg X.env u) (fun _ s' => ∃ σ' H', Inv X pins σ' H' s' ∧ Q σ' H') X.xe s
theorem pg_tG {tg : Expr} : PG X tg (tG X tg) := ⟨fun pins s σ H v u Q I r h => h pins s u I r⟩
theorem tG.mono {tg : Expr} {v : V} {σ : L2.St} {H : Hp} {Q Q' : L2.St → Hp → Prop} (h : tG X tg v σ H Q) (f : ∀ σ H', Q σ H' → Q' σ H') : tG X tg v σ H Q' := fun pins s u I r =>
  thn (h pins s u I r) fun _ _ ⟨σ', H', J, q⟩ => ⟨σ', H', J, f _ _ q⟩
theorem tG.of {tg : Expr} {t : TG} (h : PG X tg t) {v : V} {σ : L2.St} {H : Hp} {Q : L2.St → Hp → Prop} (q : t v σ H Q) : tG X tg v σ H Q := fun pins s u I r => h.run pins s σ H v u Q I r q
def tI (X : Cx) (tg iter : Expr) : TI := fun σ H R => ∀ (pins : List (Addr × Obj)) (s : Shared), Inv X pins σ H s →
    wpAny (model X.prog X.w) X.A (eval iter X.env) (fun v s1 => wpAny (model X.prog X.w) X.A (pyIter v) (PIE X pins σ tg R) X.xe s1) X.xe s
theorem pi_tI {tg iter : Expr} : PI X tg iter (tI X tg iter) := ⟨fun pins s σ H R I h => h pins s I⟩
theorem tI.mono {tg iter : Expr} {σ : L2.St} {H : Hp} {R R' : It → Hp → Prop} (h : tI X tg iter σ H R) (f : ∀ J H', R J H' → R' J H') : tI X tg iter σ H R' := fun pins s I =>
  thn (h pins s I) fun _ _ q => thn q fun _ _ ⟨it, fp, tn, J, H', a, b, c, d, e, q⟩ => ⟨it, fp, tn, J, H', a, b, c, d, e, f _ _ q⟩
theorem tI.of {tg iter : Expr} {t : TI} (h : PI X tg iter t) {σ : L2.St} {H : Hp} {R : It → Hp → Prop} (q : t σ H R) : tI X tg iter σ H R := fun pins s I => h.run pins s σ H R I q
end

/-! ### data readings -/
/-- an error: its class, its fields -/
abbrev Exn := Addr × List (Str × D)
abbrev Dl := List (Option U)
abbrev UK := U → List MO → Prop
abbrev ER := Exn → Dl → List MO → Prop
abbrev WE := Dl → List MO → UK → ER → Prop
abbrev WF := Dl → List MO → (MO → List MO → Prop) → ER → Prop
abbrev WT := Dl → List MO → (Bool → List MO → Prop) → ER → Prop
abbrev WA := Dl → List MO → (List U → List MO → Prop) → ER → Prop
abbrev WG := U → Dl → List MO → (Dl → List MO → Prop) → ER → Prop
structure DEnds where
  nx : Dl → List MO → Prop
  rt : UK
  bk : Dl → List MO → Prop
  ct : Dl → List MO → Prop
  er : ER
abbrev WS := DEnds → Dl → List MO → Prop

section
variable (K : PySem.W.Frag)
def EPost (en : En) (δ : Dl) (σ : L2.St) (F : Hp) (A : List Addr) (Q : UK) : VK := fun v H' => ∃ u M' F' A', Wd K en δ M' σ H' F' A' ∧ Gr F A F' A' ∧ UR K F' A' u v ∧ Q u M'
def TPost (en : En) (δ : Dl) (σ : L2.St) (F : Hp) (A : List Addr) (Q : Bool → List MO → Prop) : Bool → Hp → Prop := fun b H' => ∃ M' F' A', Wd K en δ M' σ H' F' A' ∧ Gr F A F' A' ∧ Q b M'
def APost (n : Nat) (en : En) (δ : Dl) (σ : L2.St) (F : Hp) (A : List Addr) (Q : List U → List MO → Prop) : List V → Hp → Prop := fun vs H' => ∃ us M' F' A', Wd K en δ M' σ H' F' A' ∧ Gr F A F' A' ∧ URs K F' A' us vs ∧ us.length = n ∧ Q us M'
def DicH (ho : HO) (t : Bool) (ks : List D) (xs : List V) : Prop :=
  match t with
  | false => ∃ kvs : List (Key × V), ho = .dK kvs ∧ ks = kvs.map (fun p => keyD p.1) ∧ xs = kvs.map (·.2)
  | true => ∃ kvs : List (List Key × V), ho = .dT kvs ∧ ks = kvs.map (fun p => D.tup (p.1.map keyD)) ∧ xs = kvs.map (·.2)
/-- a fresh object and what it holds -/
def FO (F : Hp) (A : List Addr) : MO → HO → Prop
  | .lst ds, ho => ∃ vs, ho = .lst vs ∧ Reps K F ds vs
  | .box us, ho => ∃ vs, ho = .lst vs ∧ URs K F A us vs
  | .dct t kv, ho => ∃ vs, (DicH ho t (kv.map (·.1)) vs ∧ ∀ k ∈ kv.map (·.1), goodK k) ∧ Reps K F (kv.map (·.2)) vs
  | .dead, _ => False
def FPost (en : En) (δ : Dl) (σ : L2.St) (F : Hp) (A : List Addr) (Q : MO → List MO → Prop) : VK := fun v H' => ∃ H1 mo M' F' A' p ho, v = .ref p ∧ H1 p = none ∧ H' = upd H1 p ho ∧ Wd K en δ M' σ H1 F' A' ∧ Gr F A F' A' ∧ FO K F' A' mo ho ∧ Q mo M'
def GPost (en : En) (Q : Dl → List MO → Prop) : L2.St → Hp → Prop := fun σ' H' => ∃ δ' M' F' A', Wd K en δ' M' σ' H' F' A' ∧ Q δ' M'
def RPost (en : En) (Q : UK) : VK := fun v H' => ∃ u δ' σ' M' F' A', Wd K en δ' M' σ' H' F' A' ∧ UR K F' A' u v ∧ Q u M'
def EN (en : En) (De : DEnds) : Ends := { nx := GPost K en De.nx, rt := RPost K en De.rt, bk := GPost K en De.bk, ct := GPost K en De.ct }
end
/-- what is raised comes to where it is wished for -/
def FRep (K : PySem.W.Frag) (F : Hp) (fs : List (Str × D)) (vfs : List (Str × V)) : Prop := fs.map (·.1) = vfs.map (·.1) ∧ Reps K F (fs.map (·.2)) (vfs.map (·.2))
def Snk (X : Cx) (en : En) (Er : ER) : Prop := ∃ W : WX, Takes X W ∧ ∀ (C dd : Addr) (fs : List (Str × D)) (vfs : List (Str × V)) (δ : Dl) (M : List MO) (σ : L2.St) (H F : Hp) (A : List Addr),
  Wd X.K en δ M σ H F A → H dd = some (.xd vfs) → FRep X.K F fs vfs → Er (C, fs) δ M → W (.ref C) (some dd) σ H

section
variable (X : Cx) (k : Nat)
structure DE (e : Expr) (w : WE) : Prop where
  run : ∀ (en : En) (δ : Dl) (M : List MO) (σ : L2.St) (H F : Hp) (A : List Addr) (Q : UK) (Er : ER), en.A.length = k → Wd X.K en δ M σ H F A → Snk X en Er → w δ M Q Er → tE X e σ H (EPost X.K en δ σ F A Q)
structure DF (e : Expr) (w : WF) : Prop where
  run : ∀ (en : En) (δ : Dl) (M : List MO) (σ : L2.St) (H F : Hp) (A : List Addr) (Q : MO → List MO → Prop) (Er : ER), en.A.length = k → Wd X.K en δ M σ H F A → Snk X en Er → w δ M Q Er → tE X e σ H (FPost X.K en δ σ F A Q)
structure DT (e : Expr) (w : WT) : Prop where
  run : ∀ (en : En) (δ : Dl) (M : List MO) (σ : L2.St) (H F : Hp) (A : List Addr) (Q : Bool → List MO → Prop) (Er : ER), en.A.length = k → Wd X.K en δ M σ H F A → Snk X en Er → w δ M Q Er → tT X e σ H (TPost X.K en δ σ F A Q)
structure DW (e : Expr) (w : WT) : Prop where
  run : ∀ (en : En) (δ : Dl) (M : List MO) (σ : L2.St) (H F : Hp) (A : List Addr) (Q : Bool → List MO → Prop) (Er : ER), en.A.length = k → Wd X.K en δ M σ H F A → Snk X en Er → w δ M Q Er → tW X e σ H (TPost X.K en δ σ F A Q)
structure DA (es : List Expr) (w : WA) : Prop where
  run : ∀ (en : En) (δ : Dl) (M : List MO) (σ : L2.St) (H F : Hp) (A : List Addr) (Q : List U → List MO → Prop) (Er : ER), en.A.length = k → Wd X.K en δ M σ H F A → Snk X en Er → w δ M Q Er → tA X es σ H (APost X.K es.length en δ σ F A Q)
structure DG (tg : Expr) (g : WG) : Prop where
  run : ∀ (en : En) (δ : Dl) (M : List MO) (σ : L2.St) (H F : Hp) (A : List Addr) (u : U) (v : V) (Q : Dl → List MO → Prop) (Er : ER), en.A.length = k → Wd X.K en δ M σ H F A → Snk X en Er → UR X.K F A u v → g u δ M Q Er → tG X tg v σ H (GPost X.K en Q)
structure DS (st : Stmt) (w : WS) : Prop where
  run : ∀ (en : En) (δ : Dl) (M : List MO) (σ : L2.St) (H F : Hp) (A : List Addr) (De : DEnds), en.A.length = k → Wd X.K en δ M σ H F A → Snk X en De.er → w De δ M → tS X st (EN X.K en De) σ H
structure DSs (st : List Stmt) (w : WS) : Prop where
  run : ∀ (en : En) (δ : Dl) (M : List MO) (σ : L2.St) (H F : Hp) (A : List Addr) (De : DEnds), en.A.length = k → Wd X.K en δ M σ H F A → Snk X en De.er → w De δ M → tSs X st (EN X.K en De) σ H
end

section
variable {K : PySem.W.Frag} {en : En} {δ : Dl} {M : List MO} {σ : L2.St} {H F F1 : Hp} {A A1 : List Addr}
theorem EPost.up {Q : UK} {v : V} {H' : Hp} (g : Gr F A F1 A1) (h : EPost K en δ σ F1 A1 Q v H') : EPost K en δ σ F A Q v H' := by
  obtain ⟨u, M', F', A', a, b, c, d⟩ := h
  exact ⟨u, M', F', A', a, g.trans b, c, d⟩
theorem FPost.up {Q : MO → List MO → Prop} {v : V} {H' : Hp} (g : Gr F A F1 A1) (h : FPost K en δ σ F1 A1 Q v H') : FPost K en δ σ F A Q v H' := by
  obtain ⟨H1, mo, M', F', A', p, ho, e, a, b, c, d, r⟩ := h
  exact ⟨H1, mo, M', F', A', p, ho, e, a, b, c, g.trans d, r⟩
theorem TPost.up {Q : Bool → List MO → Prop} {v : Bool} {H' : Hp} (g : Gr F A F1 A1) (h : TPost K en δ σ F1 A1 Q v H') : TPost K en δ σ F A Q v H' := by
  obtain ⟨M', F', A', a, b, d⟩ := h
  exact ⟨M', F', A', a, g.trans b, d⟩
theorem APost.up {n : Nat} {Q : List U → List MO → Prop} {v : List V} {H' : Hp} (g : Gr F A F1 A1) (h : APost K n en δ σ F1 A1 Q v H') : APost K n en δ σ F A Q v H' := by
  obtain ⟨u, M', F', A', a, b, c, d⟩ := h
  exact ⟨u, M', F', A', a, g.trans b, c, d⟩
theorem EPost.ret {Q : UK} {u : U} {v : V} (w : Wd K en δ M σ H F A) (r : UR K F A u v) (q : Q u M) : EPost K en δ σ F A Q v H := ⟨u, M, F, A, w, Gr.refl, r, q⟩
theorem FPost.mk' {Q : MO → List MO → Prop} {mo : MO} {p : Addr} {ho : HO} (w : Wd K en δ M σ H F A) (hp : H p = none) (f : FO K F A mo ho) (q : Q mo M) : FPost K en δ σ F A Q (.ref p) (upd H p ho) :=
  ⟨H, mo, M, F, A, p, ho, rfl, hp, rfl, w, Gr.refl, f, q⟩
theorem FO.ok {mo : MO} {p : Addr} {ho : HO} (f : FO K F A mo ho) : MOk K F A (upd H p ho) p mo := by
  cases mo with
  | lst ds => obtain ⟨vs, e, r⟩ := f; exact ⟨vs, by rw [upd_same, e], r⟩
  | box us => obtain ⟨vs, e, r⟩ := f; exact ⟨vs, by rw [upd_same, e], r⟩
  | dct t kv =>
    obtain ⟨vs, ⟨e, gd⟩, r⟩ := f
    refine ⟨vs, ⟨?_, gd⟩, r⟩
    cases t with
    | false => obtain ⟨kvs, e, q⟩ := e; exact ⟨kvs, by rw [upd_same, e], q⟩
    | true => obtain ⟨kvs, e, q⟩ := e; exact ⟨kvs, by rw [upd_same, e], q⟩
  | dead => exact f.elim
/-- the fresh object is an own one from here on -/
theorem FO.notup {K : PySem.W.Frag} {F : Hp} {A : List Addr} {mo : MO} {ho : HO} (f : FO K F A mo ho) : ∀ xs, ho ≠ .tup xs := by
  intro xs e
  subst e
  cases mo with
  | lst ds => obtain ⟨vs, e, _⟩ := f; cases e
  | box ds => obtain ⟨vs, e, _⟩ := f; cases e
  | dct t kv =>
    obtain ⟨vs, ⟨e, _⟩, _⟩ := f
    cases t with
    | false => obtain ⟨kvs, e, _⟩ := e; cases e
    | true => obtain ⟨kvs, e, _⟩ := e; cases e
  | dead => exact f.elim
theorem FPost.own {Q : UK} {v : V} {H' : Hp} (h : FPost K en δ σ F A (fun mo M' => Q (.r M'.length) (M' ++ [mo])) v H') : EPost K en δ σ F A Q v H' := by
  obtain ⟨H1, mo, M', F', A', p, ho, rfl, hp, rfl, w, g, f, q⟩ := h
  obtain ⟨w2, g2⟩ := w.push (m := mo) hp f.ok f.notup
  refine ⟨.r M'.length, M' ++ [mo], F', A' ++ [p], w2, g.trans g2, ⟨p, ?_, rfl⟩, q⟩
  rw [← w.len, List.getElem?_append_right (Nat.le_refl _), Nat.sub_self]; rfl
def frzK (Q : UK) : MO → List MO → Prop := fun mo M' => match mo with
  | .lst ds => Q (.d (.lst ds)) M'
  | .dct t kv => Q (.d (.dic t (kv.map (·.1)) (kv.map (·.2)))) M'
  | _ => False
/-- the fresh object is data -/
theorem FPost.frz {Q : UK} {v : V} {H' : Hp} (h : FPost K en δ σ F A (frzK Q) v H') : EPost K en δ σ F A Q v H' := by
  obtain ⟨H1, mo, M', F', A', p, ho, rfl, hp, rfl, w, g, f, q⟩ := h
  obtain ⟨w2, g2⟩ := w.laid (o := ho) hp
  cases mo with
  | lst ds =>
    obtain ⟨vs, e, r⟩ := f
    exact ⟨.d (.lst ds), M', _, A', w2, g.trans g2, ⟨p, vs, rfl, by rw [upd_same, e], r.mono g2.1⟩, q⟩
  | dct t kv =>
    obtain ⟨vs, ⟨e, gd⟩, r⟩ := f
    refine ⟨.d (.dic t (kv.map (fun p : D × D => p.1)) (kv.map (fun p : D × D => p.2))), M', _, A', w2, g.trans g2, ⟨p, vs, rfl, ⟨?_, gd⟩, r.mono g2.1⟩, q⟩
    cases t with
    | false => obtain ⟨kvs, e, q⟩ := e; exact ⟨kvs, by rw [upd_same, e], q⟩
    | true => obtain ⟨kvs, e, q⟩ := e; exact ⟨kvs, by rw [upd_same, e], q⟩
  | box us => exact q.elim
  | dead => exact q.elim
end
def wOwn (w : WF) : WE := fun δ M Q Er => w δ M (fun mo M' => Q (.r M'.length) (M' ++ [mo])) Er
def wFrz (w : WF) : WE := fun δ M Q Er => w δ M (frzK Q) Er
section
variable {X : Cx} {k : Nat} {e : Expr}
theorem DF.own {w : WF} (h : DF X k e w) : DE X k e (wOwn w) := .mk fun en δ M σ H F A Q Er hk hw hs q => (h.run en δ M σ H F A _ Er hk hw hs q).mono fun _ _ p => p.own
theorem DF.frz {w : WF} (h : DF X k e w) : DE X k e (wFrz w) := .mk fun en δ M σ H F A Q Er hk hw hs q => (h.run en δ M σ H F A _ Er hk hw hs q).mono fun _ _ p => p.frz
end

/-! ### names, constants -/
section
variable {X : Cx} {k : Nat}
def wVar (i : Nat) : WE := fun δ M Q _ => ∃ u, δ[i]? = some (some u) ∧ Q u M
theorem de_name {i : Nat} {e : Expr} (h : PE X e (tVar i)) : DE X k e (wVar i) := .mk fun en δ M σ H F A Q Er hk hw hs q => by
  obtain ⟨u, hu, q⟩ := q
  obtain ⟨v, hv, r⟩ := hw.sl i u hu
  exact tE.of h ⟨v, hv, .ret hw r q⟩
theorem dv (i : Nat) {x : Str} {pos : Pos} (hN : X.N[i]? = some x := by rfl) (hv : Vis X.env.scope x := by first | exact Or.inl rfl | exact Or.inr (Or.inl rfl) | exact Or.inr (Or.inr rfl)) (hd : (x == ("__debug__" : Str)) = false := by decide)
    (hcd : (x == ("__classdict__" : Str)) = false := by decide) : DE X k (.Name x pos) (wVar i) := de_name (pe_var hN hv hd hcd)
def wC (x : D) : WE := fun _ M Q _ => Q (.d x) M
theorem de_c {e : Expr} {v : V} {x : D} (h : PE X e (tC v)) (r : ∀ F, Rep X.K F x v) : DE X k e (wC x) := .mk fun en δ M σ H F A Q Er hk hw hs q => tE.of h (EPost.ret hw (u := .d x) (r F) q)
theorem de_int {i : Int} {j pos} : DE X k (.Constant (.int i) j pos) (wC (.int i)) := de_c pe_int fun _ => rfl
theorem de_bl {b : Bool} {j pos} : DE X k (.Constant (.bool b) j pos) (wC (.bl b)) := de_c pe_bl fun _ => rfl
theorem de_non {j pos} : DE X k (.Constant .none j pos) (wC .non) := de_c pe_non fun _ => rfl
/-- the signs of a written text -/
def sg (s : String) : List Nat := s.toList.map Char.toNat
theorem sg_ok (s : String) : (sg s).all (· < 0x110000) = true := by
  unfold sg
  rw [List.all_map, List.all_eq_true]
  intro c _
  have h := c.valid
  show decide (c.toNat < 0x110000) = true
  rw [decide_eq_true_iff]
  have : c.toNat = c.val.toNat := rfl
  rw [this]
  rcases h with h | ⟨_, h⟩
  · omega
  · omega
theorem str_sg (s : String) : Str.ofString s = ⟨(sg s).toArray⟩ := TL.ext_tl (by rw [TL.tl_ofString, TL.tl_mk]; rfl)
theorem de_str {s : String} {j pos} (hl : (sg s).length ≤ sizeLine := by decide +kernel) : DE X k (.Constant (.str (Str.ofString s)) j pos) (wC (.str (sg s))) :=
  de_c pe_str fun _ => ⟨by rw [str_sg], sg_ok s, hl⟩
end
/-! what the readings ask of an expression's form, by a glance -/
def nst : Expr → Bool
  | .Starred _ _ => false
  | _ => true
theorem star_c {e : Expr} {es : List Expr} {env : Env} (h : nst e = true) : starEach (e :: es) env = (false, eval e env) :: starEach es env := by
  cases e <;> first | rfl | cases h
theorem star_any {es : List Expr} {env : Env} {pos : Pos} : es.all nst = true → (backTo pos (starEach es env)).any (·.1) = false := by
  induction es with
  | nil => intro _; rfl
  | cons e es ih =>
    intro h
    rw [List.all_cons, Bool.and_eq_true] at h
    rw [star_c h.1]
    unfold backTo at ih ⊢
    rw [List.map_cons, List.any_cons, ih h.2]
    rfl
theorem star_all {es : List Expr} {env : Env} {pos : Pos} (h : es.all nst = true) : (backTo pos (starEach es env)).all (fun x => !x.1) = true := by
  have := star_any (env := env) (pos := pos) h
  rw [List.any_eq_false] at this
  rw [List.all_eq_true]
  intro x hx
  have := this x hx
  revert this
  cases x.1 <;> decide
theorem star_few {e : Expr} {es : List Expr} {env : Env} {pos : Pos} (h : (nst e && es.all nst && decide ((e :: es).length < 29)) = true) : ((backTo pos (starEach (e :: es) env)).all (fun x => !x.1) && (backToKw pos (keywordEach [] env)).all (fun x => x.1.isSome)
      && decide ((e :: es).length + ([] : List Keyword).length + (if ([] : List Keyword).isEmpty then 0 else 1) < 30)) = true := by
  rw [Bool.and_eq_true] at h
  rw [star_all (es := e :: es) (by rw [List.all_cons]; exact h.1)]
  have h2 := of_decide_eq_true h.2
  have : (e :: es).length + ([] : List Keyword).length + (if ([] : List Keyword).isEmpty then 0 else 1) < 30 := by
    show (e :: es).length + 0 + 0 < 30
    omega
  rw [decide_eq_true this]
  rfl
theorem kw_map {kws : List Keyword} {env : Env} {pos : Pos} : (backToKw pos (keywordEach kws env)).map (·.1) = kws.map (·.arg) := by
  induction kws with
  | nil => rfl
  | cons k kws ih =>
    obtain ⟨n, v, p⟩ := k
    show n :: (backToKw pos (keywordEach kws env)).map (·.1) = n :: kws.map (·.arg)
    rw [ih]
theorem kw_names {kws : List Keyword} {ks : List Str} {env : Env} {pos : Pos} (h : kws.map (·.arg) = ks.map some) : (backToKw pos (keywordEach kws env)).filterMap (·.1) = ks := by
  have e : (backToKw pos (keywordEach kws env)).filterMap (·.1) = ((backToKw pos (keywordEach kws env)).map (·.1)).filterMap id := by rw [List.filterMap_map]; rfl
  rw [e, kw_map, h, List.filterMap_map]
  show ks.filterMap some = ks
  exact List.filterMap_some
theorem kw_all {kws : List Keyword} {ks : List Str} {env : Env} {pos : Pos} (h : kws.map (·.arg) = ks.map some) : (backToKw pos (keywordEach kws env)).all (·.1.isSome) = true := by
  have e : (backToKw pos (keywordEach kws env)).all (·.1.isSome) = ((backToKw pos (keywordEach kws env)).map (·.1)).all (·.isSome) := by rw [List.all_map]; rfl
  rw [e, kw_map, h, List.all_map]
  rw [List.all_eq_true]; intro x _; rfl
theorem kw_none {kws : List Keyword} {ks : List Str} {env : Env} {pos : Pos} (h : kws.map (·.arg) = ks.map some) : (backToKw pos (keywordEach kws env)).any (·.1.isNone) = false := by
  have := kw_all (env := env) (pos := pos) h
  rw [List.any_eq_false]
  rw [List.all_eq_true] at this
  intro x hx
  have := this x hx
  intro h2
  cases q : x.1 with
  | none => rw [q] at this; cases this
  | some z => rw [q] at h2; cases h2
/-- an expression whose truth is asked of its value -/
def tvp : Expr → Bool
  | .UnaryOp .Not _ _ | .BoolOp _ _ _ | .IfExp _ _ _ _ | .Compare _ _ _ _ => false
  | _ => true
theorem tv_of {e : Expr} {env : Env} (h : tvp e = true) : ∀ whole, isTrue e env whole = (do let v ← whole; standAt e.pos; holding [v] (truthy v)) := by
  intro whole
  cases e
  case UnaryOp op _ _ => cases op <;> first | rfl | cases h
  all_goals first | rfl | cases h
/-- no slice -/
def nsl : Expr → Bool
  | .Slice _ _ _ _ => false
  | _ => true
theorem nsl_of {e : Expr} (h : nsl e = true) : ∀ ov iv, subscripted e false ov iv = operate [ov, iv] (getItem ov iv) := by
  intro o i
  cases e <;> first | rfl | cases h
end DL
namespace DL
open PySem PySem.Spec PyProof.Rows L2

/-! ### operators by values -/
abbrev F2 := U → U → List MO → UK → Prop
abbrev FF2 := U → U → List MO → (MO → List MO → Prop) → Prop
abbrev F1 := U → List MO → UK → Prop
abbrev FC := List U → List MO → UK → Prop
abbrev FFC := List U → List MO → (MO → List MO → Prop) → Prop
def L2E (K : PySem.W.Frag) (r : R2) (f : F2) : Prop := ∀ (en : En) (δ : Dl) (M : List MO) (σ : L2.St) (H F : Hp) (A : List Addr) (x y : U) (v w : V) (Q : UK) (R : VK), Wd K en δ M σ H F A → UR K F A x v → UR K F A y w → f x y M Q →
  (∀ v' H', EPost K en δ σ F A Q v' H' → R v' H') → r v w H R
def L2F (K : PySem.W.Frag) (r : R2) (f : FF2) : Prop := ∀ (en : En) (δ : Dl) (M : List MO) (σ : L2.St) (H F : Hp) (A : List Addr) (x y : U) (v w : V) (Q : MO → List MO → Prop) (R : VK), Wd K en δ M σ H F A → UR K F A x v → UR K F A y w → f x y M Q →
  (∀ v' H', FPost K en δ σ F A Q v' H' → R v' H') → r v w H R
def L1E (K : PySem.W.Frag) (r : V → Hp → VK → Prop) (f : F1) : Prop := ∀ (en : En) (δ : Dl) (M : List MO) (σ : L2.St) (H F : Hp) (A : List Addr) (x : U) (v : V) (Q : UK) (R : VK), Wd K en δ M σ H F A → UR K F A x v → f x M Q →
  (∀ v' H', EPost K en δ σ F A Q v' H' → R v' H') → r v H R
def LCE (K : PySem.W.Frag) (r : List V → Hp → VK → Prop) (f : FC) : Prop := ∀ (en : En) (δ : Dl) (M : List MO) (σ : L2.St) (H F : Hp) (A : List Addr) (us : List U) (vs : List V) (Q : UK) (R : VK), Wd K en δ M σ H F A → URs K F A us vs → f us M Q →
  (∀ v' H', EPost K en δ σ F A Q v' H' → R v' H') → r vs H R
def LCF (K : PySem.W.Frag) (r : List V → Hp → VK → Prop) (f : FFC) : Prop := ∀ (en : En) (δ : Dl) (M : List MO) (σ : L2.St) (H F : Hp) (A : List Addr) (us : List U) (vs : List V) (Q : MO → List MO → Prop) (R : VK), Wd K en δ M σ H F A → URs K F A us vs → f us M Q →
  (∀ v' H', FPost K en δ σ F A Q v' H' → R v' H') → r vs H R
def wBin (f : F2) (a b : WE) : WE := fun δ M Q Er => a δ M (fun x M1 => b δ M1 (fun y M2 => f x y M2 Q) Er) Er
def wBinF (f : FF2) (a b : WE) : WF := fun δ M Q Er => a δ M (fun x M1 => b δ M1 (fun y M2 => f x y M2 Q) Er) Er
def wUn (f : F1) (a : WE) : WE := fun δ M Q Er => a δ M (fun x M1 => f x M1 Q) Er
def wTst (w : WE) : WT := fun δ M Q Er => w δ M (fun u M1 => ∃ c, u = .d (.bl c) ∧ Q c M1) Er
section
variable {X : Cx} {k : Nat} {a b : Expr} {wa wb : WE} {pos : Pos} {r : R2}
theorem two {f : F2} (hl : L2E X.K r f) (ha : DE X k a wa) (hb : DE X k b wb) {e : Expr} (h : ∀ σ H Q, (tE X a σ H fun x H1 => tE X b σ H1 fun y H2 => r x y H2 Q) → tE X e σ H Q) : DE X k e (wBin f wa wb) :=
  .mk fun en δ M σ H F A Q Er hk hw hs q => by
    refine h _ _ _ ((ha.run en δ M σ H F A _ Er hk hw hs q).mono ?_)
    rintro v H1 ⟨x, M1, F1, A1, w1, g1, r1, q1⟩
    refine (hb.run en δ M1 σ H1 F1 A1 _ Er hk w1 hs q1).mono ?_
    rintro w H2 ⟨y, M2, F2, A2, w2, g2, r2, q2⟩
    exact hl en δ M2 σ H2 F2 A2 x y v w Q _ w2 (r1.mono g2) r2 q2 fun v' H' p => p.up (g1.trans g2)
theorem twoF {f : FF2} (hl : L2F X.K r f) (ha : DE X k a wa) (hb : DE X k b wb) {e : Expr} (h : ∀ σ H Q, (tE X a σ H fun x H1 => tE X b σ H1 fun y H2 => r x y H2 Q) → tE X e σ H Q) : DF X k e (wBinF f wa wb) :=
  .mk fun en δ M σ H F A Q Er hk hw hs q => by
    refine h _ _ _ ((ha.run en δ M σ H F A _ Er hk hw hs q).mono ?_)
    rintro v H1 ⟨x, M1, F1, A1, w1, g1, r1, q1⟩
    refine (hb.run en δ M1 σ H1 F1 A1 _ Er hk w1 hs q1).mono ?_
    rintro w H2 ⟨y, M2, F2, A2, w2, g2, r2, q2⟩
    exact hl en δ M2 σ H2 F2 A2 x y v w Q _ w2 (r1.mono g2) r2 q2 fun v' H' p => p.up (g1.trans g2)
theorem de_op {op : Operator} {f : F2} (ho : OpR X (binaryOp op) r) (hl : L2E X.K r f) (ha : DE X k a wa) (hb : DE X k b wb) : DE X k (.BinOp a op b pos) (wBin f wa wb) :=
  two hl ha hb fun _ _ _ q => tE.of (pe_op ho pe_tE pe_tE) q
theorem df_op {op : Operator} {f : FF2} (ho : OpR X (binaryOp op) r) (hl : L2F X.K r f) (ha : DE X k a wa) (hb : DE X k b wb) : DF X k (.BinOp a op b pos) (wBinF f wa wb) :=
  twoF hl ha hb fun _ _ _ q => tE.of (pe_op ho pe_tE pe_tE) q
theorem de_cmp {op : CmpOp} {f : F2} (ho : OpR X (compareOp op) r) (hl : L2E X.K r f) (ha : DE X k a wa) (hb : DE X k b wb) (hm : behindInMarks op b = false := by first | exact nomark _ | rfl) : DE X k (.Compare a [op] [b] pos) (wBin f wa wb) :=
  two hl ha hb fun _ _ _ q => tE.of (pe_cmpR ho pe_tE pe_tE hm) q
theorem de_ix {f : F2} (ho : IxR X r) (hl : L2E X.K r f) (ha : DE X k a wa) (hb : DE X k b wb) (hs_ : nsl b = true := by rfl) : DE X k (.Subscript a b pos) (wBin f wa wb) :=
  two hl ha hb fun _ _ _ q => tE.of (pe_ix ho pe_tE pe_tE (nsl_of hs_)) q
theorem de_un {op : UnaryOp} {r : V → Hp → VK → Prop} {f : F1} (ho : UnR X (unaryOp op) r) (hl : L1E X.K r f) (ha : DE X k a wa) : DE X k (.UnaryOp op a pos) (wUn f wa) :=
  .mk fun en δ M σ H F A Q Er hk hw hs q => by
    refine tE.of (pe_un ho pe_tE) ((ha.run en δ M σ H F A _ Er hk hw hs q).mono ?_)
    rintro v H1 ⟨x, M1, F1, A1, w1, g1, r1, q1⟩
    exact hl en δ M1 σ H1 F1 A1 x v Q _ w1 r1 q1 fun v' H' p => p.up g1
/-! ### tests -/
theorem dt_cmp {op : CmpOp} {f : F2} (ho : OpR X (compareOp op) r) (hl : L2E X.K r f) (ha : DE X k a wa) (hb : DE X k b wb) (hm : behindInMarks op b = false := by first | exact nomark _ | rfl) : DT X k (.Compare a [op] [b] pos) (wTst (wBin f wa wb)) :=
  .mk fun en δ M σ H F A Q Er hk hw hs q => by
    refine tT.of (pt_cmpR ho pe_tE pe_tE hm) ((ha.run en δ M σ H F A _ Er hk hw hs q).mono ?_)
    rintro v H1 ⟨x, M1, F1, A1, w1, g1, r1, q1⟩
    refine (hb.run en δ M1 σ H1 F1 A1 _ Er hk w1 hs q1).mono ?_
    rintro w H2 ⟨y, M2, F2, A2, w2, g2, r2, q2⟩
    refine hl en δ M2 σ H2 F2 A2 x y v w _ _ w2 (r1.mono g2) r2 q2 ?_
    rintro v' H' ⟨u, M3, F3, A3, w3, g3, r3, c, rfl, q3⟩
    exact ⟨c, r3, M3, F3, A3, w3, (g1.trans g2).trans g3, q3⟩
theorem dt_val (ha : DE X k a wa) (he_ : tvp a = true := by rfl) : DT X k a (wTst wa) :=
  .mk fun en δ M σ H F A Q Er hk hw hs q => by
    refine tT.of (pt_val pe_tE (tv_of he_)) ((ha.run en δ M σ H F A _ Er hk hw hs q).mono ?_)
    rintro v H1 ⟨x, M1, F1, A1, w1, g1, r1, c, rfl, q1⟩
    exact ⟨c, r1, M1, F1, A1, w1, g1, q1⟩
end
def cnd (c : Bool) (A B : Prop) : Prop := match c with
  | true => A
  | false => B
theorem cndI {c : Bool} {A B : Prop} (h1 : c = true → A) (h2 : c = false → B) : cnd c A B := by
  cases c with
  | true => exact h1 rfl
  | false => exact h2 rfl
theorem cndT {c : Bool} {A B : Prop} (e : c = true) (h : A) : cnd c A B := by subst e; exact h
theorem cndF {c : Bool} {A B : Prop} (e : c = false) (h : B) : cnd c A B := by subst e; exact h
def wAnd (t u : WT) : WT := fun δ M Q Er => t δ M (fun c M1 => cnd c (u δ M1 Q Er) (Q false M1)) Er
def wOr (t u : WT) : WT := fun δ M Q Er => t δ M (fun c M1 => cnd c (Q true M1) (u δ M1 Q Er)) Er
def wNot (t : WT) : WT := fun δ M Q Er => t δ M (fun c M1 => Q (!c) M1) Er
def wIfE (t : WT) (a b : WE) : WE := fun δ M Q Er => t δ M (fun c M1 => cnd c (a δ M1 Q Er) (b δ M1 Q Er)) Er
section
variable {X : Cx} {k : Nat} {a b : Expr} {rest : List Expr} {ta tb : WT} {pos : Pos}
theorem if_cnd {c : Bool} {A B : Prop} (h : cnd c A B) : if c = true then A else B := by
  cases c with
  | true => exact h
  | false => exact h
theorem DW.pt (h : DW X k a ta) : DT X k a ta := .mk fun en δ M σ H F A Q Er hk hw hs q => tT.of pw_tW.pt (h.run en δ M σ H F A Q Er hk hw hs q)
theorem dw_and1 (ha : DT X k a ta) : DW X k (.BoolOp .And [a] pos) ta := .mk fun en δ M σ H F A Q Er hk hw hs q => tW.of (pw_and1 pt_tT) (ha.run en δ M σ H F A Q Er hk hw hs q)
theorem dw_or1 (ha : DT X k a ta) : DW X k (.BoolOp .Or [a] pos) ta := .mk fun en δ M σ H F A Q Er hk hw hs q => tW.of (pw_or1 pt_tT) (ha.run en δ M σ H F A Q Er hk hw hs q)
theorem dw_and (ha : DT X k a ta) (hb : DW X k (.BoolOp .And (b :: rest) pos) tb) : DW X k (.BoolOp .And (a :: b :: rest) pos) (wAnd ta tb) := .mk fun en δ M σ H F A Q Er hk hw hs q => by
  refine tW.of (pw_and pt_tT pw_tW) ((ha.run en δ M σ H F A _ Er hk hw hs q).mono ?_)
  rintro c H1 ⟨M1, F1, A1, w1, g1, q1⟩
  refine if_cnd ?_
  cases c with
  | true => exact (hb.run en δ M1 σ H1 F1 A1 _ Er hk w1 hs q1).mono fun _ _ p => p.up g1
  | false => exact ⟨M1, F1, A1, w1, g1, q1⟩
theorem dw_or (ha : DT X k a ta) (hb : DW X k (.BoolOp .Or (b :: rest) pos) tb) : DW X k (.BoolOp .Or (a :: b :: rest) pos) (wOr ta tb) := .mk fun en δ M σ H F A Q Er hk hw hs q => by
  refine tW.of (pw_or pt_tT pw_tW) ((ha.run en δ M σ H F A _ Er hk hw hs q).mono ?_)
  rintro c H1 ⟨M1, F1, A1, w1, g1, q1⟩
  refine if_cnd ?_
  cases c with
  | true => exact ⟨M1, F1, A1, w1, g1, q1⟩
  | false => exact (hb.run en δ M1 σ H1 F1 A1 _ Er hk w1 hs q1).mono fun _ _ p => p.up g1
theorem dt_not (ha : DT X k a ta) : DT X k (.UnaryOp .Not a pos) (wNot ta) := .mk fun en δ M σ H F A Q Er hk hw hs q => by
  refine tT.of (pt_not pt_tT) ((ha.run en δ M σ H F A _ Er hk hw hs q).mono ?_)
  rintro c H1 ⟨M1, F1, A1, w1, g1, q1⟩
  exact ⟨M1, F1, A1, w1, g1, q1⟩
theorem de_ifExp {c : Expr} {wa wb : WE} {tc : WT} (hc : DT X k c tc) (ha : DE X k a wa) (hb : DE X k b wb) : DE X k (.IfExp c a b pos) (wIfE tc wa wb) := .mk fun en δ M σ H F A Q Er hk hw hs q => by
  refine tE.of (pe_ifExp pt_tT pe_tE pe_tE) ((hc.run en δ M σ H F A _ Er hk hw hs q).mono ?_)
  rintro c H1 ⟨M1, F1, A1, w1, g1, q1⟩
  refine if_cnd ?_
  cases c with
  | true => exact (ha.run en δ M1 σ H1 F1 A1 _ Er hk w1 hs q1).mono fun _ _ p => p.up g1
  | false => exact (hb.run en δ M1 σ H1 F1 A1 _ Er hk w1 hs q1).mono fun _ _ p => p.up g1
/-! and, or, not as values (bools) -/
def wAndV (a b : WE) : WE := fun δ M Q Er => a δ M (fun u M1 => ∃ c, u = .d (.bl c) ∧ cnd c (b δ M1 Q Er) (Q (.d (.bl false)) M1)) Er
def wOrV (a b : WE) : WE := fun δ M Q Er => a δ M (fun u M1 => ∃ c, u = .d (.bl c) ∧ cnd c (Q (.d (.bl true)) M1) (b δ M1 Q Er)) Er
def wNotV (a : WE) : WE := fun δ M Q Er => a δ M (fun u M1 => ∃ c, u = .d (.bl c) ∧ Q (.d (.bl (!c))) M1) Er
theorem de_one {op} {wa : WE} (ha : DE X k a wa) : DE X k (.BoolOp op [a] pos) wa := .mk fun en δ M σ H F A Q Er hk hw hs q => tE.of (pe_one pe_tE) (ha.run en δ M σ H F A Q Er hk hw hs q)
theorem de_and {wa wb : WE} (ha : DE X k a wa) (hb : DE X k (.BoolOp .And (b :: rest) pos) wb) : DE X k (.BoolOp .And (a :: b :: rest) pos) (wAndV wa wb) := .mk fun en δ M σ H F A Q Er hk hw hs q => by
  refine tE.of (pe_and pe_tE pe_tE) ((ha.run en δ M σ H F A _ Er hk hw hs q).mono ?_)
  rintro v H1 ⟨u, M1, F1, A1, w1, g1, r1, c, rfl, q1⟩
  refine ⟨c, r1, if_cnd ?_⟩
  cases c with
  | true => exact (hb.run en δ M1 σ H1 F1 A1 _ Er hk w1 hs q1).mono fun _ _ p => p.up g1
  | false => exact ⟨.d (.bl false), M1, F1, A1, w1, g1, rfl, q1⟩
theorem de_or {wa wb : WE} (ha : DE X k a wa) (hb : DE X k (.BoolOp .Or (b :: rest) pos) wb) : DE X k (.BoolOp .Or (a :: b :: rest) pos) (wOrV wa wb) := .mk fun en δ M σ H F A Q Er hk hw hs q => by
  refine tE.of (pe_or pe_tE pe_tE) ((ha.run en δ M σ H F A _ Er hk hw hs q).mono ?_)
  rintro v H1 ⟨u, M1, F1, A1, w1, g1, r1, c, rfl, q1⟩
  refine ⟨c, r1, if_cnd ?_⟩
  cases c with
  | true => exact ⟨.d (.bl true), M1, F1, A1, w1, g1, rfl, q1⟩
  | false => exact (hb.run en δ M1 σ H1 F1 A1 _ Er hk w1 hs q1).mono fun _ _ p => p.up g1
theorem de_not {wa : WE} (ha : DE X k a wa) : DE X k (.UnaryOp .Not a pos) (wNotV wa) := .mk fun en δ M σ H F A Q Er hk hw hs q => by
  refine tE.of (pe_not pe_tE) ((ha.run en δ M σ H F A _ Er hk hw hs q).mono ?_)
  rintro v H1 ⟨u, M1, F1, A1, w1, g1, r1, c, rfl, q1⟩
  exact ⟨c, r1, ⟨.d (.bl (!c)), M1, F1, A1, w1, g1, rfl, q1⟩⟩
end

/-! ### arguments, tuples, lists -/
def wNil : WA := fun _ M Q _ => Q [] M
def wCons (a : WE) (r : WA) : WA := fun δ M Q Er => a δ M (fun u M1 => r δ M1 (fun us M2 => Q (u :: us) M2) Er) Er
def wTup (a : WA) : WE := fun δ M Q Er => a δ M (fun us M1 => match datas us with | some ds => Q (.d (.tup ds)) M1 | none => False) Er
def wLst (a : WA) : WF := fun δ M Q Er => a δ M (fun us M1 => match datas us with | some ds => Q (.lst ds) M1 | none => Q (.box us) M1) Er
section
variable {X : Cx} {k : Nat} {e : Expr} {es : List Expr} {pos : Pos}
theorem da_nil : DA X k [] wNil := .mk fun en δ M σ H F A Q Er hk hw hs q => tA.of pa_nil ⟨[], M, F, A, hw, Gr.refl, rfl, rfl, q⟩
theorem da_cons {wa : WE} {wr : WA} (ha : DE X k e wa) (hr : DA X k es wr) (h_ : nst e = true := by rfl) : DA X k (e :: es) (wCons wa wr) := .mk fun en δ M σ H F A Q Er hk hw hs q => by
  refine tA.of (pa_cons pe_tE pa_tA (star_c h_)) ((ha.run en δ M σ H F A _ Er hk hw hs q).mono ?_)
  rintro v H1 ⟨u, M1, F1, A1, w1, g1, r1, q1⟩
  refine (hr.run en δ M1 σ H1 F1 A1 _ Er hk w1 hs q1).mono ?_
  rintro vs H2 ⟨us, M2, F2, A2, w2, g2, r2, l2, q2⟩
  exact ⟨u :: us, M2, F2, A2, w2, g1.trans g2, ⟨v, vs, rfl, r1.mono g2, r2⟩, by rw [List.length_cons, l2]; rfl, q2⟩
theorem de_tup {wa : WA} {x1 : Nat} (ha : DA X k es wa) (hz : es.length ≤ sizeLine := by decide) : DE X k (.Tuple es x1 pos) (wTup wa) := .mk fun en δ M σ H F A Q Er hk hw hs q => by
  refine tE.of (pe_tup pa_tA) ((ha.run en δ M σ H F A _ Er hk hw hs q).mono ?_)
  rintro vs H1 ⟨us, M1, F1, A1, w1, g1, r1, l1, q1⟩
  refine ⟨by rw [r1.length, l1]; exact hz, fun p hp => ?_⟩
  cases hd : datas us with
  | none => rw [hd] at q1; exact q1.elim
  | some ds =>
    rw [hd] at q1
    obtain ⟨w2, g2⟩ := w1.laid (o := .tup vs) hp
    exact ⟨.d (.tup ds), M1, _, A1, w2, g1.trans g2, ⟨p, vs, rfl, upd_same, (r1.datas hd).mono g2.1⟩, q1⟩
theorem df_lst {wa : WA} (ha : DA X k es wa) (hz : es.length ≤ sizeLine := by decide) : DF X k (.List es pos) (wLst wa) := .mk fun en δ M σ H F A Q Er hk hw hs q => by
  refine tE.of (pe_lst pa_tA) ((ha.run en δ M σ H F A _ Er hk hw hs q).mono ?_)
  rintro vs H1 ⟨us, M1, F1, A1, w1, g1, r1, l1, q1⟩
  refine ⟨by rw [r1.length, l1]; exact hz, fun p hp => ?_⟩
  cases hd : datas us with
  | none =>
    rw [hd] at q1
    exact ⟨H1, .box us, M1, F1, A1, p, .lst vs, rfl, hp, rfl, w1, g1, ⟨vs, rfl, r1⟩, q1⟩
  | some ds =>
    rw [hd] at q1
    exact ⟨H1, .lst ds, M1, F1, A1, p, .lst vs, rfl, hp, rfl, w1, g1, ⟨vs, rfl, r1.datas hd⟩, q1⟩
end

/-! ### calls of built-ins, methods of built-in types -/
def wCB (f : FC) (a : WA) : WE := fun δ M Q Er => a δ M (fun us M1 => f us M1 Q) Er
def wCBF (f : FFC) (a : WA) : WF := fun δ M Q Er => a δ M (fun us M1 => f us M1 Q) Er
section
variable {X : Cx} {k : Nat} {e : Expr} {es : List Expr} {x : Str} {p pos : Pos} {id T : String} {r : List V → Hp → VK → Prop} {wa : WA}
theorem call_e {f : FC} (hl : LCE X.K r f) (ha : DA X k es wa) {e : Expr} (h : ∀ σ H Q, (tA X es σ H fun vs H1 => r vs H1 Q) → tE X e σ H Q) : DE X k e (wCB f wa) := .mk fun en δ M σ H F A Q Er hk hw hs q => by
  refine h _ _ _ ((ha.run en δ M σ H F A _ Er hk hw hs q).mono ?_)
  rintro vs H1 ⟨us, M1, F1, A1, w1, g1, r1, l1, q1⟩
  exact hl en δ M1 σ H1 F1 A1 us vs Q _ w1 r1 q1 fun v' H' p => p.up g1
theorem call_f {f : FFC} (hl : LCF X.K r f) (ha : DA X k es wa) {e : Expr} (h : ∀ σ H Q, (tA X es σ H fun vs H1 => r vs H1 Q) → tE X e σ H Q) : DF X k e (wCBF f wa) := .mk fun en δ M σ H F A Q Er hk hw hs q => by
  refine h _ _ _ ((ha.run en δ M σ H F A _ Er hk hw hs q).mono ?_)
  rintro vs H1 ⟨us, M1, F1, A1, w1, g1, r1, l1, q1⟩
  exact hl en δ M1 σ H1 F1 A1 us vs Q _ w1 r1 q1 fun v' H' p => p.up g1
end
end DL
namespace DL
open PySem PySem.Spec PyProof.Rows L2

/-! ### what stands in lists, tuples -/
def mlst : Option MO → Option (List D)
  | some (.lst ds) => some ds
  | _ => none
def lstOf (M : List MO) : U → Option (List D)
  | .d (.lst ds) => some ds
  | .r n => mlst M[n]?
  | _ => none
/-- any list, any tuple -/
def seqOf (M : List MO) : U → Option (List D)
  | .d (.tup ds) => some ds
  | .d (.scr ds) => some ds
  | u => lstOf M u
section
variable {K : PySem.W.Frag} {en : En} {δ : Dl} {M : List MO} {σ : L2.St} {H F : Hp} {A : List Addr}
theorem Wd.at (w : Wd K en δ M σ H F A) {n : Nat} {m : MO} (h : M[n]? = some m) : ∃ a, A[n]? = some a ∧ MOk K F A H a m := by
  have hn : n < A.length := by rw [w.len]; exact (List.getElem?_eq_some_iff.mp h).1
  exact ⟨A[n], List.getElem?_eq_getElem hn, w.mem n _ m (List.getElem?_eq_getElem hn) h⟩
theorem lstOf_at (w : Wd K en δ M σ H F A) {u : U} {v : V} {ds : List D} (h : lstOf M u = some ds) (r : UR K F A u v) : ∃ a vs, v = .ref a ∧ H a = some (.lst vs) ∧ Reps K F ds vs := by
  cases u with
  | r n =>
    obtain ⟨a, ha, rfl⟩ := r
    have h : mlst M[n]? = some ds := h
    cases hm : M[n]? with
    | none => rw [hm] at h; cases h
    | some m =>
      rw [hm] at h
      cases m with
      | lst es =>
        cases h
        obtain ⟨a', ha', vs, h1, h2⟩ := w.at hm
        rw [ha] at ha'; cases ha'
        exact ⟨a, vs, rfl, h1, h2⟩
      | _ => cases h
  | d x =>
    cases x with
    | lst es =>
      cases h
      obtain ⟨a, xs, rfl, h1, h2⟩ := r
      exact ⟨a, xs, rfl, w.sub _ _ h1, h2⟩
    | _ => cases h
theorem seqOf_at (w : Wd K en δ M σ H F A) {u : U} {v : V} {ds : List D} (h : seqOf M u = some ds) (r : UR K F A u v) : ∃ a vs, v = .ref a ∧ (SqL K H a vs ∨ SqT K H a vs) ∧ Reps K F ds vs := by
  have go : lstOf M u = some ds → ∃ a vs, v = .ref a ∧ (SqL K H a vs ∨ SqT K H a vs) ∧ Reps K F ds vs := fun h => by
    obtain ⟨a, vs, e, h1, h2⟩ := lstOf_at w h r
    exact ⟨a, vs, e, .inl (.inl (.inl h1)), h2⟩
  cases u with
  | r n => exact go h
  | d x =>
    cases x with
    | tup es =>
      cases h
      obtain ⟨a, xs, rfl, h1, h2⟩ := r
      exact ⟨a, xs, rfl, .inr (.inl (.inl (w.sub _ _ h1))), h2⟩
    | scr es =>
      cases h
      obtain ⟨a, xs, rfl, h1, h2⟩ := r
      exact ⟨a, xs, rfl, .inl (w.sub.seq h1), h2⟩
    | _ => exact go h
end

/-! ### == of data -/
mutual
def py : D → PyData
  | .non => .none
  | .bl b => .bool b
  | .int i => .int i
  | .str s => .str ⟨s.toArray⟩
  | .tup ds => .tuple (pys ds)
  | .lst ds => .list (pys ds)
  | .scr _ => .none
  | .dic _ _ _ => .none
  | .obj _ => .none
def pys : List D → List PyData
  | [] => []
  | d :: ds => py d :: pys ds
end
mutual
/-- data of at most that depth -/
def shpN : Nat → D → Bool
  | _, .non => true
  | _, .bl _ => true
  | _, .int _ => true
  | _, .str _ => true
  | n + 1, .tup ds => shpNs n ds
  | n + 1, .lst ds => shpNs n ds
  | _, _ => false
def shpNs : Nat → List D → Bool
  | _, [] => true
  | n, d :: ds => shpN n d && shpNs n ds
end
abbrev shp (d : D) : Bool := shpN 60 d
mutual
def eqD : D → D → Bool
  | .non, .non => true
  | .bl a, .bl b => a == b
  | .bl a, .int j => (if a then 1 else 0) == j
  | .int i, .bl b => i == (if b then 1 else 0)
  | .int i, .int j => i == j
  | .str x, .str y => x == y
  | .tup xs, .tup ys => eqDs xs ys
  | .lst xs, .lst ys => eqDs xs ys
  | _, _ => false
def eqDs : List D → List D → Bool
  | [], [] => true
  | x :: xs, y :: ys => eqD x y && eqDs xs ys
  | _, _ => false
end
theorem shpNs_all (n : Nat) : ∀ ds : List D, shpNs n ds = ds.all (shpN n)
  | [] => by unfold shpNs; rfl
  | d :: ds => by unfold shpNs; rw [shpNs_all n ds, List.all_cons]
mutual
theorem eqv_py : ∀ (n m : Nat) (x y : D), shpN n x = true → shpN m y = true → PyData.eqv (py x) (py y) = eqD x y
  | n, m, x, y, hx, hy => by
    cases x <;> first | (unfold shpN at hx; cases hx; done) | (cases y <;> first | (unfold shpN at hy; cases hy; done) | (simp only [py, PyData.eqv, eqD]; done) | skip)
    case str.str a b =>
      simp only [py, PyData.eqv, eqD]
      rw [Bool.eq_iff_iff]
      simp
    case tup.tup xs ys =>
      simp only [py, PyData.eqv, eqD]
      cases n with
      | zero => unfold shpN at hx; cases hx
      | succ n =>
        cases m with
        | zero => unfold shpN at hy; cases hy
        | succ m =>
          unfold shpN at hx hy
          exact eqv_pys n m xs ys hx hy
    case lst.lst xs ys =>
      simp only [py, PyData.eqv, eqD]
      cases n with
      | zero => unfold shpN at hx; cases hx
      | succ n =>
        cases m with
        | zero => unfold shpN at hy; cases hy
        | succ m =>
          unfold shpN at hx hy
          exact eqv_pys n m xs ys hx hy
theorem eqv_pys : ∀ (n m : Nat) (xs ys : List D), shpNs n xs = true → shpNs m ys = true → PyData.eqvAll (pys xs) (pys ys) = eqDs xs ys
  | n, m, [], [], _, _ => by simp only [pys, PyData.eqvAll, eqDs]
  | n, m, [], y :: ys, _, _ => by simp only [pys, PyData.eqvAll, eqDs]
  | n, m, x :: xs, [], _, _ => by simp only [pys, PyData.eqvAll, eqDs]
  | n, m, x :: xs, y :: ys, hx, hy => by
    unfold shpNs at hx hy
    rw [Bool.and_eq_true] at hx hy
    simp only [pys, PyData.eqvAll, eqDs]
    rw [eqv_py n m x y hx.1 hy.1, eqv_pys n m xs ys hx.2 hy.2]
end
mutual
theorem depth_py : ∀ (n : Nat) (x : D), shpN n x = true → (py x).depth ≤ n
  | n, x, h => by
    cases x <;> first | (unfold shpN at h; cases h; done) | (simp only [py, PyData.depth]; omega) | skip
    case tup ds =>
      cases n with
      | zero => unfold shpN at h; cases h
      | succ n =>
        unfold shpN at h
        simp only [py, PyData.depth]
        have := depth_pys n ds h
        omega
    case lst ds =>
      cases n with
      | zero => unfold shpN at h; cases h
      | succ n =>
        unfold shpN at h
        simp only [py, PyData.depth]
        have := depth_pys n ds h
        omega
theorem depth_pys : ∀ (n : Nat) (xs : List D), shpNs n xs = true → PyData.depthAll (pys xs) ≤ n
  | n, [], _ => by simp only [pys, PyData.depthAll]; omega
  | n, x :: xs, h => by
    unfold shpNs at h
    rw [Bool.and_eq_true] at h
    simp only [pys, PyData.depthAll]
    have h1 := depth_py n x h.1
    have h2 := depth_pys n xs h.2
    omega
end
section
variable {K : PySem.W.Frag} {F H : Hp}
mutual
theorem dp_of (hs : Same F H) : ∀ (n : Nat) (x : D) (v : V), shpN n x = true → Rep K F x v → Dp K H v (py x) ∧ PyData.canLay0 (py x) = true
  | n, .non, v, _, r => by cases (show v = .non from r); simp only [py, PyData.canLay0]; exact ⟨.non, trivial⟩
  | n, .bl b, v, _, r => by cases (show v = .bl b from r); simp only [py, PyData.canLay0]; exact ⟨.bl b, trivial⟩
  | n, .int i, v, _, r => by cases (show v = .int i from r); simp only [py, PyData.canLay0]; exact ⟨.int i, trivial⟩
  | n, .str s, v, _, r => by
    obtain ⟨rfl, h, _⟩ := r
    simp only [py, PyData.canLay0]
    refine ⟨.str _, ?_⟩
    unfold PyData.strOk
    simpa using h
  | 0, .tup ds, v, h, r => by unfold shpN at h; cases h
  | 0, .lst ds, v, h, r => by unfold shpN at h; cases h
  | n + 1, .tup ds, v, h, r => by
    unfold shpN at h
    obtain ⟨a, xs, rfl, h1, h2⟩ := r
    obtain ⟨q1, q2⟩ := dps_of hs n ds xs h h2
    simp only [py, PyData.canLay0]
    exact ⟨.tup (.inl (.inl (hs _ _ h1))) q1, q2⟩
  | n + 1, .lst ds, v, h, r => by
    unfold shpN at h
    obtain ⟨a, xs, rfl, h1, h2⟩ := r
    obtain ⟨q1, q2⟩ := dps_of hs n ds xs h h2
    simp only [py, PyData.canLay0]
    exact ⟨.lst (.inl (.inl (hs _ _ h1))) q1, q2⟩
  | n, .scr _, v, h, r => by unfold shpN at h; cases h
  | n, .dic _ _ _, v, h, r => by unfold shpN at h; cases h
  | n, .obj _, v, h, r => by unfold shpN at h; cases h
theorem dps_of (hs : Same F H) : ∀ (n : Nat) (xs : List D) (vs : List V), shpNs n xs = true → Reps K F xs vs → DpAll K H vs (pys xs) ∧ PyData.canLayAll0 (pys xs) = true
  | n, [], vs, _, r => by cases (show vs = [] from r); simp only [pys, PyData.canLayAll0]; exact ⟨.nil, trivial⟩
  | n, x :: xs, vs, h, r => by
    obtain ⟨v, w, rfl, r1, r2⟩ := r
    unfold shpNs at h
    rw [Bool.and_eq_true] at h
    obtain ⟨a1, a2⟩ := dp_of hs n x v h.1 r1
    obtain ⟨b1, b2⟩ := dps_of hs n xs w h.2 r2
    simp only [pys, PyData.canLayAll0]
    exact ⟨.cons a1 b1, by rw [a2, b2]; rfl⟩
end
end
/-- the data that a value is, a mutable list as it stands -/
def dataOf (M : List MO) : U → Option D
  | .d x => some x
  | .r n => (mlst M[n]?).map .lst
theorem dp_dataOf {K : PySem.W.Frag} {en : En} {δ : Dl} {M : List MO} {σ : L2.St} {H F : Hp} {A : List Addr} (w : Wd K en δ M σ H F A) {u : U} {v : V} {x : D} (h : dataOf M u = some x) (r : UR K F A u v) (hs : shp x = true) :
    Dp K H v (py x) ∧ SeqAt.shaped (py x) = true := by
  have fin : ∀ y : D, shp y = true → PyData.canLay0 (py y) = true → SeqAt.shaped (py y) = true := fun y h1 h2 => by
    unfold SeqAt.shaped
    rw [h2, Bool.true_and, decide_eq_true_iff]
    exact Nat.le_trans (depth_py 60 y h1) (by decide)
  cases u with
  | d y =>
    cases h
    obtain ⟨a, b⟩ := dp_of w.sub 60 x v hs r
    exact ⟨a, fin x hs b⟩
  | r n =>
    have h : (mlst M[n]?).map D.lst = some x := h
    cases hm : mlst M[n]? with
    | none => rw [hm] at h; cases h
    | some ds =>
      rw [hm] at h
      cases h
      have e : lstOf M (.r n) = some ds := hm
      obtain ⟨a, vs, rfl, h1, h2⟩ := lstOf_at w e r
      have hs' : shpNs 59 ds = true := by
        have q := hs
        unfold shp shpN at q
        exact q
      obtain ⟨b1, b2⟩ := dps_of w.sub 59 ds vs hs' h2
      have c1 : Dp K H (.ref a) (py (.lst ds)) := by
        simp only [py]
        exact .lst (.inl (.inl h1)) b1
      have c2 : PyData.canLay0 (py (.lst ds)) = true := by
        simp only [py, PyData.canLay0]
        exact b2
      exact ⟨c1, fin _ hs c2⟩
def fEq (neg : Bool) : F2 := fun x y M Q => ∃ a b, dataOf M x = some a ∧ dataOf M y = some b ∧ shp a = true ∧ shp b = true ∧ Q (.d (.bl (if neg then !eqD a b else eqD a b))) M
theorem l2_eq {K : PySem.W.Frag} : L2E K (rEqD K) (fEq false) := fun en δ M σ H F A x y v w Q R hw rx ry ⟨a, b, ha, hb, sa, sb, q⟩ h => by
  obtain ⟨d1, s1⟩ := dp_dataOf hw ha rx sa
  obtain ⟨d2, s2⟩ := dp_dataOf hw hb ry sb
  exact ⟨_, _, d1, d2, s1, s2, h _ _ (.ret hw (u := .d (.bl (eqD a b))) (by rw [eqv_py 60 60 a b sa sb]; rfl) q)⟩
theorem l2_ne {K : PySem.W.Frag} : L2E K (rNeD K) (fEq true) := fun en δ M σ H F A x y v w Q R hw rx ry ⟨a, b, ha, hb, sa, sb, q⟩ h => by
  obtain ⟨d1, s1⟩ := dp_dataOf hw ha rx sa
  obtain ⟨d2, s2⟩ := dp_dataOf hw hb ry sb
  exact ⟨_, _, d1, d2, s1, s2, h _ _ (.ret hw (u := .d (.bl (!eqD a b))) (by rw [eqv_py 60 60 a b sa sb]; rfl) q)⟩

/-! ### numbers -/
def fI0 (G : Int → Int → D) : F2 := fun x y M Q => match x, y with
  | .d (.int i), .d (.int j) => Q (.d (G i j)) M
  | _, _ => False
def fI (C : Int → Int → Prop) (G : Int → Int → D) : F2 := fun x y M Q => match x, y with
  | .d (.int i), .d (.int j) => C i j ∧ Q (.d (G i j)) M
  | _, _ => False
section
variable {K : PySem.W.Frag}
theorem l2_I0 {g : Int → Int → V} {G : Int → Int → D} (hg : ∀ i j F, Rep K F (G i j) (g i j)) : L2E K (rI0 g) (fI0 G) := fun en δ M σ H F A x y v w Q R hw rx ry q h => by
  unfold fI0 at q
  split at q
  · next i j =>
    cases (show v = .int i from rx)
    cases (show w = .int j from ry)
    exact ⟨i, j, rfl, rfl, h _ _ (.ret hw (u := .d (G i j)) (hg i j F) q)⟩
  · exact q.elim
theorem l2_I {C : Int → Int → Prop} {g : Int → Int → V} {G : Int → Int → D} (hg : ∀ i j F, Rep K F (G i j) (g i j)) : L2E K (rI C g) (fI C G) := fun en δ M σ H F A x y v w Q R hw rx ry q h => by
  unfold fI at q
  split at q
  · next i j =>
    cases (show v = .int i from rx)
    cases (show w = .int j from ry)
    exact ⟨i, j, rfl, rfl, q.1, h _ _ (.ret hw (u := .d (G i j)) (hg i j F) q.2)⟩
  · exact q.elim
end
theorem opr_or {X : Cx} {f : Value → Value → Sem Value} {r r' : R2} (a : OpR X f r) (b : OpR X f r') : OpR X f (fun x y H Q => r x y H Q ∨ r' x y H Q) := by
  intro pins s σ H x y v u Q I rx ry h
  rcases h with h | h
  · exact a pins s σ H x y v u Q I rx ry h
  · exact b pins s σ H x y v u Q I rx ry h
abbrev rStrCat : R2 := fun x y H Q => ∃ i j, x = .str i ∧ y = .str j ∧ i.length + j.length ≤ sizeLine ∧ Q (.str (i ++ j)) H
/-- a + b: ints, texts, tuples -/
def fAdd : F2 := fun x y M Q => match x, y with
  | .d (.int i), .d (.int j) => Q (.d (.int (i + j))) M
  | .d (.str s), .d (.str t) => s.length + t.length ≤ sizeLine ∧ Q (.d (.str (s ++ t))) M
  | .d (.tup s), .d (.tup t) => s.length + t.length ≤ sizeLine ∧ Q (.d (.tup (s ++ t))) M
  | _, _ => False
def fCat : FF2 := fun x y M Q => ∃ s t, lstOf M x = some s ∧ lstOf M y = some t ∧ s.length + t.length ≤ sizeLine ∧ Q (.lst (s ++ t)) M
theorem str_app (s t : List Nat) : (⟨s.toArray⟩ : Str) ++ ⟨t.toArray⟩ = ⟨(s ++ t).toArray⟩ := TL.ext_tl (by rw [TL.tl_append])
theorem str_len (s : List Nat) : (⟨s.toArray⟩ : Str).length = s.length := by rw [TL.len_tl]
section
variable {K : PySem.W.Frag}
theorem l2_add : L2E K (fun x y H Q => rI0 (fun i j => .int (i + j)) x y H Q ∨ (rStrCat x y H Q ∨ L2.rCatA K x y H Q)) fAdd := fun en δ M σ H F A x y v w Q R hw rx ry q h => by
  unfold fAdd at q
  split at q
  · next i j =>
    cases (show v = .int i from rx)
    cases (show w = .int j from ry)
    exact .inl ⟨i, j, rfl, rfl, h _ _ (.ret hw (u := .d (.int (i + j))) rfl q)⟩
  · next s t =>
    obtain ⟨rfl, h1, z1⟩ := rx
    obtain ⟨rfl, h2, z2⟩ := ry
    refine .inr (.inl ⟨_, _, rfl, rfl, by rw [str_len, str_len]; exact q.1, h _ _ (.ret hw (u := .d (.str (s ++ t))) ⟨by rw [str_app], by rw [List.all_append, h1, h2]; rfl, by rw [List.length_append]; exact q.1⟩ q.2)⟩)
  · next s t =>
    obtain ⟨a, xs, rfl, h1, r1⟩ := rx
    obtain ⟨b, ys, rfl, h2, r2⟩ := ry
    refine .inr (.inr ⟨a, b, xs, ys, rfl, rfl, .inl (.inl (hw.sub _ _ h1)), .inl (.inl (hw.sub _ _ h2)), by rw [r1.length, r2.length]; exact q.1, fun e => ?_, fun _ e => ?_, fun _ _ p hp => ?_⟩)
    · refine h _ _ (.ret hw (u := .d (.tup (s ++ t))) ⟨b, ys, rfl, h2, ?_⟩ q.2)
      have : s = [] := List.eq_nil_of_length_eq_zero (by rw [← r1.length, e]; rfl)
      rw [this]; exact r2
    · refine h _ _ (.ret hw (u := .d (.tup (s ++ t))) ⟨a, xs, rfl, h1, ?_⟩ q.2)
      have : t = [] := List.eq_nil_of_length_eq_zero (by rw [← r2.length, e]; rfl)
      rw [this, List.append_nil]; exact r1
    · obtain ⟨w2, g2⟩ := hw.laid (o := .tup (xs ++ ys)) hp
      exact h _ _ ⟨.d (.tup (s ++ t)), M, _, A, w2, g2, ⟨p, _, rfl, upd_same, (r1.append r2).mono g2.1⟩, q.2⟩
  · exact q.elim
theorem l2_cat : L2F K rCat fCat := fun en δ M σ H F A x y v w Q R hw rx ry q h => by
  obtain ⟨s, t, hs, ht, hz, q⟩ := q
  obtain ⟨a, xs, rfl, h1, r1⟩ := lstOf_at hw hs rx
  obtain ⟨b, ys, rfl, h2, r2⟩ := lstOf_at hw ht ry
  exact ⟨a, b, xs, ys, rfl, rfl, h1, h2, by rw [r1.length, r2.length]; exact hz, fun p hp => h _ _ (.mk' hw hp (mo := .lst (s ++ t)) ⟨_, rfl, r1.append r2⟩ q)⟩
def fRep : FF2 := fun x y M Q => match y with
  | .d (.int j) => ∃ s, lstOf M x = some s ∧ -(2 ^ 63) ≤ j ∧ j < 2 ^ 63 ∧ s.length * j.toNat ≤ sizeLine ∧ Q (.lst (List.replicate j.toNat s).flatten) M
  | _ => False
theorem Reps.flat {F : Hp} {ds : List D} {vs : List V} (r : Reps K F ds vs) : ∀ n : Nat, Reps K F (List.replicate n ds).flatten (List.replicate n vs).flatten
  | 0 => rfl
  | n + 1 => by
    rw [List.replicate_succ, List.replicate_succ, List.flatten_cons, List.flatten_cons]
    exact r.append (r.flat n)
end
end DL
namespace DL
open PySem PySem.Spec PyProof.Rows L2
section
variable {K : PySem.W.Frag}
theorem l2_rep : L2F K rRep fRep := fun en δ M σ H F A x y v w Q R hw rx ry q h => by
  unfold fRep at q
  split at q
  · next j =>
    cases (show w = .int j from ry)
    obtain ⟨s, hs, h1, h2, hz, q⟩ := q
    obtain ⟨a, xs, rfl, e1, r1⟩ := lstOf_at hw hs rx
    exact ⟨a, j, xs, rfl, rfl, e1, h1, h2, by rw [r1.length]; exact hz, fun p hp => h _ _ (.mk' hw hp (mo := .lst (List.replicate j.toNat s).flatten) ⟨_, rfl, r1.flat _⟩ q)⟩
  · exact q.elim
/-! ### is None -/
def fIsN (neg : Bool) : F2 := fun x y M Q => y = .d .non ∧ Q (.d (.bl (match x with | .d .non => !neg | _ => neg))) M
theorem not_non {F : Hp} {A : List Addr} {x : U} {v : V} (r : UR K F A x v) (hx : x ≠ .d .non) (ho : ∀ w, x ≠ .d (.obj w)) : v ≠ .non := by
  intro e
  subst e
  cases x with
  | r n => obtain ⟨a, _, e⟩ := r; cases e
  | d y =>
    cases y with
    | non => exact hx rfl
    | bl b => cases (show V.non = .bl b from r)
    | int b => cases (show V.non = .int b from r)
    | str b => obtain ⟨e, _⟩ := r; cases e
    | tup b => obtain ⟨_, _, e, _⟩ := r; cases e
    | lst b => obtain ⟨_, _, e, _⟩ := r; cases e
    | scr b => obtain ⟨_, _, e, _⟩ := r; cases e
    | dic t a b => obtain ⟨_, _, e, _⟩ := r; cases e
    | obj w => exact ho w rfl
def noObj : U → Prop
  | .d (.obj _) => False
  | _ => True
def isNon : U → Bool
  | .d .non => true
  | _ => false
def fIsNone (neg : Bool) : F2 := fun x y M Q => y = .d .non ∧ noObj x ∧ Q (.d (.bl (if neg then !isNon x else isNon x))) M
theorem isNon_dec {F : Hp} {A : List Addr} {x : U} {v : V} (r : UR K F A x v) (h : noObj x) : decide (v = .non) = isNon x := by
  by_cases hx : x = .d .non
  · subst hx
    rw [show v = .non from r]; rfl
  · have e := not_non r hx (fun w e => by subst e; exact h)
    rw [decide_eq_false e]
    cases x with
    | r n => rfl
    | d y =>
      cases y with
      | non => exact absurd rfl hx
      | _ => rfl
theorem l2_isN : L2E K (fun x y H Q => y = .non ∧ Q (.bl (decide (x = .non))) H) (fIsNone false) := fun en δ M σ H F A x y v w Q R hw rx ry ⟨e, ho, q⟩ h => by
  subst e
  exact ⟨ry, h _ _ (.ret hw (u := .d (.bl (isNon x))) (by rw [isNon_dec rx ho]; rfl) q)⟩
theorem l2_notN : L2E K (fun x y H Q => y = .non ∧ Q (.bl (!decide (x = .non))) H) (fIsNone true) := fun en δ M σ H F A x y v w Q R hw rx ry ⟨e, ho, q⟩ h => by
  subst e
  exact ⟨ry, h _ _ (.ret hw (u := .d (.bl (!isNon x))) (by rw [isNon_dec rx ho]; rfl) q)⟩
/-! ### in -/
def strIn (s t : List Nat) : Bool := !(Builtin.Str.occurrences ⟨t.toArray⟩ ⟨s.toArray⟩ 0 t.length 1).isEmpty
theorem strIn_one (c : Nat) (t : List Nat) : strIn [c] t = decide (c ∈ t) := by
  have h := PySem.StrLaws.found_one ⟨t.toArray⟩ c
  rw [str_len] at h
  exact h
def flatD : D → Bool
  | .non => true
  | .bl _ => true
  | .int _ => true
  | .str _ => true
  | _ => false
def inD (x : D) (ds : List D) : Bool := ds.any fun y => eqD y x
theorem flat_of {F : Hp} {x : D} {v : V} (r : Rep K F x v) (h : flatD x = true) : flatV v = true := by
  cases x <;> first | (cases h; done) | skip
  case non => cases (show v = .non from r); rfl
  case bl b => cases (show v = .bl b from r); rfl
  case int b => cases (show v = .int b from r); rfl
  case str b => obtain ⟨rfl, _⟩ := r; rfl
theorem eqV_of {F : Hp} {x y : D} {v w : V} (rx : Rep K F x v) (ry : Rep K F y w) (hx : flatD x = true) (hy : flatD y = true) : eqV v w = eqD x y := by
  cases x <;> first | (cases hx; done) | skip
  all_goals (cases y <;> first | (cases hy; done) | skip)
  all_goals first
    | (have e1 := (show v = _ from rx); have e2 := (show w = _ from ry); subst e1; subst e2; simp only [eqD, eqV]; done)
    | (obtain ⟨e1, _⟩ := rx; have e2 := (show w = _ from ry); subst e1; subst e2; simp only [eqD, eqV]; done)
    | (have e1 := (show v = _ from rx); obtain ⟨e2, _⟩ := ry; subst e1; subst e2; simp only [eqD, eqV]; done)
    | skip
  case str.str a b =>
    obtain ⟨e1, _⟩ := rx
    obtain ⟨e2, _⟩ := ry
    subst e1; subst e2
    simp only [eqD, eqV]
    rw [Bool.eq_iff_iff]
    simp
theorem inV_of {F : Hp} {x : D} {v : V} (rx : Rep K F x v) (hx : flatD x = true) : ∀ {ds : List D} {vs : List V}, Reps K F ds vs → ds.all flatD = true → inV v vs = inD x ds ∧ vs.all flatV = true
  | [], vs, r, _ => by cases (show vs = [] from r); exact ⟨rfl, rfl⟩
  | d :: ds, vs, r, h => by
    obtain ⟨w, ws, rfl, r1, r2⟩ := r
    rw [List.all_cons, Bool.and_eq_true] at h
    obtain ⟨a, b⟩ := inV_of rx hx r2 h.2
    refine ⟨?_, by rw [List.all_cons, b, flat_of r1 h.1]; rfl⟩
    unfold inV inD at *
    rw [List.any_cons, List.any_cons, a, eqV_of r1 rx h.1 hx]
def fIn (neg : Bool) : F2 := fun x y M Q => match x, y with
  | .d (.str s), .d (.str t) => Q (.d (.bl (if neg then !strIn s t else strIn s t))) M
  | .d a, y => ∃ ds, seqOf M y = some ds ∧ flatD a = true ∧ ds.all flatD = true ∧ Q (.d (.bl (if neg then !inD a ds else inD a ds))) M
  | _, _ => False
theorem l2_inG (neg : Bool) : L2E K (fun x y H Q => (∃ i j, x = .str i ∧ y = .str j ∧ Q (.bl (if neg then !(!(Builtin.Str.occurrences j i 0 j.length 1).isEmpty) else !(Builtin.Str.occurrences j i 0 j.length 1).isEmpty)) H) ∨ rIn K neg x y H Q) (fIn neg) := fun en δ M σ H F A x y v w Q R hw rx ry q h => by
  unfold fIn at q
  split at q
  · next s t =>
    obtain ⟨rfl, _⟩ := rx
    obtain ⟨rfl, _⟩ := ry
    refine .inl ⟨_, _, rfl, rfl, ?_⟩
    rw [str_len]
    exact h _ _ (.ret hw (u := .d (.bl (if neg then !strIn s t else strIn s t))) rfl q)
  · next a _ =>
    obtain ⟨ds, hd, fa, fd, q⟩ := q
    obtain ⟨p, vs, rfl, hs, r1⟩ := seqOf_at hw hd ry
    obtain ⟨e1, e2⟩ := inV_of rx fa r1 fd
    refine .inr ⟨p, vs, rfl, hs, flat_of rx fa, e2, ?_⟩
    rw [e1]
    exact h _ _ (.ret hw (u := .d (.bl (if neg then !inD a ds else inD a ds))) rfl q)
  · exact q.elim
theorem op_inG {X : Cx} : OpR X (compareOp .In) (fun x y H Q => (∃ i j, x = .str i ∧ y = .str j ∧ Q (.bl (if false then !(!(Builtin.Str.occurrences j i 0 j.length 1).isEmpty) else !(Builtin.Str.occurrences j i 0 j.length 1).isEmpty)) H) ∨ rIn X.K false x y H Q) := opr_or op_in_str op_in_seq
theorem op_notInG {X : Cx} : OpR X (compareOp .NotIn) (fun x y H Q => (∃ i j, x = .str i ∧ y = .str j ∧ Q (.bl (if true then !(!(Builtin.Str.occurrences j i 0 j.length 1).isEmpty) else !(Builtin.Str.occurrences j i 0 j.length 1).isEmpty)) H) ∨ rIn X.K true x y H Q) := opr_or op_notIn_str op_notIn_seq

/-! ### subscripts -/
def mbox : Option MO → Option (List U)
  | some (.lst ds) => some (ds.map .d)
  | some (.box us) => some us
  | _ => none
/-- the items of a list or tuple, as values -/
def itemsOf (M : List MO) : U → Option (List U)
  | .d (.tup ds) => some (ds.map .d)
  | .d (.scr ds) => some (ds.map .d)
  | .d (.lst ds) => some (ds.map .d)
  | .r n => mbox M[n]?
  | _ => none
theorem URs.of_reps {F : Hp} {A : List Addr} : ∀ {ds : List D} {vs : List V}, Reps K F ds vs → URs K F A (ds.map .d) vs
  | [], _, r => r
  | d :: ds, vs, r => by
    obtain ⟨v, w, e, a, b⟩ := r
    exact ⟨v, w, e, a, URs.of_reps b⟩
theorem itemsOf_at {en : En} {δ : Dl} {M : List MO} {σ : L2.St} {H F : Hp} {A : List Addr} (w : Wd K en δ M σ H F A) {u : U} {v : V} {us : List U} (h : itemsOf M u = some us) (r : UR K F A u v) : ∃ a vs, v = .ref a ∧ (SqL K H a vs ∨ SqT K H a vs) ∧ URs K F A us vs := by
  cases u with
  | r n =>
    obtain ⟨a, ha, rfl⟩ := r
    have h : mbox M[n]? = some us := h
    cases hm : M[n]? with
    | none => rw [hm] at h; cases h
    | some m =>
      rw [hm] at h
      obtain ⟨a', ha', hm'⟩ := w.at hm
      rw [ha] at ha'; cases ha'
      cases m with
      | lst es =>
        cases h
        obtain ⟨vs, h1, h2⟩ := hm'
        exact ⟨a, vs, rfl, .inl (.inl (.inl h1)), .of_reps h2⟩
      | box es =>
        cases h
        obtain ⟨vs, h1, h2⟩ := hm'
        exact ⟨a, vs, rfl, .inl (.inl (.inl h1)), h2⟩
      | _ => cases h
  | d x =>
    cases x with
    | tup es =>
      cases h
      obtain ⟨a, xs, rfl, h1, h2⟩ := r
      exact ⟨a, xs, rfl, .inr (.inl (.inl (w.sub _ _ h1))), .of_reps h2⟩
    | scr es =>
      cases h
      obtain ⟨a, xs, rfl, h1, h2⟩ := r
      exact ⟨a, xs, rfl, .inl (w.sub.seq h1), .of_reps h2⟩
    | lst es =>
      cases h
      obtain ⟨a, xs, rfl, h1, h2⟩ := r
      exact ⟨a, xs, rfl, .inl (.inl (.inl (w.sub _ _ h1))), .of_reps h2⟩
    | _ => cases h
theorem atI_rel {F : Hp} {A : List Addr} {us : List U} {vs : List V} {i : Int} {u : U} (r : URs K F A us vs) (h : atI us i = some u) : ∃ v, atI vs i = some v ∧ UR K F A u v := by
  unfold atI at h ⊢
  rw [r.length]
  cases e : ixN us.length i with
  | none => rw [e] at h; cases h
  | some j =>
    rw [e] at h
    exact r.get (i := j) h
def fIx : F2 := fun x y M Q => match x, y with
  | .d (.str s), .d (.int i) => ∃ c, atI s i = some c ∧ Q (.d (.str [c])) M
  | x, .d (.int i) => ∃ us u, itemsOf M x = some us ∧ atI us i = some u ∧ Q u M
  | _, _ => False
theorem l2_ix : L2E K (rIx K) fIx := fun en δ M σ H F A x y v w Q R hw rx ry q h => by
  unfold fIx at q
  split at q
  · next s i =>
    obtain ⟨rfl, hs, hz⟩ := rx
    cases (show w = .int i from ry)
    obtain ⟨c, hc, q⟩ := q
    refine .inr (.inr ⟨_, i, c, rfl, rfl, by rw [str_len]; exact hz, hc, h _ _ (.ret hw (u := .d (.str [c])) ⟨rfl, ?_, by rw [sizeLine_eq]; exact (by decide : 1 ≤ 16777216)⟩ q)⟩)
    have hm : c ∈ s := by
      unfold atI at hc
      cases e : ixN s.length i with
      | none => rw [e] at hc; cases hc
      | some j =>
        rw [e] at hc
        exact List.mem_of_getElem? hc
    have := List.all_eq_true.mp hs c hm
    rw [List.all_cons, this]; rfl
  · next i _ =>
    cases (show w = .int i from ry)
    obtain ⟨us, u, hu, hi, q⟩ := q
    obtain ⟨a, vs, rfl, hs, r1⟩ := itemsOf_at hw hu rx
    obtain ⟨v', e, r2⟩ := atI_rel r1 hi
    rcases hs with hs | hs
    · exact .inl ⟨a, vs, i, v', rfl, rfl, hs, e, h _ _ (.ret hw r2 q)⟩
    · exact .inr (.inl ⟨a, vs, i, v', rfl, rfl, hs, e, h _ _ (.ret hw r2 q)⟩)
  · exact q.elim
end
/-! ### slices -/
abbrev WO := Dl → List MO → (Option Int → List MO → Prop) → ER → Prop
def tO (X : Cx) (e : Option Expr) : TO := fun σ H Q => ∀ (pins : List (Addr × Obj)) (s : Shared), Inv X pins σ H s → wpAny (model X.prog X.w) X.A (evalPart e X.env) (fun u s' => ∃ o H', Inv X pins σ H' s' ∧ IsPart u o ∧ Q o H') X.xe s
theorem po_tO {X : Cx} {e : Option Expr} : PO X e (tO X e) := ⟨fun pins s σ H Q I h => h pins s I⟩
theorem tO.of {X : Cx} {e : Option Expr} {t : TO} (h : PO X e t) {σ : L2.St} {H : Hp} {Q : Option Int → Hp → Prop} (q : t σ H Q) : tO X e σ H Q := fun pins s I => h.run pins s σ H Q I q
theorem tO.mono {X : Cx} {e : Option Expr} {σ : L2.St} {H : Hp} {Q Q' : Option Int → Hp → Prop} (h : tO X e σ H Q) (f : ∀ v H', Q v H' → Q' v H') : tO X e σ H Q' := fun pins s I =>
  thn (h pins s I) fun _ _ ⟨o, H', J, r, q⟩ => ⟨o, H', J, r, f _ _ q⟩
def OPost (K : PySem.W.Frag) (en : En) (δ : Dl) (σ : L2.St) (F : Hp) (A : List Addr) (Q : Option Int → List MO → Prop) : Option Int → Hp → Prop := fun o H' => ∃ M' F' A', Wd K en δ M' σ H' F' A' ∧ Gr F A F' A' ∧ Q o M'
structure DO (X : Cx) (k : Nat) (e : Option Expr) (w : WO) : Prop where
  run : ∀ (en : En) (δ : Dl) (M : List MO) (σ : L2.St) (H F : Hp) (A : List Addr) (Q : Option Int → List MO → Prop) (Er : ER), en.A.length = k → Wd X.K en δ M σ H F A → Snk X en Er → w δ M Q Er → tO X e σ H (OPost X.K en δ σ F A Q)
def wNoP : WO := fun _ M Q _ => Q none M
def wPart (w : WE) : WO := fun δ M Q Er => w δ M (fun u M1 => ∃ i, u = .d (.int i) ∧ Q (some i) M1) Er
def cutL {α : Type} (xs : List α) (lo hi : Option Int) : List α := (xs.drop (HT.sIx xs.length 0 lo)).take (HT.sIx xs.length xs.length hi - HT.sIx xs.length 0 lo)
abbrev FS := U → Option Int → Option Int → List MO → UK → Prop
abbrev FSF := U → Option Int → Option Int → List MO → (MO → List MO → Prop) → Prop
def wSl (f : FS) (a : WE) (l u : WO) : WE := fun δ M Q Er => a δ M (fun x M1 => l δ M1 (fun lo M2 => u δ M2 (fun hi M3 => f x lo hi M3 Q) Er) Er) Er
def wSlF (f : FSF) (a : WE) (l u : WO) : WF := fun δ M Q Er => a δ M (fun x M1 => l δ M1 (fun lo M2 => u δ M2 (fun hi M3 => f x lo hi M3 Q) Er) Er) Er
section
variable {X : Cx} {k : Nat} {e : Expr} {lo hi : Option Expr} {we : WE} {wl wh : WO} {pos p2 : Pos}
theorem do_none : DO X k none wNoP := .mk fun en δ M σ H F A Q Er hk hw hs q => tO.of po_none ⟨M, F, A, hw, Gr.refl, q⟩
theorem do_some {e : Expr} (h : DE X k e we) : DO X k (some e) (wPart we) := .mk fun en δ M σ H F A Q Er hk hw hs q => by
  refine tO.of (po_some pe_tE) ((h.run en δ M σ H F A _ Er hk hw hs q).mono ?_)
  rintro v H1 ⟨u, M1, F1, A1, w1, g1, r1, i, rfl, q1⟩
  exact ⟨i, r1, M1, F1, A1, w1, g1, q1⟩
/-- t[lo:hi] of a text or a tuple -/
def fSl : FS := fun x lo hi M Q => match x with
  | .d (.str s) => Q (.d (.str (cutL s lo hi))) M
  | .d (.tup ds) => Q (.d (.tup (cutL ds lo hi))) M
  | _ => False
/-- xs[lo:hi]: a new list -/
def fSlF : FSF := fun x lo hi M Q => match x with
  | .d (.scr ds) => Q (.lst (cutL ds lo hi)) M
  | x => ∃ ds, lstOf M x = some ds ∧ Q (.lst (cutL ds lo hi)) M
theorem Reps.cut {K : PySem.W.Frag} {F : Hp} {ds : List D} {vs : List V} (r : Reps K F ds vs) (lo hi : Option Int) : Reps K F (cutL ds lo hi) (cutV vs lo hi) := by
  unfold cutL cutV
  rw [r.length]
  exact (r.drop _).take _
theorem cut_all {s : List Nat} (h : s.all (· < 0x110000) = true) (lo hi : Option Int) : (cutL s lo hi).all (· < 0x110000) = true := by
  rw [List.all_eq_true] at h ⊢
  intro c hc
  exact h c (List.mem_of_mem_drop (List.mem_of_mem_take hc))
theorem cut_len {α : Type} (s : List α) (lo hi : Option Int) : (cutL s lo hi).length ≤ s.length := by
  unfold cutL
  rw [List.length_take, List.length_drop]
  omega
theorem de_slice (he : DE X k e we) (hl : DO X k lo wl) (hu : DO X k hi wh) : DE X k (.Subscript e (.Slice lo hi none p2) pos) (wSl fSl we wl wh) := .mk fun en δ M σ H F A Q Er hk hw hs q => by
  refine tE.of (pe_slice (SlR.or sl_str sl_tupA) pe_tE po_tO po_tO) ((he.run en δ M σ H F A _ Er hk hw hs q).mono ?_)
  rintro v H1 ⟨x, M1, F1, A1, w1, g1, r1, q1⟩
  refine (hl.run en δ M1 σ H1 F1 A1 _ Er hk w1 hs q1).mono ?_
  rintro l H2 ⟨M2, F2, A2, w2, g2, q2⟩
  refine (hu.run en δ M2 σ H2 F2 A2 _ Er hk w2 hs q2).mono ?_
  rintro u H3 ⟨M3, F3, A3, w3, g3, q3⟩
  have r3 := (r1.mono g2).mono g3
  have g := (g1.trans g2).trans g3
  unfold fSl at q3
  split at q3
  · next s =>
    obtain ⟨rfl, ha, hz⟩ := r3
    refine .inl ⟨_, rfl, by rw [str_len]; exact hz, EPost.up g (.ret w3 (u := .d (.str (cutL s l u))) ⟨?_, cut_all ha l u, Nat.le_trans (cut_len s l u) hz⟩ q3)⟩
    unfold cutS cutL
    rw [str_len]
  · next ds =>
    obtain ⟨a, xs, rfl, h1, r⟩ := r3
    refine .inr ⟨a, xs, rfl, .inl (.inl (w3.sub _ _ h1)), fun e => ?_, fun _ p hp => ?_⟩
    · have : cutL ds l u = ds := by
        unfold cutL
        rw [← r.length, e.1, e.2, List.drop_zero, Nat.sub_zero, r.length, List.take_length]
      rw [this] at q3
      exact EPost.up g (.ret w3 (u := .d (.tup ds)) ⟨a, xs, rfl, h1, r⟩ q3)
    · obtain ⟨w4, g4⟩ := w3.laid (o := .tup (cutV xs l u)) hp
      exact EPost.up g ⟨.d (.tup (cutL ds l u)), M3, _, A3, w4, g4, ⟨p, _, rfl, upd_same, (r.cut l u).mono g4.1⟩, q3⟩
  · exact q3.elim
theorem df_slice (he : DE X k e we) (hl : DO X k lo wl) (hu : DO X k hi wh) : DF X k (.Subscript e (.Slice lo hi none p2) pos) (wSlF fSlF we wl wh) := .mk fun en δ M σ H F A Q Er hk hw hs q => by
  refine tE.of (pe_slice sl_list pe_tE po_tO po_tO) ((he.run en δ M σ H F A _ Er hk hw hs q).mono ?_)
  rintro v H1 ⟨x, M1, F1, A1, w1, g1, r1, q1⟩
  refine (hl.run en δ M1 σ H1 F1 A1 _ Er hk w1 hs q1).mono ?_
  rintro l H2 ⟨M2, F2, A2, w2, g2, q2⟩
  refine (hu.run en δ M2 σ H2 F2 A2 _ Er hk w2 hs q2).mono ?_
  rintro u H3 ⟨M3, F3, A3, w3, g3, q3⟩
  have r3 := (r1.mono g2).mono g3
  have g := (g1.trans g2).trans g3
  have fin : ∀ {ds : List D} {a : Addr} {xs : List V}, SqL X.K H3 a xs → Reps X.K F3 ds xs → Q (.lst (cutL ds l u)) M3 → rSlL X.K (.ref a) l u H3 (FPost X.K en δ σ F A Q) := fun {ds a xs} h1 r q =>
    ⟨a, xs, rfl, h1, fun p hp => FPost.up g (.mk' w3 hp (mo := .lst (cutL ds l u)) ⟨_, rfl, r.cut l u⟩ q)⟩
  unfold fSlF at q3
  split at q3
  · next ds =>
    obtain ⟨a, xs, rfl, h1, r⟩ := r3
    exact fin (w3.sub.seq h1) r q3
  · obtain ⟨ds, hd, q⟩ := q3
    obtain ⟨a, xs, rfl, h1, r⟩ := lstOf_at w3 hd r3
    exact fin (.inl (.inl h1)) r q
end
/-! ### built-in calls -/
def tyD : D → String
  | .non => "NoneType" | .bl _ => "bool" | .int _ => "int" | .str _ => "str" | .tup _ => "tuple" | .lst _ => "list" | .scr _ => "" | .dic _ _ _ => "dict" | .obj _ => ""
def tyM : Option MO → String
  | some (.lst _) => "list"
  | some (.box _) => "list"
  | some (.dct _ _) => "dict"
  | _ => ""
def tyU (M : List MO) : U → String
  | .d x => tyD x
  | .r n => tyM M[n]?
/-- isinstance of a built-in class -/
def isT (c t : String) : Bool := t == c || (c == "int" && t == "bool")
def tyS : List String := ["NoneType", "bool", "int", "str", "tuple", "list", "dict"]
theorem kit_is' : ∀ c ∈ (["bool", "int", "str", "tuple", "list", "dict"] : List String), ∀ t ∈ tyS, kitB t c = some (isT c t) := by decide +kernel
end DL
namespace DL
open PySem PySem.Spec PyProof.Rows L2
/-! ### statements -/
section
variable {K : PySem.W.Frag} {en : En} {δ : Dl} {M : List MO} {σ : L2.St} {H F F1 : Hp} {A A1 : List Addr}
theorem Snk.imp {X : Cx} {Er Er' : ER} (h : Snk X en Er) (i : ∀ x δ M, Er' x δ M → Er x δ M) : Snk X en Er' := by
  obtain ⟨W, tk, q⟩ := h
  exact ⟨W, tk, fun C dd fs vfs δ M σ H F A a b c d => q C dd fs vfs δ M σ H F A a b c (i _ _ _ d)⟩
end
def wSeq (a b : WS) : WS := fun De δ M => a { De with nx := fun δ1 M1 => b De δ1 M1 } δ M
def wSkip : WS := fun De δ M => De.nx δ M
def wDrop (e : WE) : WS := fun De δ M => e δ M (fun _ M1 => De.nx δ M1) De.er
def wRet (e : WE) : WS := fun De δ M => e δ M De.rt De.er
def wRetN : WS := fun De _ M => De.rt (.d .non) M
def wIf (t : WT) (a b : WS) : WS := fun De δ M => t δ M (fun c M1 => cnd c (a De δ M1) (b De δ M1)) De.er
def wBrk : WS := fun De δ M => De.bk δ M
def wCnt : WS := fun De δ M => De.ct δ M
def wAsg (e : WE) (g : WG) : WS := fun De δ M => e δ M (fun u M1 => g u δ M1 De.nx De.er) De.er
def gN (i : Nat) : WG := fun u δ M Q _ => Q (δ.set i (some u)) M
section
variable {X : Cx} {k : Nat} {st : Stmt} {sts : List Stmt} {e : Expr} {we : WE} {a b : WS} {pos : Pos}
theorem dss_nil : DSs X k [] wSkip := .mk fun en δ M σ H F A De hk hw hs q => tSs.of pss_nil ⟨δ, M, F, A, hw, q⟩
theorem dss_cons (ha : DS X k st a) (hb : DSs X k sts b) : DSs X k (st :: sts) (wSeq a b) := .mk fun en δ M σ H F A De hk hw hs q => by
  refine tSs.of (pss_cons ps_tS pss_tSs) ((ha.run en δ M σ H F A { De with nx := fun δ1 M1 => b De δ1 M1 } hk hw hs q).mono ?_ (fun _ _ h => h) (fun _ _ h => h) fun _ _ h => h)
  rintro σ1 H1 ⟨δ1, M1, F1, A1, w1, q1⟩
  exact hb.run en δ1 M1 σ1 H1 F1 A1 De hk w1 hs q1
theorem dss_one (ha : DS X k st a) : DSs X k [st] a := .mk fun en δ M σ H F A De hk hw hs q => tSs.of (pss_one ps_tS) (ha.run en δ M σ H F A De hk hw hs q)
theorem ds_pass : DS X k (.Pass pos) wSkip := .mk fun en δ M σ H F A De hk hw hs q => tS.of ps_pass ⟨δ, M, F, A, hw, q⟩
theorem ds_break : DS X k (.Break pos) wBrk := .mk fun en δ M σ H F A De hk hw hs q => tS.of ps_break ⟨δ, M, F, A, hw, q⟩
theorem ds_continue : DS X k (.Continue pos) wCnt := .mk fun en δ M σ H F A De hk hw hs q => tS.of ps_continue ⟨δ, M, F, A, hw, q⟩
theorem ds_expr (he : DE X k e we) (hsw : swapsWith e none pos.line X.env = pure false := by rfl) : DS X k (.Expr e pos) (wDrop we) := .mk fun en δ M σ H F A De hk hw hs q => by
  refine tS.of (ps_expr pe_tE hsw) ((he.run en δ M σ H F A _ _ hk hw hs q).mono ?_)
  rintro v H1 ⟨u, M1, F1, A1, w1, g1, r1, q1⟩
  exact ⟨δ, M1, F1, A1, w1, q1⟩
theorem ds_ret (he : DE X k e we) : DS X k (.Return (some e) pos) (wRet we) := .mk fun en δ M σ H F A De hk hw hs q => by
  refine tS.of (ps_ret pe_tE) ((he.run en δ M σ H F A _ _ hk hw hs q).mono ?_)
  rintro v H1 ⟨u, M1, F1, A1, w1, g1, r1, q1⟩
  exact ⟨u, δ, σ, M1, F1, A1, w1, r1, q1⟩
theorem ds_retN : DS X k (.Return none pos) wRetN := .mk fun en δ M σ H F A De hk hw hs q => tS.of ps_retN ⟨.d .non, δ, σ, M, F, A, hw, rfl, q⟩
theorem ds_if {c : Expr} {sa sb : List Stmt} {tc : WT} (hc : DT X k c tc) (ha : DSs X k sa a) (hb : DSs X k sb b) : DS X k (.If c sa sb pos) (wIf tc a b) := .mk fun en δ M σ H F A De hk hw hs q => by
  refine tS.of (ps_if pt_tT pss_tSs pss_tSs) ((hc.run en δ M σ H F A _ _ hk hw hs q).mono ?_)
  rintro c H1 ⟨M1, F1, A1, w1, g1, q1⟩
  refine if_cnd ?_
  cases c with
  | true => exact ha.run en δ M1 σ H1 F1 A1 De hk w1 hs q1
  | false => exact hb.run en δ M1 σ H1 F1 A1 De hk w1 hs q1
/-! ### targets -/
theorem dg_name {i : Nat} {x : Str} (hN : X.N.Nodup) (hi : X.N[i]? = some x := by rfl) (hx : Loc X.env.scope x := by first | exact .inl rfl | exact .inr rfl) (hf : X.fn x = true ∨ X.env.scope.names.lookup x = some .local := by first | exact .inl rfl | exact .inr rfl) : DG X k (.Name x pos) (gN i) := .mk fun en δ M σ H F A u v Q Er hk hw hs r q =>
  tG.of (pg_name hN hi hx hf) ⟨δ.set i (some u), M, F, A, hw.store r, q⟩
abbrev WGs := List D → Dl → List MO → (Dl → List MO → Prop) → ER → Prop
def gNil : WGs := fun us δ M Q _ => us = [] ∧ Q δ M
def gCons (g : WG) (r : WGs) : WGs := fun us δ M Q Er => match us with
  | u :: us => g (.d u) δ M (fun δ1 M1 => r us δ1 M1 Q Er) Er
  | [] => False
def tGs (X : Cx) (ts : List Expr) : TGs := fun vs σ H Q => ∀ (pins : List (Addr × Obj)) (s : Shared) (us : List Value), Inv X pins σ H s → Vals vs us → wpAny (model X.prog X.w) X.A (assignInOrder ((assignEach ts X.env).map (·.2)) us) (fun _ s' => ∃ σ' H', Inv X pins σ' H' s' ∧ Q σ' H') X.xe s
theorem pgs_tGs {ts : List Expr} : PGs X ts (tGs X ts) := ⟨fun pins s σ H vs us Q I r h => h pins s us I r⟩
theorem tGs.of {ts : List Expr} {t : TGs} (h : PGs X ts t) {vs : List V} {σ : L2.St} {H : Hp} {Q : L2.St → Hp → Prop} (q : t vs σ H Q) : tGs X ts vs σ H Q := fun pins s us I r => h.run pins s σ H vs us Q I r q
structure DGs (X : Cx) (k : Nat) (ts : List Expr) (g : WGs) : Prop where
  run : ∀ (en : En) (δ : Dl) (M : List MO) (σ : L2.St) (H F : Hp) (A : List Addr) (us : List D) (vs : List V) (Q : Dl → List MO → Prop) (Er : ER), en.A.length = k → Wd X.K en δ M σ H F A → Snk X en Er → Reps X.K F us vs → g us δ M Q Er → tGs X ts vs σ H (GPost X.K en Q)
end
/-- the world has grown since -/
def Up (en : En) (F : Hp) (A : List Addr) : En := { en with G := F }
theorem Wd.toUp {K : PySem.W.Frag} {en : En} {δ : Dl} {M : List MO} {σ : L2.St} {H F : Hp} {A : List Addr} (w : Wd K en δ M σ H F A) : Wd K (Up en F A) δ M σ H F A := { w with subF := Same.refl F }
theorem Wd.ofUp {K : PySem.W.Frag} {en : En} {δ : Dl} {M M' : List MO} {δ' : Dl} {σ σ' : L2.St} {H F H' F' : Hp} {A A' : List Addr} (w : Wd K en δ M σ H F A) (w' : Wd K (Up en F A) δ' M' σ' H' F' A') : Wd K en δ' M' σ' H' F' A' ∧ Same F F' :=
  ⟨{ w' with subF := w.subF.trans w'.subF }, w'.subF⟩
theorem Snk.up {X : Cx} {en : En} {Er : ER} {F : Hp} {A : List Addr} (h : Snk X en Er) (hs : Same en.G F) : Snk X (Up en F A) Er := by
  obtain ⟨W, tk, q⟩ := h
  exact ⟨W, tk, fun C dd fs vfs δ M σ H F' A' a b c d => q C dd fs vfs δ M σ H F' A' { a with subF := hs.trans a.subF } b c d⟩
section
variable {X : Cx} {k : Nat} {e : Expr} {pos : Pos}
/-- a, b, .. = a tuple (data): names one by one -/
theorem dgs_nil : DGs X k [] gNil := .mk fun en δ M σ H F A us vs Q Er hk hw hs r q => by
  obtain ⟨rfl, q⟩ := q
  exact tGs.of pgs_nil ⟨r, δ, M, F, A, hw, q⟩
theorem dgs_cons {es : List Expr} {g : WG} {r : WGs} (h1 : DG X k e g) (h2 : DGs X k es r)
    (hst : (assignEach (e :: es) X.env).map (·.2) = assign e X.env :: (assignEach es X.env).map (·.2) := by rfl) : DGs X k (e :: es) (gCons g r) := .mk fun en δ M σ H F A us vs Q Er hk hw hs rr q => by
  cases us with
  | nil => exact q.elim
  | cons u us =>
    obtain ⟨v, vs', rfl, r1, r2⟩ := rr
    refine tGs.of (pgs_cons pg_tG pgs_tGs hst) ⟨v, vs', rfl, ?_⟩
    refine (h1.run (Up en F A) δ M σ H F A (.d u) v _ Er hk hw.toUp (hs.up hw.subF) r1 q).mono ?_
    rintro σ1 H1 ⟨δ1, M1, F1, A1, w2, q1⟩
    obtain ⟨w3, sF⟩ := hw.ofUp w2
    exact h2.run en δ1 M1 σ1 H1 F1 A1 us vs' Q Er hk w3 hs (r2.mono sF) q1
def gTupD (n : Nat) (g : WGs) : WG := fun u δ M Q Er => match u with
  | .d (.tup ds) => ds.length = n ∧ g ds δ M Q Er
  | _ => False
theorem dg_tup {es : List Expr} {kt n : Nat} {g : WGs} (hc : X.calm = true) (h : DGs X k es g) (hn : (assignEach es X.env).length = n := by rfl) (hst : (assignEach es X.env).findIdx? (·.1) = none := by rfl) : DG X k (.Tuple es kt pos) (gTupD n g) := .mk fun en δ M σ H F A u v Q Er hk hw hs r q => by
  unfold gTupD at q
  split at q
  · next ds =>
    obtain ⟨a, xs, rfl, h1, r1⟩ := r
    exact tG.of (pg_tup hc pgs_tGs hn hst) ⟨a, xs, rfl, .inl (.inl (hw.sub _ _ h1)), by rw [r1.length]; exact q.1, h.run en δ M σ H F A ds xs Q Er hk hw hs r1 q.2⟩
  · exact q.elim
/-- xs[i] = v, xs a mutable list -/
def fSet : U → U → U → List MO → (List MO → Prop) → Prop := fun o i v M Q => match o, i with
  | .r n, .d (.int j) => match M[n]? with
    | some (.lst ds) => ∃ x m, v = .d x ∧ ixN ds.length j = some m ∧ Q (M.set n (.lst (ds.set m x)))
    | some (.box us) => ∃ m, ixN us.length j = some m ∧ Q (M.set n (.box (us.set m v)))
    | _ => False
  | _, _ => False
def gSubD (o i : WE) : WG := fun v δ M Q Er => o δ M (fun x M1 => i δ M1 (fun y M2 => fSet x y v M2 (fun M3 => Q δ M3)) Er) Er
theorem dg_sub {o i : Expr} {wo wi : WE} (ho : DE X k o wo) (hi : DE X k i wi)
    (ha : ∀ v, assign (.Subscript o i pos) X.env v = (do
      let ov ← holding [v] (eval o X.env)
      let iv ← holding [v, ov] (eval i X.env)
      standAt pos
      holding [v, ov, iv] (setItem ov iv v)
      release [v, ov, iv] []) := by intro _; rfl) : DG X k (.Subscript o i pos) (gSubD wo wi) := .mk fun en δ M σ H F A u v Q Er hk hw hs r q => by
  refine tG.of (pg_sub pe_tE pe_tE set_list ha) ((ho.run en δ M σ H F A _ Er hk hw hs q).mono ?_)
  rintro x H1 ⟨ux, M1, F1, A1, w1, g1, r1, q1⟩
  refine (hi.run en δ M1 σ H1 F1 A1 _ Er hk w1 hs q1).mono ?_
  rintro y H2 ⟨uy, M2, F2, A2, w2, g2, r2, q2⟩
  have rv := (r.mono g1).mono g2
  have rx := r1.mono g2
  unfold fSet at q2
  split at q2
  · next n j =>
    obtain ⟨a, ha, rfl⟩ := rx
    cases (show y = .int j from r2)
    split at q2
    · next ds hm =>
      obtain ⟨z, m, rfl, hm2, q3⟩ := q2
      obtain ⟨a', ha', vs, h1, h2⟩ := w2.at hm
      rw [ha] at ha'; cases ha'
      refine ⟨a, vs, j, m, rfl, rfl, h1, by rw [h2.length]; exact hm2, ?_⟩
      exact ⟨δ, _, F2, A2, w2.write (o := .lst (vs.set m v)) (m' := .lst (ds.set m z)) ha hm (fun e => nomatch e) ⟨_, upd_same, h2.set rv⟩ (fun _ e => nomatch e), q3⟩
    · next us hm =>
      obtain ⟨m, hm2, q3⟩ := q2
      obtain ⟨a', ha', vs, h1, h2⟩ := w2.at hm
      rw [ha] at ha'; cases ha'
      refine ⟨a, vs, j, m, rfl, rfl, h1, by rw [h2.length]; exact hm2, ?_⟩
      exact ⟨δ, _, F2, A2, w2.write (o := .lst (vs.set m v)) (m' := .box (us.set m u)) ha hm (fun e => nomatch e) ⟨_, upd_same, h2.set rv⟩ (fun _ e => nomatch e), q3⟩
    · exact q2.elim
  · exact q2.elim
theorem ds_asg {tg : Expr} {we : WE} {g : WG} (he : DE X k e we) (hg : DG X k tg g) (hs : swapsWithSole [tg] e pos.line X.env = pure false := by rfl) (hw : swappedStores [tg] e X.env = pure none := by rfl)
    (h1 : (assignEach [tg] X.env).map (·.2) = [assign tg X.env] := by rfl) : DS X k (.Assign [tg] e pos) (wAsg we g) := .mk fun en δ M σ H F A De hk hw' hsn q => by
  refine tS.of (ps_asg pe_tE pg_tG hs hw h1) ((he.run en δ M σ H F A _ _ hk hw' hsn q).mono ?_)
  rintro v H1 ⟨u, M1, F1, A1, w1, g1, r1, q1⟩
  exact hg.run en δ M1 σ H1 F1 A1 u v De.nx De.er hk w1 hsn r1 q1
theorem ds_set {i : Nat} {x : Str} {we : WE} {pos' : Pos} (hN : X.N.Nodup) (he : DE X k e we) (hi : X.N[i]? = some x := by rfl) (hx : Loc X.env.scope x := by first | exact .inl rfl | exact .inr rfl)
    (hs : swapsWith e (some (.Name x pos')) pos.line X.env = pure false := by rfl) (hf : X.fn x = true ∨ X.env.scope.names.lookup x = some .local := by first | exact .inl rfl | exact .inr rfl) :
    DS X k (.Assign [.Name x pos'] e pos) (wAsg we (gN i)) := .mk fun en δ M σ H F A De hk hw' hsn q => by
  refine tS.of (ps_set hN hi hx pe_tE hs hf) ((he.run en δ M σ H F A _ _ hk hw' hsn q).mono ?_)
  rintro v H1 ⟨u, M1, F1, A1, w1, g1, r1, q1⟩
  exact ⟨δ.set i (some u), M1, F1, A1, w1.store r1, q1⟩
/-- a, b = x, y (two local names) -/
def wPar (i j : Nat) (a : WA) : WS := fun De δ M => a δ M (fun us M1 => match us with
  | [u, v] => De.nx ((δ.set i (some u)).set j (some v)) M1
  | _ => False) De.er
theorem ds_par {i j : Nat} {x y : Str} {a b : Expr} {wa : WA} {px py pt : Pos} {kt k2 pt2} (hc : X.calm = true) (hN : X.N.Nodup) (ha : DA X k [a, b] wa) (hi : X.N[i]? = some x := by rfl) (hj : X.N[j]? = some y := by rfl) (hij : i ≠ j := by decide)
    (hx : X.env.scope.names.lookup x = some .local := by rfl) (hy : X.env.scope.names.lookup y = some .local := by rfl)
    (hw : swappedStores [.Tuple [.Name x px, .Name y py] kt pt] (.Tuple [a, b] k2 pt2) X.env = pure (some [x, y]) := by rfl)
    (hs : swapsWithSole [.Tuple [.Name x px, .Name y py] kt pt] (.Tuple [a, b] k2 pt2) pos.line X.env = pure false := by rfl) :
    DS X k (.Assign [.Tuple [.Name x px, .Name y py] kt pt] (.Tuple [a, b] k2 pt2) pos) (wPar i j wa) := .mk fun en δ M σ H F A De hk hw' hsn q => by
  refine tS.of (ps_par hc hN hi hj hij hx hy pa_tA hw hs) ((ha.run en δ M σ H F A _ _ hk hw' hsn q).mono ?_)
  rintro vs H1 ⟨us, M1, F1, A1, w1, g1, r1, l1, q1⟩
  split at q1
  · next u v =>
    obtain ⟨v1, r, rfl, a1, v2, r', rfl, a2, e⟩ := r1
    cases (show r' = [] from e)
    exact ⟨v1, v2, rfl, _, M1, F1, A1, (w1.store a1).store a2, q1⟩
  · exact q1.elim
end
/-! ### loops -/
/-- what is walked: items of data -/
def ItOk (K : PySem.W.Frag) (en : En) (F' : Hp) (J : It) (items : List D) : Prop :=
  ∀ (δ : Dl) (M : List MO) (σ : L2.St) (H F : Hp) (A : List Addr), Wd K en δ M σ H F A → Same F' F → ∀ i : Nat, (i < items.length → J.go i H ∧ ∀ x H', J.yld i H x H' → ∃ F3 d, Wd K en δ M σ H' F3 A ∧ Same F F3 ∧ items[i]? = some d ∧ Rep K F3 d x) ∧ (items.length ≤ i → J.stop i H)
abbrev WI := Dl → List MO → (List D → List MO → Prop) → ER → Prop
def IPost (K : PySem.W.Frag) (en : En) (δ : Dl) (σ : L2.St) (F : Hp) (A : List Addr) (Q : List D → List MO → Prop) : It → Hp → Prop := fun J H' => ∃ items M' F' A', Wd K en δ M' σ H' F' A' ∧ Gr F A F' A' ∧ (∀ en' : En, ItOk K en' F' J items) ∧ Q items M'
structure DI (X : Cx) (k : Nat) (tg iter : Expr) (w : WI) : Prop where
  run : ∀ (en : En) (δ : Dl) (M : List MO) (σ : L2.St) (H F : Hp) (A : List Addr) (Q : List D → List MO → Prop) (Er : ER), en.A.length = k → Wd X.K en δ M σ H F A → Snk X en Er → w δ M Q Er → tI X tg iter σ H (IPost X.K en δ σ F A Q)
/-- for: the items one by one -/
def forD (g : WG) (wb : WS) (De : DEnds) : List D → Dl → List MO → Prop
  | [], δ, M => De.nx δ M
  | x :: xs, δ, M => g (.d x) δ M (fun δ1 M1 => wb { De with nx := forD g wb De xs, ct := forD g wb De xs, bk := De.nx } δ1 M1) De.er
def wFor (wi : WI) (g : WG) (wb : WS) : WS := fun De δ M => wi δ M (fun items M1 => forD g wb De items δ M1) De.er
section
variable {X : Cx} {k : Nat} {pos : Pos}
theorem ds_for {tg iter : Expr} {body : List Stmt} {wi : WI} {g : WG} {wb : WS} (hp : PassesOwn (model X.prog X.w) X.A X.env X.xe) (hc : X.calm = true) (hi : DI X k tg iter wi) (hg : DG X k tg g) (hb : DSs X k body wb)
    (hs : ∀ x, foldedSetIterable iter X.env x = pure x := by intro _; rfl) : DS X k (.For tg iter body [] pos) (wFor wi g wb) := .mk fun en δ M σ H F A De hk hw hsn q => by
  refine tS.of (ps_for hp hc pi_tI pg_tG pss_tSs hs) ((hi.run en δ M σ H F A _ _ hk hw hsn q).mono ?_)
  rintro J H1 ⟨items, M1, F1, A1, w1, g0, ok, q1⟩
  -- the invariant, over the entry that knows F1
  refine ⟨fun i m σ' H' => m = items.length - i ∧ i ≤ items.length ∧ ∃ δ' M' F' A', Wd X.K (Up en F1 A1) δ' M' σ' H' F' A' ∧ forD g wb De (items.drop i) δ' M', ⟨_, rfl, Nat.zero_le _, δ, M1, F1, A1, w1.toUp, q1⟩, ?_⟩
  rintro i m σ' H' ⟨rfl, hle, δ', M', F', A', w2, q2⟩
  by_cases hi : i < items.length
  · obtain ⟨go, yl⟩ := (ok (Up en F1 A1) δ' M' σ' H' F' A' w2 w2.subF i).1 hi
    refine .inr ⟨go, fun σ3 H3 => i + 1 ≤ items.length ∧ ∃ δ' M' F' A', Wd X.K (Up en F1 A1) δ' M' σ3 H3 F' A' ∧ forD g wb De (items.drop (i + 1)) δ' M', fun σ3 H3 ⟨h1, h2⟩ => ⟨_, by omega, rfl, h1, h2⟩, fun x H3 hy => ?_⟩
    obtain ⟨F3, d, w3, sF, hd, rd⟩ := yl x H3 hy
    have ed : items.drop i = d :: items.drop (i + 1) := by
      have := List.drop_eq_getElem_cons hi
      rw [this]
      have e2 : items[i]? = some items[i] := List.getElem?_eq_getElem hi
      rw [hd] at e2
      rw [← Option.some.inj e2]
    rw [ed] at q2
    have hs2 := hsn.up (F := F1) (A := A1) w1.subF
    refine (hg.run (Up en F1 A1) δ' M' σ' H3 F3 A' (.d d) x _ De.er hk w3 hs2 rd q2).mono ?_
    rintro σ4 H4 ⟨δ4, M4, F4, A4, w4, q4⟩
    refine (hb.run (Up en F1 A1) δ4 M4 σ4 H4 F4 A4 { De with nx := forD g wb De (items.drop (i + 1)), ct := forD g wb De (items.drop (i + 1)), bk := De.nx } hk w4 hs2 q4).mono ?_ ?_ ?_ ?_
    · rintro σ5 H5 ⟨δ5, M5, F5, A5, w5, q5⟩
      exact ⟨hi, δ5, M5, F5, A5, w5, q5⟩
    · rintro v H5 ⟨u, δ5, σ5, M5, F5, A5, w5, r5, q5⟩
      exact ⟨u, δ5, σ5, M5, F5, A5, (w1.ofUp w5).1, r5, q5⟩
    · rintro σ5 H5 ⟨δ5, M5, F5, A5, w5, q5⟩
      exact ⟨δ5, M5, F5, A5, (w1.ofUp w5).1, q5⟩
    · rintro σ5 H5 ⟨δ5, M5, F5, A5, w5, q5⟩
      exact ⟨hi, δ5, M5, F5, A5, w5, q5⟩
  · refine .inl ⟨(ok (Up en F1 A1) δ' M' σ' H' F' A' w2 w2.subF i).2 (by omega), ?_⟩
    rw [List.drop_of_length_le (by omega)] at q2
    exact ⟨δ', M', F', A', (w1.ofUp w2).1, q2⟩
/-- while: so many turns at most -/
def whileD (t : WT) (wb : WS) (De : DEnds) : Nat → Dl → List MO → Prop
  | 0, _, _ => False
  | n + 1, δ, M => t δ M (fun c M1 => cnd c (wb { De with nx := whileD t wb De n, ct := whileD t wb De n, bk := De.nx } δ M1) (De.nx δ M1)) De.er
def wWhile (t : WT) (wb : WS) : WS := fun De δ M => ∃ n, whileD t wb De n δ M
theorem ds_while {c : Expr} {body : List Stmt} {t : WT} {wb : WS} (hp : PassesOwn (model X.prog X.w) X.A X.env X.xe) (hc : DT X k c t) (hb : DSs X k body wb) : DS X k (.While c body [] pos) (wWhile t wb) := .mk fun en δ M σ H F A De hk hw hsn q => by
  obtain ⟨n, q⟩ := q
  refine tS.of (ps_while hp pt_tT pss_tSs) ⟨fun m σ' H' => ∃ δ' M' F' A', Wd X.K en δ' M' σ' H' F' A' ∧ whileD t wb De m δ' M', ⟨n, δ, M, F, A, hw, q⟩, ?_⟩
  rintro m σ' H' ⟨δ', M', F', A', w', q'⟩
  cases m with
  | zero => exact q'.elim
  | succ m =>
    refine (hc.run en δ' M' σ' H' F' A' _ De.er hk w' hsn q').mono ?_
    rintro b H1 ⟨M1, F1, A1, w1, g1, q1⟩
    refine if_cnd ?_
    cases b with
    | true =>
      refine ⟨fun σ3 H3 => ∃ δ' M' F' A', Wd X.K en δ' M' σ3 H3 F' A' ∧ whileD t wb De m δ' M', fun σ3 H3 h => ⟨m, Nat.lt_succ_self m, h⟩, ?_⟩
      exact (hb.run en δ' M1 σ' H1 F1 A1 { De with nx := whileD t wb De m, ct := whileD t wb De m, bk := De.nx } hk w1 hsn q1).mono (fun _ _ h => h) (fun _ _ h => h) (fun _ _ h => h) fun _ _ h => h
    | false => exact ⟨δ', M1, F1, A1, w1, q1⟩
end
end DL
namespace DL
open PySem PySem.Spec PyProof.Rows L2
/-! ### stores cut -/
def closedU (n : Nat) : U → Bool
  | .d _ => true
  | .r m => decide (m < n)
def closedM (n : Nat) : MO → Bool
  | .box us => us.all (closedU n)
  | _ => true
def cutOk (n : Nat) (M : List MO) : Bool := Nat.ble n M.length && (M.take n).all (closedM n)
section
variable {K : PySem.W.Frag} {en : En} {δ : Dl} {M : List MO} {σ : L2.St} {H F : Hp} {A : List Addr}
theorem UR.cut {n : Nat} {u : U} {v : V} (r : UR K F A u v) (h : closedU n u = true) : UR K F (A.take n) u v := by
  cases u with
  | d x => exact r
  | r m =>
    obtain ⟨a, e, q⟩ := r
    have hm : m < n := of_decide_eq_true h
    exact ⟨a, by rw [List.getElem?_take_of_lt hm]; exact e, q⟩
theorem URs.cut {n : Nat} : ∀ {us : List U} {vs : List V}, URs K F A us vs → us.all (closedU n) = true → URs K F (A.take n) us vs
  | [], _, r, _ => r
  | u :: us, vs, r, h => by
    obtain ⟨v, w, e, a, b⟩ := r
    rw [List.all_cons, Bool.and_eq_true] at h
    exact ⟨v, w, e, a.cut h.1, URs.cut b h.2⟩
theorem Wd.cut (w : Wd K en δ M σ H F A) {n : Nat} (hn : en.A.length ≤ n) (h : cutOk n M = true) : Wd K en [] (M.take n) [] H F (A.take n) := by
  unfold cutOk at h
  rw [Bool.and_eq_true] at h
  have hl : n ≤ M.length := Nat.le_of_ble_eq_true h.1
  have up : ∀ {i : Nat} {a : Addr}, (A.take n)[i]? = some a → i < n ∧ A[i]? = some a := fun {i a} e => by
    have hi : i < (A.take n).length := (List.getElem?_eq_some_iff.mp e).1
    have hi2 : i < n := by rw [List.length_take] at hi; omega
    exact ⟨hi2, by rw [List.getElem?_take_of_lt hi2] at e; exact e⟩
  refine ⟨w.sub, w.tups, by rw [List.length_take, List.length_take, w.len], w.nd.take, fun i a o h1 h2 h3 => ?_, fun i a o h1 h2 => ?_, fun a ha => w.here a (List.mem_of_mem_take ha), rfl, fun i u e => ?_, w.keep, w.there, w.subF, w.newF, ?_, fun i a hi e => w.newA i a hi (up e).2⟩
  · obtain ⟨hi, e⟩ := up h1
    rw [List.getElem?_take_of_lt hi] at h2
    exact w.dis i a o e h2 h3
  · obtain ⟨hi, e⟩ := up h1
    have h2' := h2
    rw [List.getElem?_take_of_lt hi] at h2
    have hm := w.mem i a o e h2
    cases o with
    | box us =>
      obtain ⟨vs, e1, e2⟩ := hm
      have hc := List.all_eq_true.mp h.2 (.box us) (List.mem_of_getElem? h2')
      exact ⟨vs, e1, e2.cut hc⟩
    | _ => exact hm
  · simp at e
  · obtain ⟨B, e⟩ := w.pre
    refine ⟨B.take (n - en.A.length), ?_⟩
    rw [e, List.take_append, List.take_of_length_le hn]
theorem Wd.self (w : Wd K en δ M σ H F A) : Wd K ⟨H, F, F, A⟩ [] M [] H F A :=
  ⟨w.sub, w.tups, w.len, w.nd, w.dis, w.mem, w.here, rfl, fun i u e => by simp at e, fun a o e _ => e, fun a e => e, Same.refl F, fun a h1 h2 => absurd h2 h1, ⟨[], (List.append_nil A).symm⟩, fun i a hi e => by
    rw [List.getElem?_eq_none (by exact hi)] at e; cases e⟩
theorem Wd.callee (w : Wd K en δ M σ H F A) {n : Nat} (h : cutOk n M = true) : Wd K ⟨H, F, F, A.take n⟩ [] (M.take n) [] H F (A.take n) ∧ (A.take n).length = n := by
  unfold cutOk at h
  rw [Bool.and_eq_true] at h
  have hl : n ≤ M.length := Nat.le_of_ble_eq_true h.1
  have up : ∀ {i : Nat} {a : Addr}, (A.take n)[i]? = some a → i < n ∧ A[i]? = some a := fun {i a} e => by
    have hi : i < (A.take n).length := (List.getElem?_eq_some_iff.mp e).1
    have hi2 : i < n := by rw [List.length_take] at hi; omega
    exact ⟨hi2, by rw [List.getElem?_take_of_lt hi2] at e; exact e⟩
  refine ⟨⟨w.sub, w.tups, by rw [List.length_take, List.length_take, w.len], w.nd.take, fun i a o h1 h2 h3 => ?_, fun i a o h1 h2 => ?_, fun a ha => w.here a (List.mem_of_mem_take ha), rfl, fun i u e => by simp at e, fun a o e _ => e, fun a e => e, Same.refl F, fun a h1 h2 => absurd h2 h1, ⟨[], (List.append_nil _).symm⟩, fun i a hi e => ?_⟩, by rw [List.length_take, w.len]; omega⟩
  · obtain ⟨hi, e⟩ := up h1
    rw [List.getElem?_take_of_lt hi] at h2
    exact w.dis i a o e h2 h3
  · obtain ⟨hi, e⟩ := up h1
    have h2' := h2
    rw [List.getElem?_take_of_lt hi] at h2
    have hm := w.mem i a o e h2
    cases o with
    | box us =>
      obtain ⟨vs, e1, e2⟩ := hm
      have hc := List.all_eq_true.mp h.2 (.box us) (List.mem_of_getElem? h2')
      exact ⟨vs, e1, e2.cut hc⟩
    | _ => exact hm
  · rw [List.getElem?_eq_none (by exact hi)] at e; cases e
/-- behind a call that had the first n objects and left as many, or had all -/
theorem Wd.after (w : Wd K en δ M σ H F A) {n : Nat} {H' F' : Hp} {A' : List Addr} {M' : List MO} (hn : n ≤ M.length) (w' : Wd K ⟨H, F, F, A.take n⟩ [] M' [] H' F' A') (hk : A'.length = n ∨ M.length = n) :
    Wd K en δ (M' ++ M.drop n) σ H' F' (A' ++ A.drop n) ∧ Gr F A F' (A' ++ A.drop n) := by
  obtain ⟨B, hB⟩ := w'.pre
  have hB : A' = A.take n ++ B := hB
  have lA : (A.take n).length = n := by rw [List.length_take, w.len]; omega
  -- the addresses: those of old, and new ones
  have eA : ∃ C, A' ++ A.drop n = A ++ C ∧ ∀ c ∈ C, H c = none := by
    rcases hk with hk | hk
    · have hb : B = [] := List.eq_nil_of_length_eq_zero (by rw [hB, List.length_append, lA] at hk; omega)
      exact ⟨[], by rw [hB, hb, List.append_nil, List.take_append_drop, List.append_nil], fun c hc => by cases hc⟩
    · have hd : A.drop n = [] := List.drop_of_length_le (by rw [w.len]; omega)
      have ht : A.take n = A := List.take_of_length_le (by rw [w.len]; omega)
      refine ⟨B, by rw [hB, hd, List.append_nil, ht], fun c hc => ?_⟩
      obtain ⟨j, hj⟩ := List.mem_iff_getElem?.mp hc
      refine w'.newA ((A.take n).length + j) c (by show (A.take n).length ≤ _; omega) ?_
      rw [hB, List.getElem?_append_right (by omega), Nat.add_sub_cancel_left]
      exact hj
  obtain ⟨C, eC, nC⟩ := eA
  have g : Gr F A F' (A' ++ A.drop n) := ⟨w'.subF, C, eC⟩
  have nt : ∀ a, a ∈ A.drop n → a ∉ A.take n := fun a h1 h2 => by
    have nd := w.nd
    rw [← List.take_append_drop n A, List.nodup_append] at nd
    exact nd.2.2 a h2 a h1 rfl
  have hstay : ∀ a o, H a = some o → a ∉ A.take n → H' a = some o := fun a o e h => w'.keep a o e h
  have split : ∀ {i : Nat} {a : Addr} {x : MO}, (A' ++ A.drop n)[i]? = some a → (M' ++ M.drop n)[i]? = some x → (A'[i]? = some a ∧ M'[i]? = some x) ∨ (∃ j, A[j]? = some a ∧ M[j]? = some x ∧ a ∈ A.drop n) := fun {i a x} h1 h2 => by
    by_cases hi : i < A'.length
    · rw [List.getElem?_append_left hi] at h1
      rw [List.getElem?_append_left (by rw [← w'.len]; exact hi)] at h2
      exact .inl ⟨h1, h2⟩
    · rw [List.getElem?_append_right (by omega)] at h1
      rw [List.getElem?_append_right (by rw [← w'.len]; omega), ← w'.len] at h2
      have hm := List.mem_of_getElem? h1
      rw [List.getElem?_drop] at h1 h2
      exact .inr ⟨_, h1, h2, hm⟩
  have hd : ∀ {a : Addr}, a ∈ A.drop n → F a = none → F' a = none := fun {a} ha hf => by
    cases q : F' a with
    | none => rfl
    | some o =>
      have := w'.newF a (by rw [q]; exact fun z => nomatch z) hf
      exact absurd this (w.here a (List.mem_of_mem_drop ha))
  refine ⟨⟨w'.sub, w'.tups, by rw [List.length_append, List.length_append, w'.len, List.length_drop, List.length_drop, w.len], ?_, fun i a o h1 h2 h3 => ?_, fun i a o h1 h2 => ?_, fun a ha => ?_, w.dl, fun i u e => ?_, fun a o e n' => ?_, fun a e => w.there a (w'.there a e), w.subF.trans w'.subF, fun a e n' => ?_, ?_, fun i a hi e => ?_⟩, g⟩
  · rw [List.nodup_append]
    refine ⟨w'.nd, w.nd.drop, fun a ha b hb => ?_⟩
    intro z; subst z
    rw [hB] at ha
    rcases List.mem_append.mp ha with h1 | h1
    · exact nt a hb h1
    · obtain ⟨j, hj⟩ := List.mem_iff_getElem?.mp h1
      have := w'.newA ((A.take n).length + j) a (by show (A.take n).length ≤ _; omega) (by rw [hB, List.getElem?_append_right (by omega), Nat.add_sub_cancel_left]; exact hj)
      exact w.here a (List.mem_of_mem_drop hb) this
  · rcases split h1 h2 with ⟨e1, e2⟩ | ⟨j, e1, e2, hm⟩
    · exact w'.dis i a o e1 e2 h3
    · exact hd hm (w.dis j a o e1 e2 h3)
  · rcases split h1 h2 with ⟨e1, e2⟩ | ⟨j, e1, e2, hm⟩
    · exact (w'.mem i a o e1 e2).mono ⟨Same.refl F', A.drop n, rfl⟩ fun _ e => e
    · exact (w.mem j a o e1 e2).mono g fun u e => hstay a u e (nt a hm)
  · rcases List.mem_append.mp ha with z | z
    · exact w'.here a z
    · intro q
      exact w.here a (List.mem_of_mem_drop z) (w'.there a q)
  · obtain ⟨v, e1, e2⟩ := w.sl i u e
    exact ⟨v, e1, e2.mono g⟩
  · refine hstay a o (w.keep a o e n') fun z => ?_
    obtain ⟨j, hj⟩ := List.mem_iff_getElem?.mp (List.mem_of_mem_take z)
    by_cases hl : j < en.A.length
    · obtain ⟨B2, e2⟩ := w.pre
      rw [e2, List.getElem?_append_left hl] at hj
      exact n' (List.mem_of_getElem? hj)
    · have := w.newA j a (by omega) hj
      rw [e] at this; cases this
  · cases q : F a with
    | none => exact w.there a (w'.newF a e q)
    | some o => exact w.newF a (by rw [q]; exact fun z => nomatch z) n'
  · obtain ⟨B2, e2⟩ := w.pre
    exact ⟨B2 ++ C, by rw [eC, e2, List.append_assoc]⟩
  · rw [eC] at e
    by_cases hl : i < A.length
    · rw [List.getElem?_append_left hl] at e
      exact w.newA i a hi e
    · rw [List.getElem?_append_right (by omega)] at e
      exact w.there a (nC a (List.mem_of_getElem? e))
end

/-! ### promises -/
/-- what a def does, by data: arguments, store; what follows; what is raised -/
abbrev Spec := List U → List MO → UK → (Exn → List MO → Prop) → Prop
def spR (K : PySem.W.Frag) (k kr : Nat) (m : Spec) : Sp := fun vs H Q E => ∃ (F : Hp) (A : List Addr) (us : List U) (M : List MO), A.length = k ∧ Wd K ⟨H, F, F, A⟩ [] M [] H F A ∧ URs K F A us vs ∧
  m us M (fun u M' => ∀ v H' F' A', Wd K ⟨H, F, F, A⟩ [] M' [] H' F' A' → A'.length = kr → UR K F' A' u v → Q v H')
    (fun x M' => ∀ dd H' F' A' vfs, Wd K ⟨H, F, F, A⟩ [] M' [] H' F' A' → A'.length = k → H' dd = some (.xd vfs) → FRep K F' x.2 vfs → E (.ref x.1) (some dd) H')
/-- a def's end: of its objects the first are handed back -/
def RT (kr : Nat) (Q : UK) : UK := fun u M => (closedU kr u && cutOk kr M) = true ∧ Q u (M.take kr)
def RX (k : Nat) (E : Exn → List MO → Prop) : ER := fun x _ M => cutOk k M = true ∧ E x (M.take k)
def fnEnds (k kr : Nat) (Q : UK) (E : Exn → List MO → Prop) : DEnds := { nx := fun _ M => RT kr Q (.d .non) M, rt := RT kr Q, bk := fun _ _ => False, ct := fun _ _ => False, er := RX k E }
def slots (N : List Str) (us : List U) : Dl := us.map some ++ List.replicate (N.length - us.length) none
section
variable {P : Program} {w : World} {K : PySem.W.Frag} {mg : Str → Option Value} {base : Heap}
theorem slots_ok {F : Hp} {A : List Addr} {N : List Str} : ∀ {us : List U} {vs : List V}, URs K F A us vs → ∀ (i : Nat) (u : U), (slots N us)[i]? = some (some u) → ∃ v, (start N vs)[i]? = some (some v) ∧ UR K F A u v := fun {us vs} r i u e => by
  unfold slots at e
  unfold L2.start
  by_cases hi : i < us.length
  · rw [List.getElem?_append_left (by rw [List.length_map]; exact hi), List.getElem?_map] at e
    cases q : us[i]? with
    | none => rw [q] at e; cases e
    | some u' =>
      rw [q] at e
      have : u' = u := by simpa using e
      subst this
      obtain ⟨v, e1, e2⟩ := r.get q
      refine ⟨v, ?_, e2⟩
      rw [List.getElem?_append_left (by rw [List.length_map, r.length]; exact hi), List.getElem?_map, e1]; rfl
  · rw [List.getElem?_append_right (by rw [List.length_map]; omega)] at e
    have := List.mem_of_getElem? e
    have := (List.mem_replicate.mp this).2
    cases this
theorem entry {k : Nat} {H F : Hp} {A : List Addr} {us : List U} {vs : List V} {M : List MO} {N : List Str} (hw : Wd K ⟨H, F, F, A⟩ [] M [] H F A) (r : URs K F A us vs) : Wd K ⟨H, F, F, A⟩ (slots N us) M (start N vs) H F A :=
  { hw with
    dl := by unfold slots L2.start; simp [r.length]
    sl := slots_ok r }
/-- a def that raises nothing -/
theorem fn_ok {x qual : Str} {st : Stmt} {f : Addr} {fd : FuncData} {N ps : List Str} {j k kr : Nat} {m : Spec} {W : WS} (F : Fun K x qual st f fd) (S : FnScope N ps (defScope st)) (hl : ∀ us M Q E, m us M Q E → us.length = ps.length) (hkr : k ≤ kr)
    (hb : ∀ (cdv : Value) (A : Around) (outer : List Env) (s : Shared) (H : Hp) (E : XK), Room j (A.deeper (envOfC qual (defScope st) s.heap.objs.size f cdv)) →
      DSs (cxOf CX0 P w K mg base N qual (defScope st) f cdv A outer s H E).nox k (defBody st) W)
    (hw : ∀ us M Q, m us M Q (fun _ _ => False) → W (fnEnds k kr Q (fun _ _ => False)) (slots N us) M) (hE : ∀ us M Q E, m us M Q E → m us M Q (fun _ _ => False)) : FnOk P w K mg base CX0 (j + 1) f fd ps (spR K k kr m) := by
  refine F.ok S (fun vs H Q E h => ?_) (fun cdv A outer s H vs Q E hr h => ?_)
  · obtain ⟨F1, A1, us, M, _, _, r, q⟩ := h
    rw [r.length]; exact hl us M _ _ q
  · obtain ⟨F1, A1, us, M, hA, hwd, r, q⟩ := h
    refine ⟨_, pss_tSs, ?_⟩
    have hd := (hb cdv A outer s H E hr).run ⟨H, F1, F1, A1⟩ (slots N us) M (start N vs) H F1 A1 (fnEnds k kr (fun u M' => ∀ v H' F' A', Wd K ⟨H, F1, F1, A1⟩ [] M' [] H' F' A' → A'.length = kr → UR K F' A' u v → Q v H') (fun _ _ => False)) hA (entry (k := k) hwd r)
      ⟨fun _ _ _ _ => False, takes0, fun C dd fs vfs δ M σ H F A _ _ _ h => h.2⟩ (hw us M _ (hE us M _ _ q))
    have cut : ∀ {u : U} {M' : List MO} {δ' : Dl} {σ' : L2.St} {H' F' : Hp} {A' : List Addr} {v : V}, Wd K ⟨H, F1, F1, A1⟩ δ' M' σ' H' F' A' → UR K F' A' u v → RT kr (fun u M' => ∀ v H' F' A', Wd K ⟨H, F1, F1, A1⟩ [] M' [] H' F' A' → A'.length = kr → UR K F' A' u v → Q v H') u M' → Q v H' := fun {u M' δ' σ' H' F' A' v} w1 r1 q1 => by
      obtain ⟨h1, h2⟩ := q1
      rw [Bool.and_eq_true] at h1
      have hlen : kr ≤ M'.length := by
        have := h1.2
        unfold cutOk at this
        rw [Bool.and_eq_true] at this
        exact Nat.le_of_ble_eq_true this.1
      exact h2 v H' F' (A'.take kr) (w1.cut (by show A1.length ≤ kr; omega) h1.2) (by rw [List.length_take, w1.len]; omega) (r1.cut h1.1)
    refine hd.mono ?_ ?_ ?_ ?_
    · rintro σ1 H1 ⟨δ1, M1, F2, A2, w1, q1⟩
      exact cut w1 (u := .d .non) (v := .non) rfl q1
    · rintro v H1 ⟨u, δ1, σ1, M1, F2, A2, w1, r1, q1⟩
      exact cut w1 r1 q1
    · rintro σ1 H1 ⟨δ1, M1, F2, A2, w1, q1⟩
      exact q1.elim
    · rintro σ1 H1 ⟨δ1, M1, F2, A2, w1, q1⟩
      exact q1.elim
end
/-! ### calls -/
def callOk (n : Nat) (us : List U) (M : List MO) : Bool := us.all (closedU n) && cutOk n M
/-- a call of a def that keeps the promise m, handing it the first n objects -/
def wCall (n kr : Nat) (m : Spec) (a : WA) : WE := fun δ M Q Er => a δ M (fun us M1 => callOk n us M1 = true ∧ (kr = n ∨ M1.length = n) ∧ m us (M1.take n) (fun u M' => Q u (M' ++ M1.drop n)) (fun _ _ => False)) Er
section
variable {X : Cx} {k n kr j : Nat} {f : Addr} {fd : FuncData} {ps : List Str} {m : Spec} {x : Str} {p pos : Pos} {e : Expr} {es : List Expr} {wa : WA}
theorem sp_of {K : PySem.W.Frag} {en : En} {δ : Dl} {M : List MO} {σ : L2.St} {H F : Hp} {A : List Addr} {us : List U} {vs : List V} {Q : UK} {R : VK} {E : XK} (hw : Wd K en δ M σ H F A) (r : URs K F A us vs) (hc : callOk n us M = true) (hk : kr = n ∨ M.length = n)
    (q : m us (M.take n) (fun u M' => Q u (M' ++ M.drop n)) (fun _ _ => False)) (hR : ∀ v H', EPost K en δ σ F A Q v H' → R v H') (hm : ∀ Q E E', (∀ x M, E x M → E' x M) → m us (M.take n) Q E → m us (M.take n) Q E')
    (hq : ∀ Q Q' E, (∀ u M', Q u M' → Q' u M') → m us (M.take n) Q E → m us (M.take n) Q' E) : spR K n kr m vs H R E := by
  unfold callOk at hc
  rw [Bool.and_eq_true] at hc
  obtain ⟨w1, l1⟩ := hw.callee hc.2
  have hl : n ≤ M.length := by
    have := hc.2
    unfold cutOk at this
    rw [Bool.and_eq_true] at this
    exact Nat.le_of_ble_eq_true this.1
  refine ⟨F, A.take n, us, M.take n, l1, w1, r.cut hc.1, ?_⟩
  refine hm _ _ _ (fun x M' h => h.elim) (hq _ _ _ (fun u M' hQ => ?_) q)
  intro v H' F' A' w' l' r'
  have hk' : A'.length = n ∨ M.length = n := by
    rcases hk with h | h
    · exact .inl (l'.trans h)
    · exact .inr h
  obtain ⟨w2, g2⟩ := hw.after hl w' hk'
  exact hR v H' ⟨u, M' ++ M.drop n, F', A' ++ A.drop n, w2, g2, r'.mono ⟨Same.refl F', A.drop n, rfl⟩, hQ⟩
/-- a promise that may be weakened -/
structure SpecOk (m : Spec) : Prop where
  mono : ∀ us M Q Q' E E', (∀ u M', Q u M' → Q' u M') → (∀ x M, E x M → E' x M) → m us M Q E → m us M Q' E'
theorem de_call (G : FnOk X.prog X.w X.K X.mg X.base CX0 j f fd ps (spR X.K n kr m)) (hm : SpecOk m) (hr : Room j X.A) (hf : X.mg x = some (.ref f)) (hkp : PySem.W.keepIn X.K (.ref f) = true) (hb : Binds X.K fd ps []) (ha : DA X k (e :: es) wa)
    (hg : Gl X x := by rfl) (hdb : (x == ("__debug__" : Str)) = false := by decide) (he_ : nst e = true := by rfl) (hpl_ : es.all nst = true := by rfl) :
    DE X k (.Call (.Name x p) (e :: es) [] pos) (wCall n kr m wa) := .mk fun en δ M σ H F A Q Er hk hw hs q => by
  refine tE.of (pe_call G hr hg hf hkp hb .nil pass0 pa_tA hdb (star_c he_) (star_any hpl_)) ((ha.run en δ M σ H F A _ Er hk hw hs q).mono ?_)
  rintro vs H1 ⟨us, M1, F1, A1, w1, g1, r1, l1, c1, c2, q1⟩
  rw [List.append_nil]
  exact sp_of w1 r1 c1 c2 q1 (fun v H' h => h.up g1) (fun Q E E' i h => hm.mono _ _ _ _ _ _ (fun _ _ h => h) i h) (fun Q Q' E i h => hm.mono _ _ _ _ _ _ i (fun _ _ h => h) h)
end
end DL
namespace DL
open PySem PySem.Spec PyProof.Rows L2
/-! ### freezing a name's list -/
/-- the name's list as data from here on -/
def wVarF (i : Nat) (k : Nat) : WE := fun δ M Q _ => ∃ n ds, δ[i]? = some (some (.r n)) ∧ mlst M[n]? = some ds ∧ k ≤ n ∧ Q (.d (.lst ds)) (M.set n .dead)
section
variable {X : Cx} {k : Nat}
theorem de_nameF {i : Nat} {e : Expr} (h : PE X e (tVar i)) : DE X k e (wVarF i k) := .mk fun en δ M σ H F A Q Er hk hw hs q => by
  obtain ⟨n, ds, hu, hm, hn, q⟩ := q
  obtain ⟨v, hv, a, ha, rfl⟩ := hw.sl i _ hu
  refine tE.of h ⟨_, hv, ?_⟩
  obtain ⟨a', vs, e1, e2, e3⟩ := lstOf_at hw (show lstOf M (.r n) = some ds from hm) ⟨a, ha, rfl⟩
  cases e1
  have hM : M[n]? = some (.lst ds) := by
    cases q' : M[n]? with
    | none => rw [q'] at hm; cases hm
    | some m =>
      rw [q'] at hm
      cases m with
      | lst es => cases hm; rfl
      | _ => cases hm
  have fa := hw.dis n a _ ha hM (fun e => nomatch e)
  obtain ⟨w2, g2⟩ := hw.freeze (by omega) ha e2 fa
  exact ⟨.d (.lst ds), _, _, A, w2, g2, ⟨a, vs, rfl, upd_same, e3.mono g2.1⟩, q⟩
theorem dvF (i : Nat) {x : Str} {pos : Pos} (hN : X.N[i]? = some x := by rfl) (hv : Vis X.env.scope x := by first | exact Or.inl rfl | exact Or.inr (Or.inl rfl) | exact Or.inr (Or.inr rfl)) (hd : (x == ("__debug__" : Str)) = false := by decide)
    (hcd : (x == ("__classdict__" : Str)) = false := by decide) : DE X k (.Name x pos) (wVarF i k) := de_nameF (pe_var hN hv hd hcd)
end
/-- ahead of a statement: the name's list is data from here on -/
def wFz (i k : Nat) (a : WS) : WS := fun De δ M => ∃ n ds, δ[i]? = some (some (.r n)) ∧ mlst M[n]? = some ds ∧ k ≤ n ∧ a De (δ.set i (some (.d (.lst ds)))) (M.set n .dead)
section
variable {X : Cx} {k : Nat} {st : Stmt} {a : WS}
theorem Wd.slot {K : PySem.W.Frag} {en : En} {δ : Dl} {M : List MO} {σ : L2.St} {H F : Hp} {A : List Addr} (w : Wd K en δ M σ H F A) {i : Nat} {u : U} {v : V} (hv : σ[i]? = some (some v)) (r : UR K F A u v) : Wd K en (δ.set i (some u)) M σ H F A := by
  have := w.store (i := i) r
  have e : σ.set i (some v) = σ := by
    apply List.ext_getElem?
    intro j
    by_cases hj : i = j
    · subst hj
      rw [List.getElem?_set_self (List.getElem?_eq_some_iff.mp hv).1, hv]
    · rw [List.getElem?_set_ne hj]
  rw [e] at this
  exact this
theorem ds_fz {i : Nat} (h : DS X k st a) : DS X k st (wFz i k a) := .mk fun en δ M σ H F A De hk hw hs q => by
  obtain ⟨n, ds, hu, hm, hn, q⟩ := q
  obtain ⟨v, hv, a, ha, rfl⟩ := hw.sl i _ hu
  obtain ⟨a', vs, e1, e2, e3⟩ := lstOf_at hw (show lstOf M (.r n) = some ds from hm) ⟨a, ha, rfl⟩
  cases e1
  have hM : M[n]? = some (.lst ds) := by
    cases q' : M[n]? with
    | none => rw [q'] at hm; cases hm
    | some m =>
      rw [q'] at hm
      cases m with
      | lst es => cases hm; rfl
      | _ => cases hm
  have fa := hw.dis n a _ ha hM (fun e => nomatch e)
  obtain ⟨w2, g2⟩ := hw.freeze (by omega) ha e2 fa
  exact h.run en _ _ σ H _ A De hk (w2.slot hv (u := .d (.lst ds)) ⟨a, vs, rfl, upd_same, e3.mono g2.1⟩) hs q
/-- behind a block: the objects made in it are forgotten, and the names that hold them -/
def cutO (n : Nat) : Option U → Option U
  | some (.r m) => if m < n then some (.r m) else none
  | u => u
def trimK (n : Nat) (Q : Dl → List MO → Prop) : Dl → List MO → Prop := fun δ M => cutOk n M = true ∧ Q (δ.map (cutO n)) (M.take n)
end

/-! ### calls of built-ins -/
section
variable {X : Cx} {k : Nat} {e : Expr} {es : List Expr} {x : Str} {p pos : Pos} {id T : String} {r : List V → Hp → VK → Prop} {wa : WA}
theorem de_callB {f : FC} (hc : CallR X (.builtin id) r) (hl : LCE X.K r f) (hm : X.mg x = none) (hv : bootBuiltins x = some (.builtin id)) (ha : DA X k (e :: es) wa) (hg : Gl X x := by rfl) (hn : x ≠ "__name__" := by decide) (hdb : (x == ("__debug__" : Str)) = false := by decide)
    (he_ : nst e = true := by rfl) (hpl_ : es.all nst = true := by rfl) : DE X k (.Call (.Name x p) (e :: es) [] pos) (wCB f wa) :=
  call_e hl ha fun _ _ _ q => tE.of (pe_callB hc hg hm hv pa_tA hn hdb (star_c he_) (star_any hpl_)) q
theorem de_callTy {f : FC} (hc : CallR X (.type T) r) (hl : LCE X.K r f) (hm : X.mg x = none) (hv : bootBuiltins x = some (.type T)) (ha : DA X k (e :: es) wa) (hg : Gl X x := by rfl) (hn : x ≠ "__name__" := by decide) (hdb : (x == ("__debug__" : Str)) = false := by decide)
    (he_ : nst e = true := by rfl) (hpl_ : es.all nst = true := by rfl) : DE X k (.Call (.Name x p) (e :: es) [] pos) (wCB f wa) :=
  call_e hl ha fun _ _ _ q => tE.of (pe_callTy hc hg hm hv pa_tA hn hdb (star_c he_) (star_any hpl_)) q
theorem df_callB {f : FFC} (hc : CallR X (.builtin id) r) (hl : LCF X.K r f) (hm : X.mg x = none) (hv : bootBuiltins x = some (.builtin id)) (ha : DA X k (e :: es) wa) (hg : Gl X x := by rfl) (hn : x ≠ "__name__" := by decide) (hdb : (x == ("__debug__" : Str)) = false := by decide)
    (he_ : nst e = true := by rfl) (hpl_ : es.all nst = true := by rfl) : DF X k (.Call (.Name x p) (e :: es) [] pos) (wCBF f wa) :=
  call_f hl ha fun _ _ _ q => tE.of (pe_callB hc hg hm hv pa_tA hn hdb (star_c he_) (star_any hpl_)) q
theorem df_callTy {f : FFC} (hc : CallR X (.type T) r) (hl : LCF X.K r f) (hm : X.mg x = none) (hv : bootBuiltins x = some (.type T)) (ha : DA X k (e :: es) wa) (hg : Gl X x := by rfl) (hn : x ≠ "__name__" := by decide) (hdb : (x == ("__debug__" : Str)) = false := by decide)
    (he_ : nst e = true := by rfl) (hpl_ : es.all nst = true := by rfl) : DF X k (.Call (.Name x p) (e :: es) [] pos) (wCBF f wa) :=
  call_f hl ha fun _ _ _ q => tE.of (pe_callTy hc hg hm hv pa_tA hn hdb (star_c he_) (star_any hpl_)) q
end
theorem urs1 {K : PySem.W.Frag} {F : Hp} {A : List Addr} {u : U} {vs : List V} (r : URs K F A [u] vs) : ∃ v, vs = [v] ∧ UR K F A u v := by
  obtain ⟨v, w, rfl, a, e⟩ := r
  cases (show w = [] from e)
  exact ⟨v, rfl, a⟩
theorem urs2 {K : PySem.W.Frag} {F : Hp} {A : List Addr} {u1 u2 : U} {vs : List V} (r : URs K F A [u1, u2] vs) : ∃ v1 v2, vs = [v1, v2] ∧ UR K F A u1 v1 ∧ UR K F A u2 v2 := by
  obtain ⟨v, w, rfl, a, r⟩ := r
  obtain ⟨v2, rfl, b⟩ := urs1 r
  exact ⟨v, v2, rfl, a, b⟩
section
variable {K : PySem.W.Frag}
/-- len of a text, a list, a tuple -/
def fLen : FC := fun us M Q => match us with
  | [.d (.str s)] => Q (.d (.int s.length)) M
  | [u] => ∃ vs, itemsOf M u = some vs ∧ Q (.d (.int vs.length)) M
  | _ => False
theorem lc_len : LCE K (fun xs H Q => ∃ x n, xs = [x] ∧ LenV K x H n ∧ Q (.int n) H) fLen := fun en δ M σ H F A us vs Q R hw r q h => by
  unfold fLen at q
  split at q
  · next s =>
    obtain ⟨v, rfl, rfl, _, hz⟩ := urs1 r
    exact ⟨_, s.length, rfl, ⟨by rw [str_len]; exact hz, (str_len s).symm⟩, h _ _ (.ret hw (u := .d (.int s.length)) rfl q)⟩
  · next u _ =>
    obtain ⟨v, rfl, r1⟩ := urs1 r
    obtain ⟨ws, hi, q⟩ := q
    obtain ⟨a, xs, rfl, hs, r2⟩ := itemsOf_at hw hi r1
    refine ⟨_, ws.length, rfl, ?_, h _ _ (.ret hw (u := .d (.int ws.length)) rfl q)⟩
    rcases hs with hs | hs
    · exact .inl ⟨xs, hs, r2.length.symm⟩
    · exact .inr ⟨xs, hs, r2.length.symm⟩
  · exact q.elim
def fTuple : FC := fun us M Q => match us with
  | [u] => ∃ ds, seqOf M u = some ds ∧ Q (.d (.tup ds)) M
  | _ => False
theorem lc_tuple : LCE K (fun xs H Q => ∃ p ys, xs = [.ref p] ∧ ((SqL K H p ys ∧ ∀ l, H l = none → Q (.ref l) (upd H l (.tup ys))) ∨ (SqT K H p ys ∧ Q (.ref p) H))) fTuple := fun en δ M σ H F A us vs Q R hw r q h => by
  unfold fTuple at q
  split at q
  · next u =>
    obtain ⟨v, rfl, r1⟩ := urs1 r
    obtain ⟨ds, hi, q⟩ := q
    have go : ∀ {a : Addr} {xs : List V}, v = .ref a → SqL K H a xs → Reps K F ds xs → ∃ p ys, [v] = [V.ref p] ∧ ((SqL K H p ys ∧ ∀ l, H l = none → R (.ref l) (upd H l (.tup ys))) ∨ (SqT K H p ys ∧ R (.ref p) H)) := fun {a xs} e hs r2 => by
      subst e
      refine ⟨a, xs, rfl, .inl ⟨hs, fun l hl => ?_⟩⟩
      obtain ⟨w2, g2⟩ := hw.laid (o := .tup xs) hl
      exact h _ _ ⟨.d (.tup ds), M, _, A, w2, g2, ⟨l, xs, rfl, upd_same, r2.mono g2.1⟩, q⟩
    cases u with
    | d x =>
      cases x with
      | tup es =>
        cases hi
        obtain ⟨a, xs, rfl, h1, h2⟩ := r1
        exact ⟨a, xs, rfl, .inr ⟨.inl (.inl (hw.sub _ _ h1)), h _ _ (.ret hw (u := .d (.tup ds)) ⟨a, xs, rfl, h1, h2⟩ q)⟩⟩
      | scr es =>
        cases hi
        obtain ⟨a, xs, rfl, h1, h2⟩ := r1
        exact go rfl (hw.sub.seq h1) h2
      | _ =>
        obtain ⟨a, xs, e, h1, h2⟩ := lstOf_at hw (by exact hi) r1
        exact go e (.inl (.inl h1)) h2
    | r n =>
      obtain ⟨a, xs, e, h1, h2⟩ := lstOf_at hw (by exact hi) r1
      exact go e (.inl (.inl h1)) h2
  · exact q.elim
def fList : FFC := fun us M Q => match us with
  | [u] => ∃ ds, seqOf M u = some ds ∧ Q (.lst ds) M
  | _ => False
theorem lc_list : LCF K (fun xs H Q => ∃ p ys, xs = [.ref p] ∧ (SqL K H p ys ∨ SqT K H p ys) ∧ ∀ l, H l = none → Q (.ref l) (upd H l (.lst ys))) fList := fun en δ M σ H F A us vs Q R hw r q h => by
  unfold fList at q
  split at q
  · next u =>
    obtain ⟨v, rfl, r1⟩ := urs1 r
    obtain ⟨ds, hi, q⟩ := q
    obtain ⟨a, xs, rfl, hs, r2⟩ := seqOf_at hw hi r1
    exact ⟨a, xs, rfl, hs, fun l hl => h _ _ (.mk' hw hl (mo := .lst ds) ⟨xs, rfl, r2⟩ q)⟩
  · exact q.elim
def fInt : FC := fun us M Q => match us with
  | [.d (.int i)] => Q (.d (.int i)) M
  | [.d (.bl b)] => Q (.d (.int (if b then 1 else 0))) M
  | _ => False
theorem lc_int : LCE K (fun xs H Q => (∃ i, xs = [.int i] ∧ Q (.int i) H) ∨ ∃ k, xs = [.bl k] ∧ Q (.int (if k then 1 else 0)) H) fInt := fun en δ M σ H F A us vs Q R hw r q h => by
  unfold fInt at q
  split at q
  · next i =>
    obtain ⟨v, rfl, r1⟩ := urs1 r
    cases (show v = .int i from r1)
    exact .inl ⟨i, rfl, h _ _ (.ret hw (u := .d (.int i)) rfl q)⟩
  · next b =>
    obtain ⟨v, rfl, r1⟩ := urs1 r
    cases (show v = .bl b from r1)
    exact .inr ⟨b, rfl, h _ _ (.ret hw (u := .d (.int (if b then 1 else 0))) rfl q)⟩
  · exact q.elim
def fAbs : FC := fun us M Q => match us with
  | [.d (.int i)] => Q (.d (.int (if i < 0 then -i else i))) M
  | _ => False
theorem lc_abs : LCE K (fun xs H Q => ∃ i, xs = [.int i] ∧ Q (.int (if i < 0 then -i else i)) H) fAbs := fun en δ M σ H F A us vs Q R hw r q h => by
  unfold fAbs at q
  split at q
  · next i =>
    obtain ⟨v, rfl, r1⟩ := urs1 r
    cases (show v = .int i from r1)
    exact ⟨i, rfl, h _ _ (.ret hw (u := .d (.int (if i < 0 then -i else i))) rfl q)⟩
  · exact q.elim
def fI2 (g : Int → Int → Int) : FC := fun us M Q => match us with
  | [.d (.int i), .d (.int j)] => Q (.d (.int (g i j))) M
  | _ => False
theorem lc_I2 {g : Int → Int → Int} : LCE K (fun xs H Q => ∃ i j, xs = [.int i, .int j] ∧ Q (.int (g i j)) H) (fI2 g) := fun en δ M σ H F A us vs Q R hw r q h => by
  unfold fI2 at q
  split at q
  · next i j =>
    obtain ⟨v, w, rfl, r1, r2⟩ := urs2 r
    cases (show v = .int i from r1)
    cases (show w = .int j from r2)
    exact ⟨i, j, rfl, h _ _ (.ret hw (u := .d (.int (g i j))) rfl q)⟩
  · exact q.elim
/-- str of a number -/
def numS (n : Nat) : List Nat := TL.numL n
theorem numS_ok (n : Nat) : (numS n).all (· < 0x110000) = true := by
  rw [List.all_eq_true]
  intro c hc
  unfold numS at hc
  have h : ¬ (c < 48 ∨ 57 < c) := fun h => TL.numL_free h hc
  rw [decide_eq_true_iff]
  omega
def fStr : FC := fun us M Q => match us with
  | [.d (.int i)] => 0 ≤ i ∧ i < 10 ^ 500 ∧ Q (.d (.str (numS i.toNat))) M
  | _ => False
theorem lc_str : LCE K (fun xs H Q => ∃ i, xs = [.int i] ∧ i.natAbs.log2 < 1920 ∧ Q (.str (toString i)) H) fStr := fun en δ M σ H F A us vs Q R hw r q h => by
  unfold fStr at q
  split at q
  · next i =>
    obtain ⟨v, rfl, r1⟩ := urs1 r
    cases (show v = .int i from r1)
    obtain ⟨h0, h1, q⟩ := q
    obtain ⟨n, rfl⟩ := Int.eq_ofNat_of_zero_le h0
    have hn : n < 10 ^ 500 := by
      have : ((n : Nat) : Int) < ((10 ^ 500 : Nat) : Int) := by rw [Int.natCast_pow]; exact h1
      exact Int.ofNat_lt.mp this
    refine ⟨_, rfl, PySem.Flt.log2_lt_of (by decide) (Nat.lt_trans hn (by decide +kernel)), h _ _ (.ret hw (u := .d (.str (numS n))) ⟨?_, numS_ok n, ?_⟩ q)⟩
    · refine congrArg V.str (TL.ext_tl ?_)
      rw [TL.tl_mk]
      exact TL.tl_num n
    · have := TL.numL_len (k := 500) (by decide) hn
      rw [sizeLine_eq]
      exact Nat.le_trans this (by decide)
  · exact q.elim
theorem tyD_at {en : En} {δ : Dl} {M : List MO} {σ : L2.St} {H F : Hp} {A : List Addr} (w : Wd K en δ M σ H F A) {u : U} {v : V} (h : tyU M u ∈ tyS) (r : UR K F A u v) : TyX K H v (.type (tyU M u)) := by
  cases u with
  | r n =>
    obtain ⟨a, ha, rfl⟩ := r
    cases hm : M[n]? with
    | none =>
      have : tyU M (.r n) = "" := by show tyM M[n]? = _; rw [hm]; rfl
      rw [this] at h
      exact absurd h (by decide)
    | some m =>
      obtain ⟨a', ha', hm'⟩ := w.at hm
      rw [ha] at ha'; cases ha'
      cases m with
      | lst ds =>
        have : tyU M (.r n) = "list" := by show tyM M[n]? = _; rw [hm]; rfl
        rw [this]
        obtain ⟨vs, e, _⟩ := hm'
        exact .base (.lst e)
      | box ds =>
        have : tyU M (.r n) = "list" := by show tyM M[n]? = _; rw [hm]; rfl
        rw [this]
        obtain ⟨vs, e, _⟩ := hm'
        exact .base (.lst e)
      | dct t kv =>
        have : tyU M (.r n) = "dict" := by show tyM M[n]? = _; rw [hm]; rfl
        rw [this]
        obtain ⟨vs, ⟨e, _⟩, _⟩ := hm'
        cases t with
        | false => obtain ⟨kvs, e, _⟩ := e; exact .base (.dK e)
        | true => obtain ⟨kvs, e, _⟩ := e; exact .base (.dT e)
      | dead =>
        have : tyU M (.r n) = "" := by show tyM M[n]? = _; rw [hm]; rfl
        rw [this] at h
        exact absurd h (by decide)
  | d x =>
    cases x with
    | non => cases (show v = .non from r); exact .base .non
    | bl b => cases (show v = .bl b from r); exact .base (.bl b)
    | int b => cases (show v = .int b from r); exact .base (.int b)
    | str b => obtain ⟨rfl, _⟩ := r; exact .base (.str _)
    | tup ds => obtain ⟨a, xs, rfl, h1, _⟩ := r; exact .base (.tup (w.sub _ _ h1))
    | lst ds => obtain ⟨a, xs, rfl, h1, _⟩ := r; exact .base (.lst (w.sub _ _ h1))
    | scr ds => exact absurd (show ("" : String) ∈ tyS from h) (by decide)
    | dic t ks ds =>
      obtain ⟨a, xs, rfl, ⟨h1, _⟩, _⟩ := r
      cases t with
      | false => obtain ⟨kvs, e, _⟩ := h1; exact .base (.dK (w.sub _ _ e))
      | true => obtain ⟨kvs, e, _⟩ := h1; exact .base (.dT (w.sub _ _ e))
    | obj z => exact absurd (show ("" : String) ∈ tyS from h) (by decide)
/-- isinstance(x, T), isinstance(x, (T1, T2, ..)) of built-in classes -/
def isAny (t : String) : List D → Option Bool
  | [] => some false
  | .obj (.ty c) :: cs => if (["bool", "int", "str", "tuple", "list", "dict"] : List String).contains c then (isAny t cs).map (fun b => isT c t || b) else none
  | _ :: _ => none
def fIsi : FC := fun us M Q => match us with
  | [u, .d (.obj (.ty c))] => tyS.contains (tyU M u) = true ∧ (["bool", "int", "str", "tuple", "list", "dict"] : List String).contains c = true ∧ Q (.d (.bl (isT c (tyU M u)))) M
  | [u, .d (.tup cs)] => tyS.contains (tyU M u) = true ∧ ∃ b, isAny (tyU M u) cs = some b ∧ Q (.d (.bl b)) M
  | _ => False
theorem kit_one {t c : String} (h1 : tyS.contains t = true) (h2 : (["bool", "int", "str", "tuple", "list", "dict"] : List String).contains c = true) : PySem.W.kitOne K (.type t) (.type c) = some (isT c t) :=
  kit_ty (kit_is' c (by simpa using h2) t (by simpa using h1))
theorem kit_any {t : String} (h1 : tyS.contains t = true) {F : Hp} : ∀ {cs : List D} {vs : List V} {b : Bool}, isAny t cs = some b → Reps K F cs vs → ∃ us, Paired ClsV vs us ∧ PySem.W.kitAny K (.type t) us = some b
  | [], vs, b, h, r => by
    cases (show vs = [] from r)
    exact ⟨[], .nil, h⟩
  | c :: cs, vs, b, h, r => by
    obtain ⟨v, w, rfl, r1, r2⟩ := r
    cases c with
    | obj z =>
      cases z with
      | ty n =>
        cases (show v = .ty n from r1)
        unfold isAny at h
        by_cases hc : (["bool", "int", "str", "tuple", "list", "dict"] : List String).contains n = true
        · rw [if_pos hc] at h
          have e := kit_one (K := K) h1 hc
          cases hr : isAny t cs with
          | none => rw [hr] at h; cases h
          | some b' =>
            rw [hr] at h
            have hb : (isT n t || b') = b := Option.some.inj h
            obtain ⟨us, p, q⟩ := kit_any h1 hr r2
            refine ⟨.type n :: us, .cons (.ty n) p, ?_⟩
            unfold PySem.W.kitAny
            rw [e, ← hb]
            cases isT n t with
            | true => rfl
            | false => exact q
        · rw [if_neg hc] at h; cases h
      | _ => cases h
    | _ => cases h
theorem lc_isi : LCE K (fun xs H Q => rIsi K xs H Q ∨ rIsiT K xs H Q) fIsi := fun en δ M σ H F A us vs Q R hw r q h => by
  unfold fIsi at q
  split at q
  · next u c =>
    obtain ⟨v, w, rfl, r1, r2⟩ := urs2 r
    cases (show w = .ty c from r2)
    obtain ⟨h1, h2, q⟩ := q
    exact .inl ⟨v, .ty c, _, _, _, rfl, .ty c, tyD_at hw (by simpa using h1) r1, kit_one h1 h2, h _ _ (.ret hw (u := .d (.bl (isT c (tyU M u)))) rfl q)⟩
  · next u cs =>
    obtain ⟨v, w, rfl, r1, r2⟩ := urs2 r
    obtain ⟨a, xs, rfl, h3, h4⟩ := r2
    obtain ⟨h1, b, h2, q⟩ := q
    obtain ⟨us, p, e⟩ := kit_any h1 h2 h4
    exact .inr ⟨v, a, xs, _, us, b, rfl, hw.sub _ _ h3, p, tyD_at hw (by simpa using h1) r1, e, h _ _ (.ret hw (u := .d (.bl b)) rfl q)⟩
  · exact q.elim
theorem callr_or {X : Cx} {f : Value} {r r' : List V → Hp → VK → Prop} (a : CallR X f r) (b : CallR X f r') : CallR X f (fun xs H Q => r xs H Q ∨ r' xs H Q) := by
  intro pins s σ H xs us Q I rx h
  rcases h with h | h
  · exact a pins s σ H xs us Q I rx h
  · exact b pins s σ H xs us Q I rx h
theorem cr_isi {X : Cx} : CallR X (.builtin "isinstance") (fun xs H Q => rIsi X.K xs H Q ∨ rIsiT X.K xs H Q) := callr_or call_isi call_isiT
end
end DL
namespace DL
open PySem PySem.Spec PyProof.Rows L2
/-! ### methods of built-in types -/
abbrev FM := U → List U → List MO → UK → Prop
abbrev FMF := U → List U → List MO → (MO → List MO → Prop) → Prop
def LME (K : PySem.W.Frag) (r : V → List V → Hp → VK → Prop) (f : FM) : Prop := ∀ (en : En) (δ : Dl) (M : List MO) (σ : L2.St) (H F : Hp) (A : List Addr) (x : U) (v : V) (us : List U) (vs : List V) (Q : UK) (R : VK), Wd K en δ M σ H F A → UR K F A x v → URs K F A us vs → f x us M Q →
  (∀ v' H', EPost K en δ σ F A Q v' H' → R v' H') → r v vs H R
def LMF (K : PySem.W.Frag) (r : V → List V → Hp → VK → Prop) (f : FMF) : Prop := ∀ (en : En) (δ : Dl) (M : List MO) (σ : L2.St) (H F : Hp) (A : List Addr) (x : U) (v : V) (us : List U) (vs : List V) (Q : MO → List MO → Prop) (R : VK), Wd K en δ M σ H F A → UR K F A x v → URs K F A us vs → f x us M Q →
  (∀ v' H', FPost K en δ σ F A Q v' H' → R v' H') → r v vs H R
/-- of that built-in type, for a method's call -/
def isTy (T : String) (M : List MO) (x : U) : Bool := tyU M x == T && (T == "list" || T == "str")
def wMeth (T : String) (f : FM) (o : WE) (a : WA) : WE := fun δ M Q Er => o δ M (fun x M1 => isTy T M1 x = true ∧ a δ M1 (fun us M2 => f x us M2 Q) Er) Er
def wMethF (T : String) (f : FMF) (o : WE) (a : WA) : WF := fun δ M Q Er => o δ M (fun x M1 => isTy T M1 x = true ∧ a δ M1 (fun us M2 => f x us M2 Q) Er) Er
def wMeth0 (T : String) (f : FM) (o : WE) : WE := fun δ M Q Er => o δ M (fun x M1 => isTy T M1 x = true ∧ f x [] M1 Q) Er
theorem tyV_of {K : PySem.W.Frag} {en : En} {δ : Dl} {M : List MO} {σ : L2.St} {H F : Hp} {A : List Addr} (w : Wd K en δ M σ H F A) {T : String} {u : U} {v : V} (h : isTy T M u = true) (r : UR K F A u v) : tyV K T v H := by
  unfold isTy at h
  rw [Bool.and_eq_true] at h
  have e : tyU M u = T := by simpa using h.1
  have h2 : T = "list" ∨ T = "str" := by simpa using h.2
  cases u with
  | r n =>
    obtain ⟨a, ha, rfl⟩ := r
    have e : tyM M[n]? = T := e
    cases hm : M[n]? with
    | none => rw [hm] at e; subst e; rcases h2 with h | h <;> simp [tyM, tyD] at h
    | some m =>
      rw [hm] at e
      obtain ⟨a', ha', hm'⟩ := w.at hm
      rw [ha] at ha'; cases ha'
      cases m with
      | lst ds => obtain ⟨vs, e1, _⟩ := hm'; exact .inl ⟨e.symm, vs, .inl (.inl e1)⟩
      | box ds => obtain ⟨vs, e1, _⟩ := hm'; exact .inl ⟨e.symm, vs, .inl (.inl e1)⟩
      | dct t kv => subst e; rcases h2 with h | h <;> simp [tyM, tyD] at h
      | dead => subst e; rcases h2 with h | h <;> simp [tyM, tyD] at h
  | d x =>
    have e : tyD x = T := e
    cases x with
    | str b => obtain ⟨rfl, _⟩ := r; exact e.symm
    | lst ds => obtain ⟨a, xs, rfl, h1, _⟩ := r; exact .inl ⟨e.symm, xs, .inl (.inl (w.sub _ _ h1))⟩
    | _ => subst e; rcases h2 with h | h <;> simp [tyM, tyD] at h
section
variable {X : Cx} {k : Nat} {e o : Expr} {es : List Expr} {name : Str} {apos cpos : Pos} {T id : String} {r : V → List V → Hp → VK → Prop} {wo : WE} {wa : WA}
theorem de_meth {f : FM} (pa : PlainAttrs T) (slot : Slot T name id) (hty : typeOf (.builtin id) = pure (.type "method_descriptor")) (hm : MtR X id r) (hl : LME X.K r f) (ho : DE X k o wo) (ha : DA X k (e :: es) wa)
    (hbase : attributeBase o name X.env (eval o X.env) = eval o X.env := by rfl)
    (hfew_ : (nst e && es.all nst && decide ((e :: es).length < 29)) = true := by rfl)
    (hline : (apos.endLine == cpos.line) = true := by rfl) (hs_ : nst e = true := by rfl) (hplain_ : es.all nst = true := by rfl) :
    DE X k (.Call (.Attribute o name apos) (e :: es) [] cpos) (wMeth T f wo wa) := .mk fun en δ M σ H F A Q Er hk hw hsn q => by
  refine tE.of (pe_bm pa slot hty hm pe_tE pa_tA hbase (star_few hfew_) hline (star_c hs_) (star_any hplain_)) ((ho.run en δ M σ H F A _ Er hk hw hsn q).mono ?_)
  rintro v H1 ⟨x, M1, F1, A1, w1, g1, r1, t1, q1⟩
  refine ⟨tyV_of w1 t1 r1, (ha.run en δ M1 σ H1 F1 A1 _ Er hk w1 hsn q1).mono ?_⟩
  rintro vs H2 ⟨us, M2, F2, A2, w2, g2, r2, l2, q2⟩
  exact hl en δ M2 σ H2 F2 A2 x v us vs Q _ w2 (r1.mono g2) r2 q2 fun v' H' p => p.up (g1.trans g2)
theorem df_meth {f : FMF} (pa : PlainAttrs T) (slot : Slot T name id) (hty : typeOf (.builtin id) = pure (.type "method_descriptor")) (hm : MtR X id r) (hl : LMF X.K r f) (ho : DE X k o wo) (ha : DA X k (e :: es) wa)
    (hbase : attributeBase o name X.env (eval o X.env) = eval o X.env := by rfl)
    (hfew_ : (nst e && es.all nst && decide ((e :: es).length < 29)) = true := by rfl)
    (hline : (apos.endLine == cpos.line) = true := by rfl) (hs_ : nst e = true := by rfl) (hplain_ : es.all nst = true := by rfl) :
    DF X k (.Call (.Attribute o name apos) (e :: es) [] cpos) (wMethF T f wo wa) := .mk fun en δ M σ H F A Q Er hk hw hsn q => by
  refine tE.of (pe_bm pa slot hty hm pe_tE pa_tA hbase (star_few hfew_) hline (star_c hs_) (star_any hplain_)) ((ho.run en δ M σ H F A _ Er hk hw hsn q).mono ?_)
  rintro v H1 ⟨x, M1, F1, A1, w1, g1, r1, t1, q1⟩
  refine ⟨tyV_of w1 t1 r1, (ha.run en δ M1 σ H1 F1 A1 _ Er hk w1 hsn q1).mono ?_⟩
  rintro vs H2 ⟨us, M2, F2, A2, w2, g2, r2, l2, q2⟩
  exact hl en δ M2 σ H2 F2 A2 x v us vs Q _ w2 (r1.mono g2) r2 q2 fun v' H' p => p.up (g1.trans g2)
theorem de_meth0 {f : FM} (pa : PlainAttrs T) (slot : Slot T name id) (hty : typeOf (.builtin id) = pure (.type "method_descriptor")) (hm : MtR X id r) (hl : LME X.K r f) (ho : DE X k o wo)
    (hbase : attributeBase o name X.env (eval o X.env) = eval o X.env := by rfl) (hline : (apos.endLine == cpos.line) = true := by rfl) :
    DE X k (.Call (.Attribute o name apos) [] [] cpos) (wMeth0 T f wo) := .mk fun en δ M σ H F A Q Er hk hw hsn q => by
  refine tE.of (pe_bm0 pa slot hty hm pe_tE hbase hline) ((ho.run en δ M σ H F A _ Er hk hw hsn q).mono ?_)
  rintro v H1 ⟨x, M1, F1, A1, w1, g1, r1, t1, q1⟩
  exact ⟨tyV_of w1 t1 r1, hl en δ M1 σ H1 F1 A1 x v [] [] Q _ w1 r1 rfl q1 fun v' H' p => p.up g1⟩
end
/-! ### a mutable list's methods -/
def pushM : MO → U → Option MO
  | .lst ds, .d y => some (.lst (ds ++ [y]))
  | .lst ds, .r m => some (.box (ds.map .d ++ [.r m]))
  | .box us, u => some (.box (us ++ [u]))
  | _, _ => none
def lenM : MO → Nat
  | .lst ds => ds.length
  | .box us => us.length
  | .dct _ kv => kv.length
  | _ => 0
def popM : MO → Option (U × MO)
  | .lst ds => (ds[ds.length - 1]?).map fun y => (.d y, .lst ds.dropLast)
  | .box us => (us[us.length - 1]?).map fun y => (y, .box us.dropLast)
  | _ => none
def popAtM (i : Int) : MO → Option (U × MO)
  | .lst ds => (seqIndex? i ds.length).bind fun j => (ds[j]?).map fun y => (.d y, .lst (ds.eraseIdx j))
  | .box us => (seqIndex? i us.length).bind fun j => (us[j]?).map fun y => (y, .box (us.eraseIdx j))
  | _ => none
def extM : MO → List D → Option MO
  | .lst ds, es => some (.lst (ds ++ es))
  | .box us, es => some (.box (us ++ es.map .d))
  | _, _ => none
def insM (i : Nat) : MO → U → Option MO
  | .lst ds, .d y => some (.lst (ds.take i ++ [y] ++ ds.drop i))
  | .box us, u => some (.box (us.take i ++ [u] ++ us.drop i))
  | _, _ => none
theorem URs.append {K : PySem.W.Frag} {F : Hp} {A : List Addr} : ∀ {ds es : List U} {vs ws : List V}, URs K F A ds vs → URs K F A es ws → URs K F A (ds ++ es) (vs ++ ws)
  | [], _, _, _, x, y => by have e : _ = [] := x; rw [e]; exact y
  | d :: ds, es, vs, ws, x, y => by
    obtain ⟨v, r, rfl, a, b⟩ := x
    exact ⟨v, r ++ ws, rfl, a, URs.append b y⟩
theorem URs.take {K : PySem.W.Frag} {F : Hp} {A : List Addr} : ∀ {ds : List U} {vs : List V} (n : Nat), URs K F A ds vs → URs K F A (ds.take n) (vs.take n)
  | _, _, 0, _ => by rw [List.take_zero, List.take_zero]; exact rfl
  | [], _, n + 1, x => by have e : _ = [] := x; rw [e]; exact rfl
  | d :: ds, vs, n + 1, x => by
    obtain ⟨v, r, rfl, a, b⟩ := x
    exact ⟨v, r.take n, rfl, a, URs.take n b⟩
theorem URs.drop {K : PySem.W.Frag} {F : Hp} {A : List Addr} : ∀ {ds : List U} {vs : List V} (n : Nat), URs K F A ds vs → URs K F A (ds.drop n) (vs.drop n)
  | _, _, 0, x => x
  | [], _, n + 1, x => by have e : _ = [] := x; rw [e]; exact rfl
  | d :: ds, vs, n + 1, x => by
    obtain ⟨v, r, rfl, a, b⟩ := x
    exact URs.drop n b
theorem URs.eraseIdx {K : PySem.W.Frag} {F : Hp} {A : List Addr} : ∀ {ds : List U} {vs : List V} (n : Nat), URs K F A ds vs → URs K F A (ds.eraseIdx n) (vs.eraseIdx n)
  | [], _, n, x => by have e : _ = [] := x; rw [e]; exact rfl
  | d :: ds, vs, 0, x => by
    obtain ⟨v, r, rfl, a, b⟩ := x
    exact b
  | d :: ds, vs, n + 1, x => by
    obtain ⟨v, r, rfl, a, b⟩ := x
    exact ⟨v, r.eraseIdx n, rfl, a, URs.eraseIdx n b⟩
section
variable {K : PySem.W.Frag} {en : En} {δ : Dl} {M : List MO} {σ : L2.St} {H F : Hp} {A : List Addr}
/-- a list is written: the new one as U's -/
theorem put_lst (w : Wd K en δ M σ H F A) {n : Nat} {a : Addr} {m m' : MO} {vs : List V} (ha : A[n]? = some a) (hm : M[n]? = some m) (hd : m ≠ .dead) (h : (∃ ds, m' = .lst ds ∧ Reps K F ds vs) ∨ ∃ us, m' = .box us ∧ URs K F A us vs) : Wd K en δ (M.set n m') σ (upd H a (.lst vs)) F A := by
  refine w.write (o := .lst vs) ha hm hd ?_ (fun _ e => nomatch e)
  rcases h with ⟨ds, rfl, r⟩ | ⟨us, rfl, r⟩
  · exact ⟨vs, upd_same, r⟩
  · exact ⟨vs, upd_same, r⟩
end
def fApp : FM := fun x us M Q => match x, us with
  | .r n, [u] => ∃ m m', M[n]? = some m ∧ pushM m u = some m' ∧ lenM m < sizeLine ∧ Q (.d .non) (M.set n m')
  | _, _ => False
def fPop : FM := fun x us M Q => match x, us with
  | .r n, [] => ∃ m p, M[n]? = some m ∧ popM m = some p ∧ Q p.1 (M.set n p.2)
  | _, _ => False
def fPopAt : FM := fun x us M Q => match x, us with
  | .r n, [.d (.int i)] => -(2 ^ 63) ≤ i ∧ i < 2 ^ 63 ∧ ∃ m p, M[n]? = some m ∧ popAtM i m = some p ∧ Q p.1 (M.set n p.2)
  | _, _ => False
def fExt : FM := fun x us M Q => match x, us with
  | .r n, [y] => ∃ m m' es, M[n]? = some m ∧ lstOf M y = some es ∧ extM m es = some m' ∧ lenM m + es.length ≤ sizeLine ∧ Q (.d .non) (M.set n m')
  | _, _ => False
def fIns : FM := fun x us M Q => match x, us with
  | .r n, [.d (.int i), u] => 0 ≤ i ∧ i < 2 ^ 63 ∧ ∃ m m', M[n]? = some m ∧ insM i.toNat m u = some m' ∧ lenM m < sizeLine ∧ Q (.d .non) (M.set n m')
  | _, _ => False
section
variable {K : PySem.W.Frag}
theorem lm_app : LME K rAppend fApp := fun en δ M σ H F A x v us vs Q R hw rx r q h => by
  unfold fApp at q
  split at q
  · next n u =>
    obtain ⟨a, ha, rfl⟩ := rx
    obtain ⟨w, rfl, r1⟩ := urs1 r
    obtain ⟨m, m', hm, hp, hz, q⟩ := q
    obtain ⟨a', ha', hm'⟩ := hw.at hm
    rw [ha] at ha'; cases ha'
    cases m with
    | lst ds =>
      obtain ⟨xs, e1, e2⟩ := hm'
      refine ⟨a, xs, w, rfl, rfl, e1, by rw [e2.length]; exact hz, h _ _ (.ret (put_lst hw ha hm (fun e => nomatch e) ?_) (u := .d .non) rfl q)⟩
      cases u with
      | d y => cases hp; exact .inl ⟨_, rfl, e2.append ⟨w, [], rfl, r1, rfl⟩⟩
      | r j => cases hp; exact .inr ⟨_, rfl, (URs.of_reps e2).append ⟨w, [], rfl, r1, rfl⟩⟩
    | box ds =>
      obtain ⟨xs, e1, e2⟩ := hm'
      refine ⟨a, xs, w, rfl, rfl, e1, by rw [e2.length]; exact hz, h _ _ (.ret (put_lst hw ha hm (fun e => nomatch e) ?_) (u := .d .non) rfl q)⟩
      cases hp; exact .inr ⟨_, rfl, e2.append ⟨w, [], rfl, r1, rfl⟩⟩
    | _ => cases hp
  · exact q.elim
theorem dropLast_take {α : Type} (l : List α) : l.dropLast = l.take (l.length - 1) := List.dropLast_eq_take
theorem lm_pop : LME K rPop fPop := fun en δ M σ H F A x v us vs Q R hw rx r q h => by
  unfold fPop at q
  split at q
  · next n =>
    obtain ⟨a, ha, rfl⟩ := rx
    cases (show vs = [] from r)
    obtain ⟨m, p, hm, hp, q⟩ := q
    obtain ⟨a', ha', hm'⟩ := hw.at hm
    rw [ha] at ha'; cases ha'
    cases m with
    | lst ds =>
      obtain ⟨xs, e1, e2⟩ := hm'
      cases hd : ds[ds.length - 1]? with
      | none => simp [popM, hd] at hp
      | some y =>
        simp only [popM, hd, Option.map_some] at hp
        cases hp
        obtain ⟨w, h1, h2⟩ := e2.get hd
        refine ⟨a, xs, w, rfl, rfl, e1, by rw [e2.length]; exact h1, h _ _ (.ret (put_lst hw ha hm (fun e => nomatch e) (.inl ⟨_, rfl, ?_⟩)) (u := .d y) h2 q)⟩
        rw [dropLast_take, dropLast_take, e2.length]
        exact e2.take _
    | box ds =>
      obtain ⟨xs, e1, e2⟩ := hm'
      cases hd : ds[ds.length - 1]? with
      | none => simp [popM, hd] at hp
      | some y =>
        simp only [popM, hd, Option.map_some] at hp
        cases hp
        obtain ⟨w, h1, h2⟩ := e2.get hd
        refine ⟨a, xs, w, rfl, rfl, e1, by rw [e2.length]; exact h1, h _ _ (.ret (put_lst hw ha hm (fun e => nomatch e) (.inr ⟨_, rfl, ?_⟩)) h2 q)⟩
        rw [dropLast_take, dropLast_take, e2.length]
        exact e2.take _
    | _ => cases hp
  · exact q.elim
theorem lm_popAt : LME K rPopAt fPopAt := fun en δ M σ H F A x v us vs Q R hw rx r q h => by
  unfold fPopAt at q
  split at q
  · next n i =>
    obtain ⟨a, ha, rfl⟩ := rx
    obtain ⟨w, rfl, r1⟩ := urs1 r
    cases (show w = .int i from r1)
    obtain ⟨b1, b2, m, p, hm, hp, q⟩ := q
    obtain ⟨a', ha', hm'⟩ := hw.at hm
    rw [ha] at ha'; cases ha'
    cases m with
    | lst ds =>
      obtain ⟨xs, e1, e2⟩ := hm'
      cases hj : seqIndex? i ds.length with
      | none => simp [popAtM, hj] at hp
      | some j =>
        cases hd : ds[j]? with
        | none => simp [popAtM, hj, hd] at hp
        | some y =>
          simp only [popAtM, hj, hd, Option.map_some, Option.bind_some] at hp
          cases hp
          obtain ⟨w, h1, h2⟩ := e2.get hd
          exact ⟨a, xs, i, j, w, rfl, rfl, e1, b1, b2, by rw [e2.length]; exact hj, h1, h _ _ (.ret (put_lst hw ha hm (fun e => nomatch e) (.inl ⟨_, rfl, e2.eraseIdx j⟩)) (u := .d y) h2 q)⟩
    | box ds =>
      obtain ⟨xs, e1, e2⟩ := hm'
      cases hj : seqIndex? i ds.length with
      | none => simp [popAtM, hj] at hp
      | some j =>
        cases hd : ds[j]? with
        | none => simp [popAtM, hj, hd] at hp
        | some y =>
          simp only [popAtM, hj, hd, Option.map_some, Option.bind_some] at hp
          cases hp
          obtain ⟨w, h1, h2⟩ := e2.get hd
          exact ⟨a, xs, i, j, w, rfl, rfl, e1, b1, b2, by rw [e2.length]; exact hj, h1, h _ _ (.ret (put_lst hw ha hm (fun e => nomatch e) (.inr ⟨_, rfl, e2.eraseIdx j⟩)) h2 q)⟩
    | _ => cases hp
  · exact q.elim
theorem lm_ext : LME K rExtend fExt := fun en δ M σ H F A x v us vs Q R hw rx r q h => by
  unfold fExt at q
  split at q
  · next n y =>
    obtain ⟨a, ha, rfl⟩ := rx
    obtain ⟨w, rfl, r1⟩ := urs1 r
    obtain ⟨m, m', es, hm, hes, hp, hz, q⟩ := q
    obtain ⟨b, zs, rfl, h1, h2⟩ := lstOf_at hw hes r1
    obtain ⟨a', ha', hm'⟩ := hw.at hm
    rw [ha] at ha'; cases ha'
    cases m with
    | lst ds =>
      obtain ⟨xs, e1, e2⟩ := hm'
      cases hp
      exact ⟨a, b, xs, zs, rfl, rfl, e1, h1, by rw [e2.length, h2.length]; exact hz, h _ _ (.ret (put_lst hw ha hm (fun e => nomatch e) (.inl ⟨_, rfl, e2.append h2⟩)) (u := .d .non) rfl q)⟩
    | box ds =>
      obtain ⟨xs, e1, e2⟩ := hm'
      cases hp
      exact ⟨a, b, xs, zs, rfl, rfl, e1, h1, by rw [e2.length, h2.length]; exact hz, h _ _ (.ret (put_lst hw ha hm (fun e => nomatch e) (.inr ⟨_, rfl, e2.append (.of_reps h2)⟩)) (u := .d .non) rfl q)⟩
    | _ => cases hp
  · exact q.elim
theorem lm_ins : LME K (fun x vs H Q => ∃ (l : Addr) (xs : List V) (i : Int) (y : V), x = .ref l ∧ vs = [.int i, y] ∧ H l = some (.lst xs) ∧ xs.length < sizeLine ∧ 0 ≤ i ∧ i < 2 ^ 63 ∧ Q .non (upd H l (.lst (xs.take i.toNat ++ [y] ++ xs.drop i.toNat)))) fIns := fun en δ M σ H F A x v us vs Q R hw rx r q h => by
  unfold fIns at q
  split at q
  · next n i u =>
    obtain ⟨a, ha, rfl⟩ := rx
    obtain ⟨w1, w, rfl, r0, r1⟩ := urs2 r
    cases (show w1 = .int i from r0)
    obtain ⟨b1, b2, m, m', hm, hp, hz, q⟩ := q
    obtain ⟨a', ha', hm'⟩ := hw.at hm
    rw [ha] at ha'; cases ha'
    cases m with
    | lst ds =>
      obtain ⟨xs, e1, e2⟩ := hm'
      cases u with
      | d y =>
        cases hp
        exact ⟨a, xs, i, w, rfl, rfl, e1, by rw [e2.length]; exact hz, b1, b2, h _ _ (.ret (put_lst hw ha hm (fun e => nomatch e) (.inl ⟨_, rfl, ((e2.take _).append (Reps.cons r1 (show Reps K F [] [] from rfl))).append (e2.drop _)⟩)) (u := .d .non) rfl q)⟩
      | r j => cases hp
    | box ds =>
      obtain ⟨xs, e1, e2⟩ := hm'
      cases hp
      exact ⟨a, xs, i, w, rfl, rfl, e1, by rw [e2.length]; exact hz, b1, b2, h _ _ (.ret (put_lst hw ha hm (fun e => nomatch e) (.inr ⟨_, rfl, ((e2.take _).append (show URs K F A [u] [w] from ⟨w, [], rfl, r1, rfl⟩)).append (e2.drop _)⟩)) (u := .d .non) rfl q)⟩
    | _ => cases hp
  · exact q.elim
end
/-! ### what is walked -/
def rng (lo : Int) : Nat → List D
  | 0 => []
  | n + 1 => .int lo :: rng (lo + 1) n
theorem rng_len : ∀ (n : Nat) (lo : Int), (rng lo n).length = n
  | 0, _ => rfl
  | n + 1, lo => by show (rng (lo + 1) n).length + 1 = n + 1; rw [rng_len n]
theorem rng_get : ∀ (n : Nat) (lo : Int) (i : Nat), i < n → (rng lo n)[i]? = some (.int (lo + i))
  | 0, _, _, h => absurd h (Nat.not_lt_zero _)
  | n + 1, lo, 0, _ => by show some (D.int lo) = _; simp
  | n + 1, lo, i + 1, h => by
    show (rng (lo + 1) n)[i]? = _
    rw [rng_get n (lo + 1) i (by omega)]
    congr 2
    push_cast
    omega
def wRng1 (a : WA) : WI := fun δ M Q Er => a δ M (fun us M1 => match us with
  | [.d (.int n)] => -(2 ^ 62) ≤ n ∧ n < 2 ^ 62 ∧ Q (rng 0 n.toNat) M1
  | _ => False) Er
def wRng2 (a : WA) : WI := fun δ M Q Er => a δ M (fun us M1 => match us with
  | [.d (.int lo), .d (.int hi)] => (-(2 ^ 62) ≤ lo ∧ lo < 2 ^ 62 ∧ -(2 ^ 62) ≤ hi ∧ hi < 2 ^ 62) ∧ Q (rng lo (hi - lo).toNat) M1
  | _ => False) Er
/-- the items of a list or tuple that is data -/
def dataSeq : U → Option (List D)
  | .d (.tup ds) => some ds
  | .d (.lst ds) => some ds
  | .d (.scr ds) => some ds
  | _ => none
def wIt (a : WE) : WI := fun δ M Q Er => a δ M (fun u M1 => ∃ ds, dataSeq u = some ds ∧ Q ds M1) Er
section
variable {X : Cx} {k : Nat} {tg : Expr} {p pos : Pos}
theorem itok_rng {K : PySem.W.Frag} {en : En} {F : Hp} {lo : Int} {n : Nat} : ItOk K en F (Itr lo n) (rng lo n) := fun δ M σ H F' A hw _ i => by
  rw [rng_len]
  refine ⟨fun hi => ⟨hi, fun x H' hy => ?_⟩, fun hi => hi⟩
  obtain ⟨rfl, rfl⟩ := hy
  exact ⟨F', .int (lo + i), hw, Same.refl _, rng_get n lo i hi, rfl⟩
theorem di_range1 {a : Expr} {wa : WA} (hm : X.mg "range" = none) (ha : DA X k [a] wa) (hg : Gl X "range" := by rfl) (hs_ : nst a = true := by rfl) : DI X k tg (.Call (.Name "range" p) [a] [] pos) (wRng1 wa) := .mk fun en δ M σ H F A Q Er hk hw hsn q => by
  refine tI.of (pi_range1 hg hm pa_tA (star_c hs_)) ((ha.run en δ M σ H F A _ Er hk hw hsn q).mono ?_)
  rintro vs H1 ⟨us, M1, F1, A1, w1, g1, r1, l1, q1⟩
  split at q1
  · next n =>
    obtain ⟨v, rfl, r2⟩ := urs1 r1
    cases (show v = .int n from r2)
    exact ⟨n, rfl, q1.1, q1.2.1, _, M1, F1, A1, w1, g1, fun _ => itok_rng, q1.2.2⟩
  · exact q1.elim
theorem di_range2 {a b : Expr} {wa : WA} (hm : X.mg "range" = none) (ha : DA X k [a, b] wa) (hg : Gl X "range" := by rfl) (hs_ : nst a = true := by rfl) (hs2_ : nst b = true := by rfl) :
    DI X k tg (.Call (.Name "range" p) [a, b] [] pos) (wRng2 wa) := .mk fun en δ M σ H F A Q Er hk hw hsn q => by
  refine tI.of (pi_range2 hg hm pa_tA ((star_c hs_).trans (congrArg _ (star_c hs2_))) (star_c hs2_)) ((ha.run en δ M σ H F A _ Er hk hw hsn q).mono ?_)
  rintro vs H1 ⟨us, M1, F1, A1, w1, g1, r1, l1, q1⟩
  split at q1
  · next lo hi =>
    obtain ⟨v, w, rfl, r2, r3⟩ := urs2 r1
    cases (show v = .int lo from r2)
    cases (show w = .int hi from r3)
    exact ⟨lo, hi, rfl, q1.1, _, M1, F1, A1, w1, g1, fun _ => itok_rng, q1.2⟩
  · exact q1.elim
def iSeq (K : PySem.W.Frag) (tl : TE) : TI := fun σ H R => tl σ H fun x H1 => ∃ a, x = .ref a ∧ (((∃ xs, SqL K H1 a xs) ∧ R (Itl K a) H1) ∨ ((∃ xs, SqT K H1 a xs) ∧ R (Itt K a) H1))
theorem pi_seq {l : Expr} {tl : TE} (hl : PE X l tl) : PI X tg l (iSeq X.K tl) := by
  refine ⟨fun pins s σ H R I h => ?_⟩
  refine thn (hl.run pins s σ H _ I h) fun v s1 ⟨x, H1, I1, r1, q1⟩ => ?_
  obtain ⟨a, e, q⟩ := q1
  subst e
  cases r1
  rcases q with ⟨⟨xs, hq⟩, q⟩ | ⟨⟨xs, hq⟩, q⟩
  · obtain ⟨its, rv, p, hz⟩ := I1.list hq
    refine wpAny_pyIter_list p.isList ?_
    refine ⟨s1.heap.objs.size, [s1.heap.objs.size], _, _, H1, rfl, I1.kept (t' := s1.toks) fun b o e => Heap.get?_push_of_some _ e, turn_list a _, ⟨_, Heap.get?_push_size _ rfl, rfl, rfl⟩, fun b hb => ?_, q⟩
    have e : b = s1.heap.objs.size := by simpa using hb
    subst e
    exact I1.fpOk (Nat.le_refl _) (I1.hok.fresh (Nat.le_refl _))
  · obtain ⟨its, rv, p, hz⟩ := I1.tuple hq
    refine wpAny_pyIter_tuple (show s1.heap.IsTuple a its.toArray from p) ?_
    refine ⟨s1.heap.objs.size, [s1.heap.objs.size], _, _, H1, rfl, I1.kept (t' := s1.toks) fun b o e => Heap.get?_push_of_some _ e, turn_tuple a _, ⟨_, Heap.get?_push_size _ rfl, rfl, rfl⟩, fun b hb => ?_, q⟩
    have e : b = s1.heap.objs.size := by simpa using hb
    subst e
    exact I1.fpOk (Nat.le_refl _) (I1.hok.fresh (Nat.le_refl _))
theorem itok_lst {K : PySem.W.Frag} {en : En} {F : Hp} {a : Addr} {vs : List V} {ds : List D} (h : SqL K F a vs) (r : Reps K F ds vs) : ItOk K en F (Itl K a) ds := fun δ M σ H F' A hw hs i => by
  have hL : SqL K H a vs := hw.sub.seq (hs.seq h)
  refine ⟨fun hi => ?_, fun hi => ⟨vs, hL, by rw [r.length]; exact hi⟩⟩
  obtain ⟨v, h1, h2⟩ := r.get (List.getElem?_eq_getElem hi)
  refine ⟨⟨vs, v, hL, h1⟩, fun x H' hy => ?_⟩
  obtain ⟨rfl, f⟩ := hy
  have : x = v := Option.some.inj ((f _ hL).symm.trans h1)
  subst this
  exact ⟨F', ds[i], hw, Same.refl _, List.getElem?_eq_getElem hi, h2.mono hs⟩
theorem itok_tup {K : PySem.W.Frag} {en : En} {F : Hp} {a : Addr} {vs : List V} {ds : List D} (h : SqT K F a vs) (r : Reps K F ds vs) : ItOk K en F (Itt K a) ds := fun δ M σ H F' A hw hs i => by
  have hL : SqT K H a vs := same_sqT hw.sub (same_sqT hs h)
  refine ⟨fun hi => ?_, fun hi => ⟨vs, hL, by rw [r.length]; exact hi⟩⟩
  obtain ⟨v, h1, h2⟩ := r.get (List.getElem?_eq_getElem hi)
  refine ⟨⟨vs, v, hL, h1⟩, fun x H' hy => ?_⟩
  obtain ⟨rfl, f⟩ := hy
  have : x = v := Option.some.inj ((f _ hL).symm.trans h1)
  subst this
  exact ⟨F', ds[i], hw, Same.refl _, List.getElem?_eq_getElem hi, h2.mono hs⟩
theorem di_seq {e : Expr} {we : WE} (he : DE X k e we) : DI X k tg e (wIt we) := .mk fun en δ M σ H F A Q Er hk hw hsn q => by
  refine tI.of (pi_seq pe_tE) ((he.run en δ M σ H F A _ Er hk hw hsn q).mono ?_)
  rintro v H1 ⟨u, M1, F1, A1, w1, g1, r1, ds, hd, q1⟩
  cases u with
  | r n => cases hd
  | d x =>
    cases x with
    | tup es =>
      cases hd
      obtain ⟨a, xs, rfl, h1, h2⟩ := r1
      exact ⟨a, rfl, .inr ⟨⟨xs, .inl (.inl (w1.sub _ _ h1))⟩, ds, M1, F1, A1, w1, g1, fun _ => itok_tup (.inl (.inl h1)) h2, q1⟩⟩
    | lst es =>
      cases hd
      obtain ⟨a, xs, rfl, h1, h2⟩ := r1
      exact ⟨a, rfl, .inl ⟨⟨xs, .inl (.inl (w1.sub _ _ h1))⟩, ds, M1, F1, A1, w1, g1, fun _ => itok_lst (.inl (.inl h1)) h2, q1⟩⟩
    | scr es =>
      cases hd
      obtain ⟨a, xs, rfl, h1, h2⟩ := r1
      exact ⟨a, rfl, .inl ⟨⟨xs, w1.sub.seq h1⟩, ds, M1, F1, A1, w1, g1, fun _ => itok_lst h1 h2, q1⟩⟩
    | _ => cases hd
end
end DL
namespace DL
open PySem PySem.Spec PyProof.Rows L2
/-! ### dicts -/
def keyK : D → Option Key
  | .int i => some (.inl i)
  | .str s => some (.inr ⟨s.toArray⟩)
  | _ => none
def keyKs : List D → Option (List Key)
  | [] => some []
  | d :: ds => (keyK d).bind fun k => (keyKs ds).map (k :: ·)
def keyT : D → Option (List Key)
  | .tup ds => keyKs ds
  | _ => none
theorem keyK_D {d : D} {k : Key} (h : keyK d = some k) : keyD k = d := by
  cases d <;> first | (cases h; done) | skip
  case int i => cases h; rfl
  case str s => cases h; rfl
theorem keyK_V {K : PySem.W.Frag} {F : Hp} {d : D} {k : Key} {v : V} (h : keyK d = some k) (r : Rep K F d v) : v = kV k := by
  cases d <;> first | (cases h; done) | skip
  case int i => cases h; exact r
  case str s => cases h; exact r.1
theorem keyKs_D : ∀ {ds : List D} {ks : List Key}, keyKs ds = some ks → ks.map keyD = ds
  | [], ks, h => by cases h; rfl
  | d :: ds, ks, h => by
    unfold keyKs at h
    cases e : keyK d with
    | none => rw [e] at h; cases h
    | some k =>
      rw [e] at h
      cases e2 : keyKs ds with
      | none => rw [e2] at h; cases h
      | some ks' =>
        rw [e2] at h
        have : k :: ks' = ks := Option.some.inj h
        subst this
        rw [List.map_cons, keyK_D e, keyKs_D e2]
theorem keyKs_V {K : PySem.W.Frag} {F : Hp} : ∀ {ds : List D} {ks : List Key} {vs : List V}, keyKs ds = some ks → Reps K F ds vs → vs = ks.map kV
  | [], ks, vs, h, r => by cases h; exact r
  | d :: ds, ks, vs, h, r => by
    obtain ⟨v, w, rfl, r1, r2⟩ := r
    unfold keyKs at h
    cases e : keyK d with
    | none => rw [e] at h; cases h
    | some k =>
      rw [e] at h
      cases e2 : keyKs ds with
      | none => rw [e2] at h; cases h
      | some ks' =>
        rw [e2] at h
        have : k :: ks' = ks := Option.some.inj h
        subst this
        rw [List.map_cons, keyK_V e r1, keyKs_V e2 r2]
theorem eqD_key (a b : Key) : eqD (keyD a) (keyD b) = decide (a = b) := by
  cases a with
  | inl i => cases b with
    | inl j => show eqD (.int i) (.int j) = _; simp only [eqD]; rw [Bool.eq_iff_iff]; simp
    | inr y => show eqD (.int i) (.str _) = _; simp only [eqD]; rw [Bool.eq_iff_iff]; simp
  | inr x => cases b with
    | inl j => show eqD (.str _) (.int j) = _; simp only [eqD]; rw [Bool.eq_iff_iff]; simp
    | inr y =>
      show eqD (.str x.cps.toList) (.str y.cps.toList) = _
      simp only [eqD]
      rw [Bool.eq_iff_iff]
      simp only [beq_iff_eq, decide_eq_true_eq, Sum.inr.injEq]
      exact ⟨fun h => TL.ext_tl h, fun h => by rw [h]⟩
theorem eqDs_keys : ∀ (a b : List Key), eqDs (a.map keyD) (b.map keyD) = decide (a = b)
  | [], [] => by simp [eqDs]
  | [], _ :: _ => by simp [eqDs]
  | _ :: _, [] => by simp [eqDs]
  | x :: a, y :: b => by
    rw [List.map_cons, List.map_cons]
    simp only [eqDs]
    rw [eqD_key, eqDs_keys a b, Bool.eq_iff_iff]
    simp
/-- a dict's pairs -/
def asc (kv : List (D × D)) (k : D) : Option D := (kv.find? fun p => eqD p.1 k).map (·.2)
def putA (kv : List (D × D)) (k d : D) : List (D × D) := if kv.any (fun p => eqD p.1 k) then kv.map (fun p => if eqD p.1 k then (p.1, d) else p) else kv ++ [(k, d)]
section
variable {κ : Type} [DecidableEq κ] {enc : κ → D} (he : ∀ a b, eqD (enc a) (enc b) = decide (a = b)) {K : PySem.W.Frag} {F : Hp}
/-- the pairs and what they are in the heap -/
def KvR (enc : κ → D) (K : PySem.W.Frag) (F : Hp) (kv : List (D × D)) (kvs : List (κ × V)) : Prop := kv.map (·.1) = kvs.map (fun p => enc p.1) ∧ Reps K F (kv.map (·.2)) (kvs.map (·.2))
theorem KvR.cons {p : D × D} {kv : List (D × D)} {q : κ × V} {kvs : List (κ × V)} (h1 : p.1 = enc q.1) (h2 : Rep K F p.2 q.2) (h : KvR enc K F kv kvs) : KvR enc K F (p :: kv) (q :: kvs) :=
  ⟨by rw [List.map_cons, List.map_cons, h1, h.1], Reps.cons h2 h.2⟩
theorem KvR.inv {p : D × D} {kv : List (D × D)} {kvs : List (κ × V)} (h : KvR enc K F (p :: kv) kvs) : ∃ q r, kvs = q :: r ∧ p.1 = enc q.1 ∧ Rep K F p.2 q.2 ∧ KvR enc K F kv r := by
  obtain ⟨h1, h2⟩ := h
  cases kvs with
  | nil => rw [List.map_cons] at h1; cases h1
  | cons q r =>
    rw [List.map_cons, List.map_cons] at h1
    injection h1 with a b
    obtain ⟨v, w, e, c, d⟩ := h2
    injection e with e1 e2
    subst e1; subst e2
    exact ⟨q, r, rfl, a, c, b, d⟩
theorem KvR.nil_inv {kvs : List (κ × V)} (h : KvR enc K F [] kvs) : kvs = [] := by
  cases kvs with
  | nil => rfl
  | cons q r => have := h.1; cases this
include he in
theorem KvR.some : ∀ {kv : List (D × D)} {kvs : List (κ × V)} {k : κ} {d : D}, KvR enc K F kv kvs → asc kv (enc k) = some d → ∃ v, valV kvs k = some v ∧ Rep K F d v
  | [], kvs, k, d, h, e => by cases e
  | p :: kv, kvs, k, d, h, e => by
    obtain ⟨q, r, rfl, h1, h2, h3⟩ := h.inv
    unfold asc at e
    rw [List.find?_cons, h1, he] at e
    by_cases hk : q.1 = k
    · rw [decide_eq_true hk] at e
      have : p.2 = d := by simpa using e
      subst this
      exact ⟨q.2, valV_pos hk, h2⟩
    · rw [decide_eq_false hk] at e
      obtain ⟨v, a, b⟩ := KvR.some h3 (show asc kv (enc k) = Option.some d from e)
      exact ⟨v, (valV_neg hk).trans a, b⟩
include he in
theorem KvR.none : ∀ {kv : List (D × D)} {kvs : List (κ × V)} {k : κ}, KvR enc K F kv kvs → asc kv (enc k) = Option.none → valV kvs k = Option.none
  | [], kvs, k, h, e => by rw [h.nil_inv]; rfl
  | p :: kv, kvs, k, h, e => by
    obtain ⟨q, r, rfl, h1, h2, h3⟩ := h.inv
    unfold asc at e
    rw [List.find?_cons, h1, he] at e
    by_cases hk : q.1 = k
    · rw [decide_eq_true hk] at e; cases e
    · rw [decide_eq_false hk] at e
      exact (valV_neg hk).trans (KvR.none h3 (show asc kv (enc k) = Option.none from e))
include he in
theorem KvR.any : ∀ {kv : List (D × D)} {kvs : List (κ × V)} {k : κ}, KvR enc K F kv kvs → kv.any (fun p => eqD p.1 (enc k)) = kvs.any (fun p => decide (p.1 = k))
  | [], kvs, k, h => by rw [h.nil_inv]; rfl
  | p :: kv, kvs, k, h => by
    obtain ⟨q, r, rfl, h1, h2, h3⟩ := h.inv
    rw [List.any_cons, List.any_cons, h1, he, KvR.any h3]
include he in
theorem KvR.mapPut : ∀ {kv : List (D × D)} {kvs : List (κ × V)} {k : κ} {d : D} {v : V}, KvR enc K F kv kvs → Rep K F d v → KvR enc K F (kv.map (fun p => if eqD p.1 (enc k) then (p.1, d) else p)) (kvs.map (fun p => if p.1 = k then (p.1, v) else p))
  | [], kvs, k, d, v, h, r => by rw [h.nil_inv]; exact ⟨rfl, rfl⟩
  | p :: kv, kvs, k, d, v, h, r => by
    obtain ⟨q, w, rfl, h1, h2, h3⟩ := h.inv
    rw [List.map_cons, List.map_cons]
    refine KvR.cons ?_ ?_ (KvR.mapPut h3 r)
    · by_cases hk : q.1 = k
      · rw [h1, he, decide_eq_true hk, if_pos rfl, if_pos hk]
      · rw [h1, he, decide_eq_false hk, if_neg hk, if_neg Bool.false_ne_true]; exact h1
    · by_cases hk : q.1 = k
      · rw [h1, he, decide_eq_true hk, if_pos rfl, if_pos hk]; exact r
      · rw [h1, he, decide_eq_false hk, if_neg hk, if_neg Bool.false_ne_true]; exact h2
theorem KvR.app : ∀ {kv kv2 : List (D × D)} {kvs kvs2 : List (κ × V)}, KvR enc K F kv kvs → KvR enc K F kv2 kvs2 → KvR enc K F (kv ++ kv2) (kvs ++ kvs2) := fun a b =>
  ⟨by rw [List.map_append, List.map_append, a.1, b.1], by rw [List.map_append, List.map_append]; exact a.2.append b.2⟩
include he in
theorem KvR.put {kv : List (D × D)} {kvs : List (κ × V)} {k : κ} {d : D} {v : V} (h : KvR enc K F kv kvs) (r : Rep K F d v) : KvR enc K F (putA kv (enc k) d) (putK kvs k v) := by
  unfold putA putK
  rw [KvR.any he h]
  split
  · exact KvR.mapPut he h r
  · exact h.app ⟨rfl, v, [], rfl, r, rfl⟩
theorem KvR.length {kv : List (D × D)} {kvs : List (κ × V)} (h : KvR enc K F kv kvs) : kvs.length = kv.length := by
  have := congrArg List.length h.1
  rw [List.length_map, List.length_map] at this
  exact this.symm
end
/-- the dict's pairs that a value has -/
def mdct : Option MO → Option (Bool × List (D × D))
  | some (.dct t kv) => some (t, kv)
  | _ => none
def dctOf (M : List MO) : U → Option (Bool × List (D × D))
  | .d (.dic t ks vs) => if ks.length = vs.length then some (t, ks.zip vs) else none
  | .r n => mdct M[n]?
  | _ => none
/-- a key that fits -/
def keyOk (t : Bool) (k : D) : Bool := if t then (keyT k).isSome else (keyK k).isSome
section
variable {K : PySem.W.Frag} {en : En} {δ : Dl} {M : List MO} {σ : L2.St} {H F : Hp} {A : List Addr}
def DicR0 (K : PySem.W.Frag) (F H : Hp) (a : Addr) (t : Bool) (kv : List (D × D)) : Prop := match t with
  | false => ∃ kvs : List (Key × V), H a = some (.dK kvs) ∧ KvR keyD K F kv kvs
  | true => ∃ kvs : List (List Key × V), H a = some (.dT kvs) ∧ KvR (fun k => D.tup (k.map keyD)) K F kv kvs
def DicR (K : PySem.W.Frag) (F H : Hp) (a : Addr) (t : Bool) (kv : List (D × D)) : Prop := DicR0 K F H a t kv ∧ ∀ k ∈ kv.map (·.1), goodK k
theorem dctOf_at (w : Wd K en δ M σ H F A) {u : U} {v : V} {t : Bool} {kv : List (D × D)} (h : dctOf M u = some (t, kv)) (r : UR K F A u v) : ∃ a, v = .ref a ∧ DicR K F H a t kv := by
  have fin : ∀ {a : Addr} {ks : List D} {xs : List V} {ds : List D}, kv.map (·.1) = ks → kv.map (·.2) = ds → (DicAt H a t ks xs ∧ ∀ k ∈ ks, goodK k) → Reps K F ds xs → DicR K F H a t kv := fun {a ks xs ds} e1 e2 hd hr => by
    subst e1; subst e2
    obtain ⟨hd, gd⟩ := hd
    refine ⟨?_, gd⟩
    cases t with
    | false => obtain ⟨kvs, e, e3, e4⟩ := hd; exact ⟨kvs, e, e3, by rw [← e4]; exact hr⟩
    | true => obtain ⟨kvs, e, e3, e4⟩ := hd; exact ⟨kvs, e, e3, by rw [← e4]; exact hr⟩
  cases u with
  | r n =>
    obtain ⟨a, ha, rfl⟩ := r
    have h : mdct M[n]? = some (t, kv) := h
    cases hm : M[n]? with
    | none => rw [hm] at h; cases h
    | some m =>
      rw [hm] at h
      obtain ⟨a', ha', hm'⟩ := w.at hm
      rw [ha] at ha'; cases ha'
      cases m with
      | dct t' kv' =>
        cases h
        obtain ⟨xs, e1, e2⟩ := hm'
        exact ⟨a, rfl, fin rfl rfl e1 e2⟩
      | _ => cases h
  | d x =>
    cases x with
    | dic t' ks vs =>
      obtain ⟨a, xs, rfl, e1, e2⟩ := r
      have h : (if ks.length = vs.length then some (t', ks.zip vs) else none) = some (t, kv) := h
      by_cases hl : ks.length = vs.length
      · rw [if_pos hl] at h
        cases h
        exact ⟨a, rfl, fin (List.map_fst_zip (Nat.le_of_eq hl)) (List.map_snd_zip (Nat.le_of_eq hl.symm)) ⟨e1.1.mono w.sub, e1.2⟩ e2⟩
      · rw [if_neg hl] at h; cases h
    | _ => cases h
theorem eqD_keyT (a b : List Key) : eqD (D.tup (a.map keyD)) (D.tup (b.map keyD)) = decide (a = b) := by
  simp only [eqD]
  exact eqDs_keys a b
/-- a look into it -/
theorem dget_of (w : Wd K en δ M σ H F A) {a : Addr} {t : Bool} {kv : List (D × D)} {k : D} {v : V} (d : DicR K F H a t kv) (hk : keyOk t k = true) (r : Rep K F k v) :
    (∀ x, asc kv k = some x → ∃ y, DGet H a v (some y) ∧ Rep K F x y) ∧ (asc kv k = none → DGet H a v none) := by
  obtain ⟨d, _⟩ := d
  cases t with
  | false =>
    obtain ⟨kvs, e, h⟩ := d
    unfold keyOk at hk
    cases hkk : keyK k with
    | none => rw [hkk] at hk; cases hk
    | some kk =>
      have ek := keyK_D hkk
      have ev := keyK_V hkk r
      subst ev
      rw [← ek]
      refine ⟨fun x hx => ?_, fun hx => ?_⟩
      · obtain ⟨y, h1, h2⟩ := h.some eqD_key hx
        exact ⟨y, by rw [← h1]; exact DGet.k e, h2⟩
      · have h1 := h.none eqD_key hx
        rw [← h1]; exact DGet.k e
  | true =>
    obtain ⟨kvs, e, h⟩ := d
    unfold keyOk at hk
    cases k with
    | tup ds =>
      cases hkk : keyKs ds with
      | none =>
        have hk' : (keyKs ds).isSome = true := hk
        rw [hkk] at hk'; cases hk'
      | some ks =>
        have ek := keyKs_D hkk
        obtain ⟨b, xs, rfl, h1, h2⟩ := r
        have ev := keyKs_V hkk h2
        subst ev
        rw [← ek]
        refine ⟨fun x hx => ?_, fun hx => ?_⟩
        · obtain ⟨y, h3, h4⟩ := h.some eqD_keyT hx
          exact ⟨y, by rw [← h3]; exact DGet.t e (w.sub _ _ h1), h4⟩
        · have h3 := h.none eqD_keyT hx
          rw [← h3]; exact DGet.t e (w.sub _ _ h1)
    | _ => cases hk
end
theorem good_of {K : PySem.W.Frag} {F : Hp} {k : D} {v : V} {t : Bool} (hk : keyOk t k = true) (r : Rep K F k v) : goodK k := by
  cases k <;> first | trivial | skip
  case str s => exact r.2
  case tup ds =>
    obtain ⟨a, xs, rfl, _, h⟩ := r
    intro d hd
    obtain ⟨i, hi⟩ := List.mem_iff_getElem?.mp hd
    obtain ⟨v, _, rv⟩ := h.get hi
    cases d <;> first | trivial | skip
    case str s => exact rv.2
theorem putA_keys {kv : List (D × D)} {k d : D} {k' : D} (h : k' ∈ (putA kv k d).map (·.1)) : k' ∈ kv.map (·.1) ∨ k' = k := by
  unfold putA at h
  split at h
  · rw [List.map_map] at h
    obtain ⟨p, hp, e⟩ := List.mem_map.mp h
    refine .inl (List.mem_map.mpr ⟨p, hp, ?_⟩)
    rw [← e]
    show p.1 = (if eqD p.1 k = true then (p.1, d) else p).1
    split <;> rfl
  · rw [List.map_append] at h
    rcases List.mem_append.mp h with h | h
    · exact .inl h
    · exact .inr (by simpa using h)
end DL
namespace DL
open PySem PySem.Spec PyProof.Rows L2
section
variable {K : PySem.W.Frag} {en : En} {δ : Dl} {M : List MO} {σ : L2.St} {H F : Hp} {A : List Addr}
/-- a store into a mutable dict -/
theorem dput_of (w : Wd K en δ M σ H F A) {n : Nat} {a : Addr} {t : Bool} {kv : List (D × D)} {k x : D} {v y : V} (ha : A[n]? = some a) (hm : M[n]? = some (.dct t kv)) (hk : keyOk t k = true) (hz : kv.length < sizeLine) (r : Rep K F k v) (rx : Rep K F x y) :
    ∃ H', DPut H a v y H' ∧ Wd K en δ (M.set n (.dct t (putA kv k x))) σ H' F A := by
  have fin : ∀ {t : Bool} {kv2 : List (D × D)} {o : HO}, M[n]? = some (.dct t kv) → DicR K F (upd H a o) a t kv2 → (∀ xs, o ≠ .tup xs) → Wd K en δ (M.set n (.dct t kv2)) σ (upd H a o) F A := fun {t kv2 o} hm d ho => by
    refine w.write ha hm (fun e => nomatch e) ?_ ho
    obtain ⟨d, gd⟩ := d
    cases t with
    | false => obtain ⟨kvs, e, h⟩ := d; exact ⟨_, ⟨⟨kvs, e, h.1, rfl⟩, gd⟩, h.2⟩
    | true => obtain ⟨kvs, e, h⟩ := d; exact ⟨_, ⟨⟨kvs, e, h.1, rfl⟩, gd⟩, h.2⟩
  obtain ⟨b, eb, d⟩ := dctOf_at w (u := .r n) (show dctOf M (.r n) = some (t, kv) by show mdct M[n]? = _; rw [hm]; rfl) ⟨a, ha, rfl⟩
  cases eb
  have gk : goodK k := good_of hk r
  obtain ⟨d, gd⟩ := d
  have gd2 : ∀ k' ∈ (putA kv k x).map (·.1), goodK k' := fun k' h => by
    rcases putA_keys h with h | h
    · exact gd k' h
    · rw [h]; exact gk
  cases t with
  | false =>
    obtain ⟨kvs, e, h⟩ := d
    unfold keyOk at hk
    cases hkk : keyK k with
    | none => rw [hkk] at hk; cases hk
    | some kk =>
      have ek := keyK_D hkk
      have ev := keyK_V hkk r
      subst ev
      refine ⟨_, DPut.k e (by rw [h.length]; exact hz), fin hm ⟨⟨_, upd_same, ?_⟩, gd2⟩ (fun _ e => nomatch e)⟩
      rw [← ek]
      exact h.put eqD_key rx
  | true =>
    obtain ⟨kvs, e, h⟩ := d
    unfold keyOk at hk
    cases k with
    | tup ds =>
      cases hkk : keyKs ds with
      | none =>
        have hk' : (keyKs ds).isSome = true := hk
        rw [hkk] at hk'; cases hk'
      | some ks =>
        have ek := keyKs_D hkk
        obtain ⟨b, xs, rfl, h1, h2⟩ := r
        have ev := keyKs_V hkk h2
        subst ev
        refine ⟨_, DPut.t e (w.sub _ _ h1) (by rw [h.length]; exact hz), fin hm ⟨⟨_, upd_same, ?_⟩, gd2⟩ (fun _ e => nomatch e)⟩
        rw [← ek]
        exact h.put eqD_keyT rx
    | _ => cases hk
end
def wDNew (t : Bool) : WF := fun _ M Q _ => Q (.dct t []) M
def wDGet (a b : WE) : WE := fun δ M Q Er => a δ M (fun x M1 => b δ M1 (fun y M2 => ∃ t kv k d, dctOf M2 x = some (t, kv) ∧ y = .d k ∧ keyOk t k = true ∧ asc kv k = some d ∧ Q (.d d) M2) Er) Er
/-- k in d -/
def wDIn (neg : Bool) (a b : WE) : WE := fun δ M Q Er => a δ M (fun y M1 => b δ M1 (fun x M2 => ∃ t kv k, dctOf M2 x = some (t, kv) ∧ y = .d k ∧ keyOk t k = true ∧ Q (.d (.bl (if neg then !(asc kv k).isSome else (asc kv k).isSome))) M2) Er) Er
def wDGet2 (a b c : WE) : WE := fun δ M Q Er => a δ M (fun x M1 => (∃ p, dctOf M1 x = some p) ∧ b δ M1 (fun y M2 => c δ M2 (fun z M3 => ∃ t kv k d, dctOf M3 x = some (t, kv) ∧ y = .d k ∧ z = .d d ∧ keyOk t k = true ∧ Q (.d ((asc kv k).getD d)) M3) Er) Er) Er
def wDGet1 (a b : WE) : WE := fun δ M Q Er => a δ M (fun x M1 => (∃ p, dctOf M1 x = some p) ∧ b δ M1 (fun y M2 => ∃ t kv k, dctOf M2 x = some (t, kv) ∧ y = .d k ∧ keyOk t k = true ∧ Q (.d ((asc kv k).getD .non)) M2) Er) Er
/-- d[k] = v -/
def wDPut (d k v : WE) : WS := fun De δ M => v δ M (fun z M1 => d δ M1 (fun x M2 => k δ M2 (fun y M3 => ∃ n t kv kk vv, x = .r n ∧ M3[n]? = some (.dct t kv) ∧ y = .d kk ∧ z = .d vv ∧ keyOk t kk = true ∧ kv.length < sizeLine ∧ De.nx δ (M3.set n (.dct t (putA kv kk vv)))) De.er) De.er) De.er
section
variable {X : Cx} {k : Nat} {pos : Pos} {o i : Expr} {wo wi : WE}
theorem df_dnewK : DF X k (.Dict [] [] pos) (wDNew false) := .mk fun en δ M σ H F A Q Er hk hw hs q => tE.of pe_dnewK fun p hp => .mk' hw hp (mo := .dct false []) ⟨[], ⟨⟨[], rfl, rfl, rfl⟩, fun k h => by cases h⟩, rfl⟩ q
theorem df_dnewT : DF X k (.Dict [] [] pos) (wDNew true) := .mk fun en δ M σ H F A Q Er hk hw hs q => tE.of pe_dnewT fun p hp => .mk' hw hp (mo := .dct true []) ⟨[], ⟨⟨[], rfl, rfl, rfl⟩, fun k h => by cases h⟩, rfl⟩ q
theorem de_dget (hu : X.A.units + 1 < cLine) (ho : DE X k o wo) (hi : DE X k i wi) (hs_ : nsl i = true := by rfl) : DE X k (.Subscript o i pos) (wDGet wo wi) := .mk fun en δ M σ H F A Q Er hk hw hsn q => by
  refine tE.of (pe_dget hu pe_tE pe_tE (nsl_of hs_)) ((ho.run en δ M σ H F A _ Er hk hw hsn q).mono ?_)
  rintro x H1 ⟨ux, M1, F1, A1, w1, g1, r1, q1⟩
  refine (hi.run en δ M1 σ H1 F1 A1 _ Er hk w1 hsn q1).mono ?_
  rintro y H2 ⟨uy, M2, F2, A2, w2, g2, r2, t, kv, kk, d, hd, rfl, hkk, ha, q2⟩
  obtain ⟨a, rfl, dr⟩ := dctOf_at w2 hd (r1.mono g2)
  obtain ⟨z, h1, h2⟩ := (dget_of w2 dr hkk r2).1 d ha
  exact ⟨a, z, rfl, h1, .d d, M2, F2, A2, w2, g1.trans g2, h2, q2⟩
theorem de_din (hu : X.A.units + 1 < cLine) (hi : DE X k i wi) (ho : DE X k o wo) (hm : behindInMarks .In o = false := by rfl) : DE X k (.Compare i [.In] [o] pos) (wDIn false wi wo) := .mk fun en δ M σ H F A Q Er hk hw hsn q => by
  refine tE.of (pe_cmp (pc_din hu pe_tE pe_tE) hm) ((hi.run en δ M σ H F A _ Er hk hw hsn q).mono ?_)
  rintro y H1 ⟨uy, M1, F1, A1, w1, g1, r1, q1⟩
  refine (ho.run en δ M1 σ H1 F1 A1 _ Er hk w1 hsn q1).mono ?_
  rintro x H2 ⟨ux, M2, F2, A2, w2, g2, r2, t, kv, kk, hd, rfl, hkk, q2⟩
  obtain ⟨a, rfl, dr⟩ := dctOf_at w2 hd r2
  obtain ⟨h1, h2⟩ := dget_of w2 dr hkk (r1.mono g2)
  cases e : asc kv kk with
  | none =>
    rw [e] at q2
    exact ⟨a, none, rfl, h2 e, .d (.bl false), M2, F2, A2, w2, g1.trans g2, rfl, q2⟩
  | some d =>
    rw [e] at q2
    obtain ⟨z, h3, h4⟩ := h1 d e
    exact ⟨a, some z, rfl, h3, .d (.bl true), M2, F2, A2, w2, g1.trans g2, rfl, q2⟩
theorem de_dnotin (hu : X.A.units + 1 < cLine) (hi : DE X k i wi) (ho : DE X k o wo) (hm : behindInMarks .NotIn o = false := by rfl) : DE X k (.Compare i [.NotIn] [o] pos) (wDIn true wi wo) := .mk fun en δ M σ H F A Q Er hk hw hsn q => by
  refine tE.of (pe_cmp (pc_dnotin hu pe_tE pe_tE) hm) ((hi.run en δ M σ H F A _ Er hk hw hsn q).mono ?_)
  rintro y H1 ⟨uy, M1, F1, A1, w1, g1, r1, q1⟩
  refine (ho.run en δ M1 σ H1 F1 A1 _ Er hk w1 hsn q1).mono ?_
  rintro x H2 ⟨ux, M2, F2, A2, w2, g2, r2, t, kv, kk, hd, rfl, hkk, q2⟩
  obtain ⟨a, rfl, dr⟩ := dctOf_at w2 hd r2
  obtain ⟨h1, h2⟩ := dget_of w2 dr hkk (r1.mono g2)
  cases e : asc kv kk with
  | none =>
    rw [e] at q2
    exact ⟨a, none, rfl, h2 e, .d (.bl true), M2, F2, A2, w2, g1.trans g2, rfl, q2⟩
  | some d =>
    rw [e] at q2
    obtain ⟨z, h3, h4⟩ := h1 d e
    exact ⟨a, some z, rfl, h3, .d (.bl false), M2, F2, A2, w2, g1.trans g2, rfl, q2⟩
theorem dt_of_cmp {op : CmpOp} {t : TE} {w : WE} (h : PC X op i o t) (hb : behindInMarks op o = false) (hd : ∀ en δ M σ H F A Q Er, en.A.length = k → Wd X.K en δ M σ H F A → Snk X en Er → w δ M Q Er → t σ H (EPost X.K en δ σ F A Q)) (hmono : ∀ σ H Q Q', t σ H Q → (∀ v H', Q v H' → Q' v H') → t σ H Q') : DT X k (.Compare i [op] [o] pos) (wTst w) :=
  .mk fun en δ M σ H F A Q Er hk hw hsn q => by
    refine tT.of (pt_cmp h hb) (hmono _ _ _ _ (hd en δ M σ H F A _ Er hk hw hsn q) ?_)
    rintro v H1 ⟨u, M1, F1, A1, w1, g1, r1, c, rfl, q1⟩
    exact ⟨c, r1, M1, F1, A1, w1, g1, q1⟩
theorem tDIn_mono {ty td : TE} (h1 : ∀ σ H Q Q', ty σ H Q → (∀ v H', Q v H' → Q' v H') → ty σ H Q') (h2 : ∀ σ H Q Q', td σ H Q → (∀ v H', Q v H' → Q' v H') → td σ H Q') (σ : L2.St) (H : Hp) (Q Q' : VK) (h : tDIn ty td σ H Q) (f : ∀ v H', Q v H' → Q' v H') : tDIn ty td σ H Q' :=
  h1 _ _ _ _ h fun _ _ h => h2 _ _ _ _ h fun _ _ ⟨a, o, e, d, q⟩ => ⟨a, o, e, d, f _ _ q⟩
theorem tDNotIn_mono {ty td : TE} (h1 : ∀ σ H Q Q', ty σ H Q → (∀ v H', Q v H' → Q' v H') → ty σ H Q') (h2 : ∀ σ H Q Q', td σ H Q → (∀ v H', Q v H' → Q' v H') → td σ H Q') (σ : L2.St) (H : Hp) (Q Q' : VK) (h : tDNotIn ty td σ H Q) (f : ∀ v H', Q v H' → Q' v H') : tDNotIn ty td σ H Q' :=
  h1 _ _ _ _ h fun _ _ h => h2 _ _ _ _ h fun _ _ ⟨a, o, e, d, q⟩ => ⟨a, o, e, d, f _ _ q⟩
theorem dt_din (hu : X.A.units + 1 < cLine) (hi : DE X k i wi) (ho : DE X k o wo) (hm : behindInMarks .In o = false := by rfl) : DT X k (.Compare i [.In] [o] pos) (wTst (wDIn false wi wo)) :=
  dt_of_cmp (pc_din hu pe_tE pe_tE) hm (fun en δ M σ H F A Q Er hk hw hsn q => by
    refine ((hi.run en δ M σ H F A _ Er hk hw hsn q).mono ?_)
    rintro y H1 ⟨uy, M1, F1, A1, w1, g1, r1, q1⟩
    refine (ho.run en δ M1 σ H1 F1 A1 _ Er hk w1 hsn q1).mono ?_
    rintro x H2 ⟨ux, M2, F2, A2, w2, g2, r2, t, kv, kk, hd, rfl, hkk, q2⟩
    obtain ⟨a, rfl, dr⟩ := dctOf_at w2 hd r2
    obtain ⟨h1, h2⟩ := dget_of w2 dr hkk (r1.mono g2)
    cases e : asc kv kk with
    | none =>
      rw [e] at q2
      exact ⟨a, none, rfl, h2 e, .d (.bl false), M2, F2, A2, w2, g1.trans g2, rfl, q2⟩
    | some d =>
      rw [e] at q2
      obtain ⟨z, h3, h4⟩ := h1 d e
      exact ⟨a, some z, rfl, h3, .d (.bl true), M2, F2, A2, w2, g1.trans g2, rfl, q2⟩) (tDIn_mono (fun _ _ _ _ h f => h.mono f) (fun _ _ _ _ h f => h.mono f))
theorem dt_dnotin (hu : X.A.units + 1 < cLine) (hi : DE X k i wi) (ho : DE X k o wo) (hm : behindInMarks .NotIn o = false := by rfl) : DT X k (.Compare i [.NotIn] [o] pos) (wTst (wDIn true wi wo)) :=
  dt_of_cmp (pc_dnotin hu pe_tE pe_tE) hm (fun en δ M σ H F A Q Er hk hw hsn q => by
    refine ((hi.run en δ M σ H F A _ Er hk hw hsn q).mono ?_)
    rintro y H1 ⟨uy, M1, F1, A1, w1, g1, r1, q1⟩
    refine (ho.run en δ M1 σ H1 F1 A1 _ Er hk w1 hsn q1).mono ?_
    rintro x H2 ⟨ux, M2, F2, A2, w2, g2, r2, t, kv, kk, hd, rfl, hkk, q2⟩
    obtain ⟨a, rfl, dr⟩ := dctOf_at w2 hd r2
    obtain ⟨h1, h2⟩ := dget_of w2 dr hkk (r1.mono g2)
    cases e : asc kv kk with
    | none =>
      rw [e] at q2
      exact ⟨a, none, rfl, h2 e, .d (.bl true), M2, F2, A2, w2, g1.trans g2, rfl, q2⟩
    | some d =>
      rw [e] at q2
      obtain ⟨z, h3, h4⟩ := h1 d e
      exact ⟨a, some z, rfl, h3, .d (.bl false), M2, F2, A2, w2, g1.trans g2, rfl, q2⟩) (tDNotIn_mono (fun _ _ _ _ h f => h.mono f) (fun _ _ _ _ h f => h.mono f))
theorem isD_of {K : PySem.W.Frag} {F H : Hp} {a : Addr} {t : Bool} {kv : List (D × D)} (d : DicR K F H a t kv) : IsD H a := by
  obtain ⟨d, _⟩ := d
  cases t with
  | false => obtain ⟨kvs, e, _⟩ := d; exact .inl ⟨kvs, .inl e⟩
  | true => obtain ⟨kvs, e, _⟩ := d; exact .inr ⟨kvs, .inl e⟩
theorem de_dget2 {e f : Expr} {we wf : WE} {apos cpos : Pos} (hu : X.A.units + 1 < cLine) (ho : DE X k o wo) (he : DE X k e we) (hf : DE X k f wf) (m : M2 X o "get" apos e f cpos := by exact ⟨rfl, rfl, rfl, rfl⟩) : DE X k (.Call (.Attribute o "get" apos) [e, f] [] cpos) (wDGet2 wo we wf) := .mk fun en δ M σ H F A Q Er hk hw hsn q => by
  refine tE.of (pe_dget2 hu pe_tE pe_tE pe_tE m) ((ho.run en δ M σ H F A _ Er hk hw hsn q).mono ?_)
  rintro x H1 ⟨ux, M1, F1, A1, w1, g1, r1, ⟨⟨t0, kv0⟩, hp⟩, q1⟩
  obtain ⟨a, rfl, dr0⟩ := dctOf_at w1 hp r1
  refine ⟨a, rfl, isD_of dr0, (he.run en δ M1 σ H1 F1 A1 _ Er hk w1 hsn q1).mono ?_⟩
  rintro y H2 ⟨uy, M2, F2, A2, w2, g2, r2, q2⟩
  refine (hf.run en δ M2 σ H2 F2 A2 _ Er hk w2 hsn q2).mono ?_
  rintro z H3 ⟨uz, M3, F3, A3, w3, g3, r3, t, kv, kk, d, hd, rfl, rfl, hkk, q3⟩
  obtain ⟨a', e1, dr⟩ := dctOf_at w3 hd ((r1.mono g2).mono g3)
  cases e1
  obtain ⟨h1, h2⟩ := dget_of w3 dr hkk (r2.mono g3)
  have g := (g1.trans g2).trans g3
  cases e : asc kv kk with
  | none =>
    rw [e] at q3
    exact ⟨none, h2 e, .d d, M3, F3, A3, w3, g, r3, q3⟩
  | some d' =>
    rw [e] at q3
    obtain ⟨z', h3, h4⟩ := h1 d' e
    exact ⟨some z', h3, .d d', M3, F3, A3, w3, g, h4, q3⟩
theorem de_dget1 {e : Expr} {we : WE} {apos cpos : Pos} (hu : X.A.units + 1 < cLine) (ho : DE X k o wo) (he : DE X k e we) (m : M1 X o "get" apos e cpos := by exact ⟨rfl, rfl, rfl, rfl⟩) : DE X k (.Call (.Attribute o "get" apos) [e] [] cpos) (wDGet1 wo we) := .mk fun en δ M σ H F A Q Er hk hw hsn q => by
  refine tE.of (pe_dget1 hu pe_tE pe_tE m) ((ho.run en δ M σ H F A _ Er hk hw hsn q).mono ?_)
  rintro x H1 ⟨ux, M1, F1, A1, w1, g1, r1, ⟨⟨t0, kv0⟩, hp⟩, q1⟩
  obtain ⟨a, rfl, dr0⟩ := dctOf_at w1 hp r1
  refine ⟨a, rfl, isD_of dr0, (he.run en δ M1 σ H1 F1 A1 _ Er hk w1 hsn q1).mono ?_⟩
  rintro y H2 ⟨uy, M2, F2, A2, w2, g2, r2, t, kv, kk, hd, rfl, hkk, q3⟩
  obtain ⟨a', e1, dr⟩ := dctOf_at w2 hd (r1.mono g2)
  cases e1
  obtain ⟨h1, h2⟩ := dget_of w2 dr hkk r2
  have g := g1.trans g2
  cases e : asc kv kk with
  | none =>
    rw [e] at q3
    exact ⟨none, h2 e, .d .non, M2, F2, A2, w2, g, rfl, q3⟩
  | some d' =>
    rw [e] at q3
    obtain ⟨z', h3, h4⟩ := h1 d' e
    exact ⟨some z', h3, .d d', M2, F2, A2, w2, g, h4, q3⟩
theorem ds_dput {value : Expr} {wv : WE} {pos' : Pos} (hu : X.A.units + 1 < cLine) (ho : DE X k o wo) (hi : DE X k i wi) (hv : DE X k value wv) (hs : swapsWith value (some (.Subscript o i pos')) pos.line X.env = pure false := by rfl) :
    DS X k (.Assign [.Subscript o i pos'] value pos) (wDPut wo wi wv) := .mk fun en δ M σ H F A De hk hw hsn q => by
  refine tS.of (ps_dput hu pe_tE pe_tE pe_tE hs) ((hv.run en δ M σ H F A _ De.er hk hw hsn q).mono ?_)
  rintro z H1 ⟨uz, M1, F1, A1, w1, g1, r1, q1⟩
  refine (ho.run en δ M1 σ H1 F1 A1 _ De.er hk w1 hsn q1).mono ?_
  rintro x H2 ⟨ux, M2, F2, A2, w2, g2, r2, q2⟩
  refine (hi.run en δ M2 σ H2 F2 A2 _ De.er hk w2 hsn q2).mono ?_
  rintro y H3 ⟨uy, M3, F3, A3, w3, g3, r3, n, t, kv, kk, vv, rfl, hm, rfl, rfl, hkk, hz, q3⟩
  obtain ⟨a, ha, rfl⟩ := r2.mono g3
  obtain ⟨H4, h1, h2⟩ := dput_of w3 ha hm hkk hz r3 (((r1.mono g2).mono g3))
  exact ⟨a, H4, rfl, h1, δ, _, F3, A3, h2, q3⟩
end
end DL
namespace DL
open PySem PySem.Spec PyProof.Rows L2
open PySem.W (EachIs AllAlike Sortable dataLe SortsAt sortVals dataKind)
/-! ### sorted -/
abbrev leV : V × D → V × D → Bool := dataLe false (fun p : V × D => py p.2)
abbrev leD : D → D → Bool := dataLe false py
def sortD (ds : List D) : List D := ds.mergeSort leD
structure SortOk (ds : List D) : Prop where
  al : AllAlike (ds.map py)
  so : Sortable (ds.map py)
  sh : ds.all shp = true
theorem each_vals : ∀ {out : List Value} {ps : List (V × D)}, EachIs (fun v b => RelV b.1 v) out ps → Vals (ps.map (·.1)) out
  | _, _, .nil => .nil
  | _, _, .cons h t => .cons h (each_vals t)
theorem vals_each : ∀ {out : List Value} {ps : List (V × D)}, Vals (ps.map (·.1)) out → EachIs (fun v b => RelV b.1 v) out ps
  | out, [], r => by cases r; exact .nil
  | out, p :: ps, r => by
    rw [List.map_cons] at r
    cases r with
    | cons h t => exact .cons h (vals_each t)
section
variable {X : Cx} {pins : List (Addr × Obj)} {σ : L2.St} {H : Hp} {s : Shared}
theorem each_reads (I : Inv X pins σ H s) : ∀ {out : List Value} {ps : List (V × D)}, Vals (ps.map (·.1)) out → (∀ p ∈ ps, Dp X.K H p.1 (py p.2)) → EachIs (fun v b => ∃ as, Reads s.heap v (py b.2) as) out ps
  | out, [], r, _ => by cases r; exact .nil
  | out, p :: ps, r, h => by
    rw [List.map_cons] at r
    cases r with
    | cons a t => exact .cons (Dp.reads I (py p.2) p.1 _ (h p List.mem_cons_self) a) (each_reads I t fun q hq => h q (List.mem_cons_of_mem _ hq))
/-- sorted of a list -/
def rSortL (K : PySem.W.Frag) : List V → Hp → VK → Prop := fun xs H Q => ∃ (a : Addr) (ps : List (V × D)), xs = [.ref a] ∧ SqL K H a (ps.map (·.1)) ∧ (∀ p ∈ ps, Dp K H p.1 (py p.2)) ∧ SortOk (ps.map (·.2)) ∧ ∀ p, H p = none → Q (.ref p) (upd H p (.lst ((ps.mergeSort leV).map (·.1))))
theorem map_py (ps : List (V × D)) : (ps.map (·.2)).map py = ps.map (fun p => py p.2) := by rw [List.map_map]; rfl
theorem depth_of {ds : List D} (h : SortOk ds) {A : Around} (hu : A.units + 70 < cLine) : ∀ d ∈ ds, A.units + 2 + (py d).depth < cLine := fun d hd => by
  have := depth_py 60 d (List.all_eq_true.mp h.sh d hd)
  omega
theorem cr_sortL (hu : X.A.units + 70 < cLine) : CallR X (.builtin "sorted") (rSortL X.K) := by
  intro pins s σ H vs us Q I r h
  obtain ⟨a, ps, rfl, hs, hd, ok, q⟩ := h
  obtain ⟨its, rv, hl, hz⟩ := I.list hs
  rw [Vals.ref1 r]
  have ok1 := ok.al
  have ok2 := ok.so
  rw [map_py] at ok1 ok2
  have hlen : ps.length ≤ sizeLine := by rw [List.length_map] at hz; exact hz
  refine PySem.W.sorted_data (enc := fun p : V × D => py p.2) hl.isList (vals_each rv) (each_reads I rv hd) ok1 ok2 hlen (fun p hp => depth_of ok hu p.2 (List.mem_map_of_mem hp)) fun out ho he => ?_
  obtain ⟨ep, he'⟩ := PyProof.Rows.sortedAll_at s.heap its out.toArray
  have hv := each_vals he
  have hlen2 : ((ps.mergeSort leV).map (·.1)).length ≤ sizeLine := by rw [List.length_map, List.length_mergeSort]; exact hlen
  exact ⟨.ref _, upd H (s.heap.objs.size + 1) (.lst ((ps.mergeSort leV).map (·.1))), I.laid (t' := s.toks) (fun _ _ => PyProof.Rows.sortedAll_old) (Nat.le_succ _) ⟨hlen2, out, ep, hv, he'⟩, rfl, q _ (I.hok.fresh (Nat.le_succ _))⟩
theorem dp_key (K : PySem.W.Frag) (H : Hp) (k : Key) : Dp K H (kV k) (py (keyD k)) := by
  cases k with
  | inl i => simp only [keyD, py, kV]; exact .int i
  | inr x => simp only [keyD, py, kV]; exact .str x
theorem dp_keys (K : PySem.W.Frag) (H : Hp) : ∀ ks : List Key, DpAll K H (ks.map kV) (pys (ks.map keyD))
  | [] => by simp only [List.map_nil, pys]; exact .nil
  | k :: ks => by simp only [List.map_cons, pys]; exact .cons (dp_key K H k) (dp_keys K H ks)
/-- sorted of a dict whose keys are tuples -/
def rSortT (K : PySem.W.Frag) : List V → Hp → VK → Prop := fun xs H Q => ∃ (a : Addr) (kvs : List (List Key × V)), xs = [.ref a] ∧ H a = some (.dT kvs) ∧ SortOk (kvs.map fun p => D.tup (p.1.map keyD)) ∧
  ∀ ps : List (V × D), ps.map (·.2) = kvs.map (fun p => D.tup (p.1.map keyD)) → (∀ p ∈ ps, ∃ (b : Addr) (ks : List Key), p.1 = .ref b ∧ p.2 = D.tup (ks.map keyD) ∧ H b = some (.tup (ks.map kV))) → ∀ p, H p = none → Q (.ref p) (upd H p (.lst ((ps.mergeSort leV).map (·.1))))
theorem paired_get {α β : Type} {R : α → β → Prop} : ∀ {l : List α} {m : List β} {i : Nat} {y : β}, Paired R l m → m[i]? = some y → ∃ x, l[i]? = some x ∧ R x y
  | _, _, _, _, .nil, h => by simp at h
  | _, _, 0, y, .cons r t, h => by
    have e := Option.some.inj (show some _ = some y from h)
    subst e
    exact ⟨_, rfl, r⟩
  | _, _, i + 1, y, .cons r t, h => by
    obtain ⟨x, a, b⟩ := paired_get (i := i) t (by simpa using h)
    exact ⟨x, by simpa using a, b⟩
theorem paired_map {kvs : List (List Key × V)} {ys : List (List Key × Addr × Value)} {R : List Key × V → List Key × Addr × Value → Prop} (h : Paired R kvs ys) (hr : ∀ p q, R p q → p.1 = q.1) : ys.map (fun y => D.tup (y.1.map keyD)) = kvs.map (fun p => D.tup (p.1.map keyD)) := by
  induction h with
  | nil => rfl
  | cons r t ih => rw [List.map_cons, List.map_cons, ih, hr _ _ r]
theorem cr_sortT (hu : X.A.units + 70 < cLine) (hcalm : X.calm = true) : CallR X (.builtin "sorted") (rSortT X.K) := by
  intro pins s σ H xs us Q I r q
  obtain ⟨a, kvs, ex, hd, ok, q⟩ := q
  subst ex
  obtain ⟨u, eu, rx⟩ := vals1 r
  subst eu
  cases rx
  obtain ⟨z, lo, ys, rel, dd⟩ := dt_of I.hok hd
  obtain ⟨es, ep, hraw, hsz, hent⟩ := Heap.DictOfH.raw dd
  have hyl : kvs.length = ys.length := Paired.length rel
  have h16 : es.size ≤ sizeLine := by rw [hsz, ← hyl]; exact z
  refine Calls.call_function_entry PyProof.Rows.kind_sorted PyProof.Rows.plain_sorted PyProof.Rows.entry_sorted (PyProof.Rows.args_sorted1 _) ?_
  unfold Builtin.«sorted»
  refine wpAny_bind (m := checkCount "sorted" 1 1 _) (wpAny_pure ?_)
  refine wpAny_bind (PySem.W.kdu_collect (A := X.A.in1) (PySem.KdlSrc.rawDict (prog := X.prog) (w := X.w) (d := a) (es := es) (ep := ep) lo) (I.ok.hd hcalm) hraw h16 fun h' tk acc hk hacc => ?_)
  have I1 : Inv X pins σ H { s with heap := h', toks := tk } := I.kept hk
  -- the keys, as values and as data
  let ps : List (V × D) := ys.map fun y => (V.ref y.2.1, D.tup (y.1.map keyD))
  have hps2 : ps.map (·.2) = kvs.map (fun p => D.tup (p.1.map keyD)) := by
    rw [List.map_map]
    exact paired_map rel fun p q h => h.1
  have hkey : ∀ y ∈ ys, H y.2.1 = some (.tup (y.1.map kV)) := fun y hy => by
    obtain ⟨i, hi⟩ := List.mem_iff_getElem?.mp hy
    obtain ⟨p, _, h1, h2, _⟩ := paired_get rel hi
    rw [← h1]; exact h2
  have hacc2 : acc.toList = ys.map fun y => Value.ref y.2.1 := by
    have hl : acc.toList.length = ys.length := by rw [Array.length_toList, hacc.1, hsz]
    apply List.ext_getElem?
    intro i
    by_cases hi : i < es.size
    · have hi2 : i < acc.toList.length := by rw [hl, ← hsz]; exact hi
      have e1 : acc.toList[i]? = some acc.toList[i] := List.getElem?_eq_getElem hi2
      obtain ⟨hi', ev⟩ := hacc.2 i _ (by rw [← Array.getElem?_toList]; exact e1)
      obtain ⟨y, hy, ek, _⟩ := hent i hi
      rw [e1, ev, ek, List.getElem?_map, hy]; rfl
    · rw [List.getElem?_eq_none (by omega), List.getElem?_eq_none (by rw [List.length_map]; omega)]
  have hv : Vals (ps.map (·.1)) acc.toList := by
    rw [hacc2, List.map_map]
    have go : ∀ l : List (List Key × Addr × Value), Vals (l.map ((fun p : V × D => p.1) ∘ fun y => (V.ref y.2.1, D.tup (y.1.map keyD)))) (l.map fun y => Value.ref y.2.1) := fun l => by
      induction l with
      | nil => exact .nil
      | cons y l ih => exact .cons rfl ih
    exact go ys
  have hdp : ∀ p ∈ ps, Dp X.K H p.1 (py p.2) := fun p hp => by
    obtain ⟨y, hy, rfl⟩ := List.mem_map.mp hp
    show Dp X.K H (.ref y.2.1) (py (D.tup (y.1.map keyD)))
    simp only [py]
    exact .tup (.inl (.inl (hkey y hy))) (dp_keys X.K H y.1)
  have hlen : ps.length ≤ sizeLine := by
    show (ys.map _).length ≤ _
    rw [List.length_map, ← hyl]; exact z
  have hal : acc.toList.length ≤ sizeLine := by rw [Array.length_toList, hacc.1]; exact h16
  refine wpAny_bind (wpAny_newList ?_ hal)
  have hoL : (h'.push (PyProof.Rows.seqObj "list" acc.toList.toArray 0)).get? h'.objs.size = some (PyProof.Rows.seqObj "list" acc.toList.toArray 0) := Heap.get?_push_size _ rfl
  show wpAny _ _ _ _ _ { s with heap := h'.push (PyProof.Rows.seqObj "list" acc.toList.toArray 0), toks := tk }
  have ok1 := ok.al
  have ok2 := ok.so
  rw [← hps2, map_py] at ok1 ok2
  have I2 : Inv X pins σ H { s with heap := PySem.W.sortingHeap (h'.push (PyProof.Rows.seqObj "list" acc.toList.toArray 0)) h'.objs.size acc.toList, toks := tk } := I1.kept (t' := tk) fun b o e => PySem.W.sortingHeap_old (Nat.ne_of_lt (Heap.lt_size e)) (Heap.get?_push_of_some _ e)
  have er := each_reads I2 hv hdp
  have S := SortsAt.data (prog := X.prog) (w := X.w) (A := X.A.in1.in1) (s := { s with heap := PySem.W.sortingHeap (h'.push (PyProof.Rows.seqObj "list" acc.toList.toArray 0)) h'.objs.size acc.toList, toks := tk }) (PySem.W.each_map (R := fun v d => ∃ as, Reads _ v d as) (fun p : V × D => py p.2) er) ok1 ok2
    (PySem.W.bound_map fun p hp => by
      have := depth_of ok hu p.2 (by rw [← hps2]; exact List.mem_map_of_mem hp)
      show X.A.units + 1 + 1 + _ < _
      omega)
  refine wpAny_bind (wpAny_holding (wpAny_call_entry PyProof.Rows.slot_list_sort ⟨_, hoL, rfl⟩ PyProof.Rows.entry_list_sort
    (PySem.W.list_sort_vals (s := { s with heap := h'.push (PyProof.Rows.seqObj "list" acc.toList.toArray 0), toks := tk }) hoL S hal ⟨_, rfl, ?_⟩)
    (PyProof.Rows.args_list_sort _)))
  have he := PySem.W.sortVals_data (h' := PySem.W.sortingHeap (h'.push (PyProof.Rows.seqObj "list" acc.toList.toArray 0)) h'.objs.size acc.toList) false (vals_each hv) er ok1
  have hv2 := each_vals he
  obtain ⟨e', he'⟩ := PyProof.Rows.sortedHeap_at (vs := acc.toList) (out := (sortVals (dataKind (PySem.W.sortingHeap (h'.push (PyProof.Rows.seqObj "list" acc.toList.toArray 0)) h'.objs.size acc.toList) (ps.map fun p => py p.2)) false acc.toList acc.toList).toArray) hoL
  have hlen2 : ((ps.mergeSort leV).map (·.1)).length ≤ sizeLine := by rw [List.length_map, List.length_mergeSort]; exact hlen
  refine wpAny_pure ⟨_, rfl, .ref h'.objs.size, upd H h'.objs.size (.lst ((ps.mergeSort leV).map (·.1))), I1.laid (t' := tk) (fun b u e => ?_) (Nat.le_refl _)
    (show ObjOk X.prog X.w _ _ _ (.lst ((ps.mergeSort leV).map (·.1))) from ⟨hlen2, _, e', hv2, he'⟩), rfl, q ps hps2 (fun p hp => ?_) _ (I1.hok.fresh (Nat.le_refl _))⟩
  · have hb : b < h'.objs.size := Heap.lt_size e
    rw [PyProof.Rows.sortedHeap_old (Nat.ne_of_lt hb) (by rw [PyProof.Rows.size_push']; exact Nat.lt_succ_of_lt hb)]
    exact Heap.get?_push_of_some _ e
  · obtain ⟨y, hy, rfl⟩ := List.mem_map.mp hp
    exact ⟨y.2.1, y.1, rfl, rfl, hkey y hy⟩
end
end DL
namespace DL
open PySem PySem.Spec PyProof.Rows L2
open PySem.W (EachIs AllAlike Sortable dataLe)
/-! ### sorted, by data -/
/-- what sorted walks -/
def srtOf (M : List MO) (u : U) : Option (List D) := match lstOf M u with
  | some ds => some ds
  | none => match dctOf M u with
    | some (true, kv) => some (kv.map (·.1))
    | _ => none
def fSorted : FFC := fun us M Q => match us with
  | [u] => ∃ ds, srtOf M u = some ds ∧ SortOk ds ∧ Q (.lst (sortD ds)) M
  | _ => False
section
variable {K : PySem.W.Frag}
theorem reps_of_all {F : Hp} : ∀ {ps : List (V × D)}, (∀ p ∈ ps, Rep K F p.2 p.1) → Reps K F (ps.map (·.2)) (ps.map (·.1))
  | [], _ => rfl
  | p :: ps, h => Reps.cons (h p List.mem_cons_self) (reps_of_all fun q hq => h q (List.mem_cons_of_mem _ hq))
theorem zip_reps {F : Hp} : ∀ {ds : List D} {vs : List V}, Reps K F ds vs → ∃ ps : List (V × D), ps.map (·.1) = vs ∧ ps.map (·.2) = ds ∧ ∀ p ∈ ps, Rep K F p.2 p.1
  | [], vs, r => by cases (show vs = [] from r); exact ⟨[], rfl, rfl, fun p hp => by cases hp⟩
  | d :: ds, vs, r => by
    obtain ⟨v, w, rfl, a, b⟩ := r
    obtain ⟨ps, h1, h2, h3⟩ := zip_reps b
    refine ⟨(v, d) :: ps, by rw [List.map_cons, h1], by rw [List.map_cons, h2], fun p hp => ?_⟩
    rcases List.mem_cons.mp hp with rfl | hp
    · exact a
    · exact h3 p hp
theorem sort_snd (ps : List (V × D)) : (ps.mergeSort leV).map (·.2) = sortD (ps.map (·.2)) := PySem.W.sort_maps (fun p : V × D => p.2) fun _ _ _ _ => rfl
theorem lc_sorted : LCF K (fun xs H Q => rSortL K xs H Q ∨ rSortT K xs H Q) fSorted := fun en δ M σ H F A us vs Q R hw r q h => by
  unfold fSorted at q
  split at q
  · next u =>
    obtain ⟨v, rfl, r1⟩ := urs1 r
    obtain ⟨ds, hi, ok, q⟩ := q
    unfold srtOf at hi
    cases hl : lstOf M u with
    | some es =>
      rw [hl] at hi
      cases hi
      obtain ⟨a, xs, rfl, h1, h2⟩ := lstOf_at hw hl r1
      obtain ⟨ps, e1, e2, e3⟩ := zip_reps h2
      refine .inl ⟨a, ps, rfl, .inl (.inl (by rw [e1]; exact h1)), fun p hp => ?_, by rw [e2]; exact ok, fun p hp => h _ _ (.mk' hw hp (mo := .lst (sortD ds)) ⟨_, rfl, ?_⟩ q)⟩
      · have hs : shp p.2 = true := List.all_eq_true.mp ok.sh p.2 (by rw [← e2]; exact List.mem_map_of_mem hp)
        exact (dp_of hw.sub 60 p.2 p.1 hs (e3 p hp)).1
      · rw [← e2, ← sort_snd]
        exact reps_of_all fun p hp => e3 p ((List.mergeSort_perm ps leV).mem_iff.mp hp)
    | none =>
      rw [hl] at hi
      cases hd : dctOf M u with
      | none => rw [hd] at hi; cases hi
      | some tk =>
        obtain ⟨t, kv⟩ := tk
        rw [hd] at hi
        cases t with
        | false => cases hi
        | true =>
          cases hi
          obtain ⟨a, rfl, ⟨kvs, e, hk⟩, gd⟩ := dctOf_at hw hd r1
          have ek : kv.map (·.1) = kvs.map (fun p => D.tup (p.1.map keyD)) := hk.1
          refine .inr ⟨a, kvs, rfl, e, by rw [← ek]; exact ok, fun ps h1 h2 p hp => h _ _ (.mk' hw hp (mo := .lst (sortD (kv.map (·.1)))) ⟨_, rfl, ?_⟩ q)⟩
          rw [ek, ← h1, ← sort_snd]
          refine reps_of_all fun p hp => ?_
          have hp2 := (List.mergeSort_perm ps leV).mem_iff.mp hp
          obtain ⟨b, ks, e1, e2, e3⟩ := h2 p hp2
          have hg : goodK p.2 := gd p.2 (by rw [ek, ← h1]; exact List.mem_map_of_mem hp2)
          rw [e1, e2]
          rw [e2] at hg
          refine ⟨b, _, rfl, hw.tups _ _ e3, ?_⟩
          have go : ∀ l : List Key, (∀ d ∈ l.map keyD, goodI d) → Reps K F (l.map keyD) (l.map kV) := fun l => by
            induction l with
            | nil => intro _; exact rfl
            | cons k l ih =>
              intro hl
              rw [List.map_cons, List.map_cons]
              refine Reps.cons ?_ (ih fun d hd => hl d (by rw [List.map_cons]; exact List.mem_cons_of_mem _ hd))
              cases k with
              | inl i => exact rfl
              | inr x =>
                have := hl (keyD (.inr x)) (by rw [List.map_cons]; exact List.mem_cons_self)
                exact ⟨by show V.str x = V.str ⟨x.cps.toList.toArray⟩; rw [TL.mk_tl], this⟩
          exact go ks hg
  · exact q.elim
theorem cr_sorted2 {X : Cx} (hu : X.A.units + 70 < cLine) (hcalm : X.calm = true) : CallR X (.builtin "sorted") (fun xs H Q => rSortL X.K xs H Q ∨ rSortT X.K xs H Q) := callr_or (cr_sortL hu) (cr_sortT hu hcalm)
end

/-! ### list comprehensions -/
theorem Wd.re {K : PySem.W.Frag} {en : En} {δ δ' : Dl} {M M' : List MO} {σ σ' : L2.St} {H H' F F' : Hp} {A A' : List Addr} (w : Wd K en δ M σ H F A) (w' : Wd K ⟨H, F, F, A⟩ δ' M' σ' H' F' A') : Wd K en δ' M' σ' H' F' A' := by
  obtain ⟨B, hB⟩ := w'.pre
  have hB : A' = A ++ B := hB
  refine ⟨w'.sub, w'.tups, w'.len, w'.nd, w'.dis, w'.mem, w'.here, w'.dl, w'.sl, fun a o e n => ?_, fun a e => w.there a (w'.there a e), w.subF.trans w'.subF, fun a e n => ?_, ?_, fun i a hi e => ?_⟩
  · refine w'.keep a o (w.keep a o e n) fun z => ?_
    obtain ⟨j, hj⟩ := List.mem_iff_getElem?.mp z
    by_cases hl : j < en.A.length
    · obtain ⟨B2, e2⟩ := w.pre
      rw [show A = en.A ++ B2 from e2, List.getElem?_append_left hl] at hj
      exact n (List.mem_of_getElem? hj)
    · have := w.newA j a (by omega) hj
      rw [e] at this; cases this
  · cases q : F a with
    | none => exact w.there a (w'.newF a e q)
    | some o => exact w.newF a (by rw [q]; exact fun z => nomatch z) n
  · obtain ⟨B2, e2⟩ := w.pre
    exact ⟨B2 ++ B, by rw [hB, e2, List.append_assoc]⟩
  · by_cases hl : i < A.length
    · rw [hB, List.getElem?_append_left hl] at e
      exact w.newA i a hi e
    · exact w.there a (w'.newA i a (by show A.length ≤ i; omega) e)
theorem Wd.selfS {K : PySem.W.Frag} {en : En} {δ : Dl} {M : List MO} {σ : L2.St} {H F : Hp} {A : List Addr} (w : Wd K en δ M σ H F A) : Wd K ⟨H, F, F, A⟩ δ M σ H F A :=
  ⟨w.sub, w.tups, w.len, w.nd, w.dis, w.mem, w.here, w.dl, w.sl, fun a o e _ => e, fun a e => e, Same.refl F, fun a h1 h2 => absurd h2 h1, ⟨[], (List.append_nil A).symm⟩, fun i a hi e => by
    rw [List.getElem?_eq_none (by exact hi)] at e; cases e⟩
/-- an object that nobody knows comes, goes, turns -/
theorem Wd.extra {K : PySem.W.Frag} {en : En} {δ : Dl} {M : List MO} {σ : L2.St} {H H' F : Hp} {A : List Addr} {p : Addr} (w : Wd K en δ M σ H F A) (hF : F p = none) (hA : p ∉ A) (hE : en.H p = none) (h : ∀ b, b ≠ p → H' b = H b) (hT : ∀ xs, H' p ≠ some (.tup xs)) : Wd K en δ M σ H' F A := by
  have pa : ∀ {i : Nat} {a : Addr}, A[i]? = some a → a ≠ p := fun {i a} e z => by subst z; exact hA (List.mem_of_getElem? e)
  refine ⟨fun b o e => ?_, fun a xs e => ?_, w.len, w.nd, w.dis, fun i a o h1 h2 => (w.mem i a o h1 h2).mono Gr.refl fun u e => by rw [h a (pa h1)]; exact e, fun a ha => ?_, w.dl, w.sl, fun a o e n => ?_, fun a e => ?_, w.subF, w.newF, w.pre, w.newA⟩
  · rw [h b (ne_of_none e hF)]; exact w.sub b o e
  · by_cases hb : a = p
    · subst hb; exact absurd e (hT xs)
    · rw [h a hb] at e; exact w.tups a xs e
  · have : a ≠ p := fun z => by subst z; exact hA ha
    rw [h a this]; exact w.here a ha
  · rw [h a (ne_of_none e hE)]; exact w.keep a o e n
  · by_cases hb : a = p
    · subst hb; exact hE
    · rw [h a hb] at e; exact w.there a e
/-- the slots of a block's own names, forgotten -/
def wipeD (δ : Dl) : List Nat → Dl
  | [] => δ
  | v :: vs => (wipeD δ vs).set v none
theorem wipeD_len (δ : Dl) : ∀ vs : List Nat, (wipeD δ vs).length = δ.length
  | [] => rfl
  | v :: vs => by unfold wipeD; rw [List.length_set, wipeD_len δ vs]
theorem wipeD_some {δ : Dl} {i : Nat} {u : U} : ∀ {vs : List Nat}, (wipeD δ vs)[i]? = some (some u) → δ[i]? = some (some u) ∧ i ∉ vs
  | [], h => ⟨h, by simp⟩
  | v :: vs, h => by
    unfold wipeD at h
    by_cases hi : v = i
    · subst hi
      by_cases hv : v < (wipeD δ vs).length
      · rw [List.getElem?_set_self hv] at h; cases h
      · rw [List.getElem?_eq_none (by simpa using hv)] at h; cases h
    · rw [List.getElem?_set_ne hi] at h
      obtain ⟨h1, h2⟩ := wipeD_some h
      exact ⟨h1, by simp only [List.mem_cons, not_or]; exact ⟨fun e => hi e.symm, h2⟩⟩
theorem wipe_none {σ : L2.St} {i : Nat} : ∀ {vs : List Nat}, i ∉ vs → (wipe σ vs)[i]? = σ[i]?
  | [], _ => rfl
  | v :: vs, h => by
    unfold wipe
    simp only [List.mem_cons, not_or] at h
    rw [List.getElem?_set_ne (Ne.symm h.1)]
    exact wipe_none h.2
theorem Wd.wipe {K : PySem.W.Frag} {en : En} {δ : Dl} {M : List MO} {σ : L2.St} {H F : Hp} {A : List Addr} (w : Wd K en δ M σ H F A) (vs : List Nat) : Wd K en (wipeD δ vs) M (L2.wipe σ vs) H F A :=
  { w with
    dl := by rw [wipeD_len, wipe_length]; exact w.dl
    sl := fun i u e => by
      obtain ⟨h1, h2⟩ := wipeD_some e
      obtain ⟨v, a, b⟩ := w.sl i u h1
      exact ⟨v, by rw [wipe_none h2]; exact a, b⟩ }
/-- the slots come back, the store may have grown -/
theorem Wd.unwipe {K : PySem.W.Frag} {en en2 : En} {δ δ' : Dl} {M M' : List MO} {σ σ' : L2.St} {H H' F F' : Hp} {A A' : List Addr} (w : Wd K en δ M σ H F A) (w' : Wd K en2 δ' M' σ' H' F' A') (g : Gr F A F' A') : Wd K en2 δ M' σ H' F' A' :=
  { w' with
    dl := w.dl
    sl := fun i u e => by
      obtain ⟨v, a, b⟩ := w.sl i u e
      exact ⟨v, a, b.mono g⟩ }
/-- a comprehension's target: a name, or names of a tuple -/
def setAll (σ : L2.St) : List Nat → List V → L2.St
  | j :: js, v :: vs => setAll (σ.set j (some v)) js vs
  | _, _ => σ
def setAllD (δ : Dl) : List Nat → List D → Dl
  | j :: js, d :: ds => setAllD (δ.set j (some (.d d))) js ds
  | _, _ => δ
def gNames : List Nat → TGs
  | [] => L2.gNil
  | j :: js => L2.gCons (gName j) (gNames js)
theorem gNames_ok : ∀ (js : List Nat) (vs : List V) (σ : L2.St) (H : Hp) (Q : L2.St → Hp → Prop), js.length = vs.length → Q (setAll σ js vs) H → gNames js vs σ H Q
  | [], [], σ, H, Q, _, q => ⟨rfl, q⟩
  | j :: js, v :: vs, σ, H, Q, h, q => ⟨v, vs, rfl, gNames_ok js vs _ H Q (by simpa using h) q⟩
  | [], _ :: _, _, _, _, h, _ => by simp at h
  | _ :: _, [], _, _, _, h, _ => by simp at h
theorem Wd.setAll {K : PySem.W.Frag} {en : En} {M : List MO} {H F : Hp} {A : List Addr} : ∀ (js : List Nat) (ds : List D) (vs : List V) (δ : Dl) (σ : L2.St), Wd K en δ M σ H F A → Reps K F ds vs → Wd K en (setAllD δ js ds) M (DL.setAll σ js vs) H F A
  | [], ds, vs, δ, σ, w, _ => by cases ds <;> cases vs <;> exact w
  | j :: js, [], vs, δ, σ, w, r => by cases (show vs = [] from r); exact w
  | j :: js, d :: ds, vs, δ, σ, w, r => by
    obtain ⟨v, w', rfl, a, b⟩ := r
    exact Wd.setAll js ds w' (δ.set j (some (.d d))) (σ.set j (some v)) (w.store (u := .d d) a) b
theorem wipe_set {σ : L2.St} {i : Nat} {x : Option V} : ∀ {vs : List Nat}, i ∈ vs → L2.wipe (σ.set i x) vs = L2.wipe σ vs := fun {vs} h => by
  apply List.ext_getElem?
  intro k
  by_cases hk : k ∈ vs
  · have e : ∀ τ : L2.St, (L2.wipe τ vs)[k]? = if k < τ.length then some none else none := fun τ => by
      by_cases hl : k < τ.length
      · rw [if_pos hl]
        have hl2 : k < (L2.wipe τ vs).length := by rw [wipe_length]; exact hl
        rw [List.getElem?_eq_getElem hl2]
        cases q : (L2.wipe τ vs)[k] with
        | none => rfl
        | some v =>
          have := wipe_some (σ := τ) (i := k) (x := v) (vs := vs) (by rw [List.getElem?_eq_getElem hl2, q])
          exact absurd hk this.2
      · rw [if_neg hl]
        exact List.getElem?_eq_none (by rw [wipe_length]; omega)
    rw [e, e, List.length_set]
  · rw [wipe_none hk, wipe_none hk]
    exact List.getElem?_set_ne (fun z => hk (by rw [← z]; exact h))
theorem wipe_setAll : ∀ {js : List Nat} {xs : List V} {σ : L2.St} {vs : List Nat}, (∀ j ∈ js, j ∈ vs) → L2.wipe (setAll σ js xs) vs = L2.wipe σ vs
  | [], xs, σ, vs, _ => by cases xs <;> rfl
  | j :: js, [], σ, vs, _ => rfl
  | j :: js, x :: xs, σ, vs, h => by
    show L2.wipe (setAll (σ.set j (some x)) js xs) vs = _
    rw [wipe_setAll (fun i hi => h i (List.mem_cons_of_mem _ hi)), wipe_set (h j List.mem_cons_self)]
theorem wipe_wipe {σ : L2.St} {vs : List Nat} : L2.wipe (L2.wipe σ vs) vs = L2.wipe σ vs := by
  have go : ∀ (ws : List Nat) (τ : L2.St), (∀ i ∈ ws, i ∈ vs) → L2.wipe (L2.wipe τ ws) vs = L2.wipe τ vs := fun ws => by
    induction ws with
    | nil => intro τ _; rfl
    | cons w ws ih =>
      intro τ h
      show L2.wipe ((L2.wipe τ ws).set w none) vs = _
      rw [wipe_set (h w List.mem_cons_self), ih τ fun i hi => h i (List.mem_cons_of_mem _ hi)]
  exact go vs σ fun i hi => hi
inductive CT where
  | nm (i : Nat)
  | tp (js : List Nat)
def CT.slots : CT → List Nat
  | .nm i => [i]
  | .tp js => js
def CT.set (δ : Dl) : CT → D → (Dl → Prop) → Prop
  | .nm i, d, Q => Q (δ.set i (some (.d d)))
  | .tp js, .tup ds, Q => js.length = ds.length ∧ Q (setAllD δ js ds)
  | .tp _, _, _ => False
/-- the target's reading in the layer below -/
def CT.g (K : PySem.W.Frag) : CT → TG
  | .nm i => gName i
  | .tp js => gTup K js.length (gNames js)
theorem CT.run {K : PySem.W.Frag} {en : En} {δ : Dl} {M : List MO} {σ : L2.St} {H F : Hp} {A : List Addr} (c : CT) {d : D} {v : V} {Q : Dl → Prop} {R : L2.St → Hp → Prop} {vs : List Nat} (hv : ∀ j ∈ c.slots, j ∈ vs) (w : Wd K en δ M σ H F A) (r : Rep K F d v) (q : c.set δ d Q)
    (h : ∀ δ' σ', Wd K en δ' M σ' H F A → L2.wipe σ' vs = L2.wipe σ vs → Q δ' → R σ' H) : c.g K v σ H R := by
  cases c with
  | nm i => exact h _ _ (w.store (u := .d d) r) (wipe_set (hv i (by simp [CT.slots]))) q
  | tp js =>
    cases d with
    | tup ds =>
      obtain ⟨hl, q⟩ := q
      obtain ⟨a, xs, rfl, h1, h2⟩ := r
      exact ⟨a, xs, rfl, .inl (.inl (w.sub _ _ h1)), by rw [h2.length]; exact hl.symm, gNames_ok js xs σ H R (by rw [h2.length]; exact hl) (h _ _ (Wd.setAll _ _ _ _ _ w h2) (wipe_setAll fun j hj => hv j hj) q)⟩
    | _ => exact q.elim
def noE : ER := fun _ _ _ => False
/-- the items' turns, with what is made so far -/
def lcD (c : CT) (wt : WT) (we : WE) (δ : Dl) (Q : MO → List MO → Prop) : List D → List D → List MO → Prop
  | [], acc, M => Q (.lst acc) M
  | x :: xs, acc, M => c.set δ x fun δ1 => wt δ1 M (fun b M1 => cnd b (we δ1 M1 (fun u M2 => ∃ y, u = .d y ∧ acc.length < sizeLine ∧ lcD c wt we δ Q xs (acc ++ [y]) M2) noE) (lcD c wt we δ Q xs acc M1)) noE
def wLc (wi : WI) (c : CT) (wt : WT) (we : WE) (vs : List Nat) : WF := fun δ M Q Er => wi δ M (fun items M1 => lcD c wt we (wipeD δ vs) Q items [] M1) Er
def wYes : WT := fun _ M Q _ => Q true M
section
variable {X : Cx} {k : Nat} {elt tg iter : Expr} {ifs : List Expr} {scope : Scope} {own : List (Str × Nat)} {pos : Pos} {wi : WI} {c : CT} {wt : WT} {we : WE}
abbrev bx (X : Cx) (scope : Scope) (s : Shared) (H : Hp) (C : Addr) (cl : List (Str × Addr)) (fp : List Addr) : Cx := X.blk s H scope (compEnvC scope cl C X.env) fp
def tEb (X : Cx) (scope : Scope) (e : Expr) : TE := fun σ H Q => ∀ (s : Shared) (H0 : Hp) (C : Addr) (cl : List (Str × Addr)) (fp : List Addr), tE (bx X scope s H0 C cl fp) e σ H Q
def tTb (X : Cx) (scope : Scope) : List Expr → TT
  | [] => tYes
  | [e] => fun σ H Q => ∀ (s : Shared) (H0 : Hp) (C : Addr) (cl : List (Str × Addr)) (fp : List Addr), tT (bx X scope s H0 C cl fp) e σ H Q
  | _ => fun _ _ _ => False
theorem pe_tEb {e : Expr} {s : Shared} {H : Hp} {C : Addr} {cl : List (Str × Addr)} {fp : List Addr} : PE (bx X scope s H C cl fp) e (tEb X scope e) := ⟨fun pins s' σ H' Q I h => h s H C cl fp pins s' I⟩
theorem pts_tTb : ∀ {ifs : List Expr} {s : Shared} {H : Hp} {C : Addr} {cl : List (Str × Addr)} {fp : List Addr}, PTs (bx X scope s H C cl fp) ifs (tTb X scope ifs)
  | [], _, _, _, _, _ => pts_nil
  | [e], s, H, C, cl, fp => by
    have : PT (bx X scope s H C cl fp) e (tTb X scope [e]) := ⟨fun pins s' σ H' Q I h => h s H C cl fp pins s' I⟩
    exact pts_one this
  | _ :: _ :: _, _, _, _, _, _ => ⟨fun _ _ _ _ _ _ h => h.elim⟩
/-- an element, a test, in whatever block -/
def DEb (X : Cx) (scope : Scope) (e : Expr) (w : WE) : Prop := ∀ (k : Nat) (s : Shared) (H : Hp) (C : Addr) (cl : List (Str × Addr)) (fp : List Addr), DE (bx X scope s H C cl fp) k e w
def DTb (X : Cx) (scope : Scope) : List Expr → WT → Prop
  | [], w => w = wYes
  | [e], w => ∀ (k : Nat) (s : Shared) (H : Hp) (C : Addr) (cl : List (Str × Addr)) (fp : List Addr), DT (bx X scope s H C cl fp) k e w
  | _, _ => False
theorem snk_no {X : Cx} {en : En} : Snk X en noE := ⟨fun _ _ _ _ => False, takes0, fun _ _ _ _ _ _ _ _ _ _ _ _ _ h => h⟩
theorem teb_run (he : DEb X scope elt we) {en : En} {δ : Dl} {M : List MO} {σ : L2.St} {H F : Hp} {A : List Addr} {Q : UK} (hw : Wd X.K en δ M σ H F A) (q : we δ M Q noE) : tEb X scope elt σ H (EPost X.K en δ σ F A Q) :=
  fun s H0 C cl fp => (he en.A.length s H0 C cl fp).run en δ M σ H F A Q noE rfl hw snk_no q
theorem ttb_run : ∀ {ifs : List Expr} (ht : DTb X scope ifs wt) {en : En} {δ : Dl} {M : List MO} {σ : L2.St} {H F : Hp} {A : List Addr} {Q : Bool → List MO → Prop} (hw : Wd X.K en δ M σ H F A) (q : wt δ M Q noE), tTb X scope ifs σ H (TPost X.K en δ σ F A Q)
  | [], ht, en, δ, M, σ, H, F, A, Q, hw, q => by
    cases (show wt = wYes from ht)
    exact ⟨M, F, A, hw, Gr.refl, q⟩
  | [e], ht, en, δ, M, σ, H, F, A, Q, hw, q => fun s H0 C cl fp => (ht en.A.length s H0 C cl fp).run en δ M σ H F A Q noE rfl hw snk_no q
  | _ :: _ :: _, ht, _, _, _, _, _, _, _, _, _, _ => ht.elim
theorem tT_mono' {ifs : List Expr} {σ : L2.St} {H : Hp} {Q Q' : Bool → Hp → Prop} (h : tTb X scope ifs σ H Q) (f : ∀ b H', Q b H' → Q' b H') : tTb X scope ifs σ H Q' := by
  match ifs, h with
  | [], h => exact f _ _ h
  | [e], h => exact fun s H0 C cl fp => (h s H0 C cl fp).mono f
  | _ :: _ :: _, h => exact h.elim
theorem tEb_mono {e : Expr} {σ : L2.St} {H : Hp} {Q Q' : VK} (h : tEb X scope e σ H Q) (f : ∀ v H', Q v H' → Q' v H') : tEb X scope e σ H Q' := fun s H0 C cl fp => (h s H0 C cl fp).mono f
/-- the loop of a comprehension -/
theorem lc_run {σ : L2.St} {H F : Hp} {A : List Addr} {en : En} {δ : Dl} {M : List MO} {Q : MO → List MO → Prop} {J : It} {items : List D} {vs : List Nat} (ht : DTb X scope ifs wt) (he : DEb X scope elt we) (hv : ∀ j ∈ c.slots, j ∈ vs) (hw : Wd X.K en δ M σ H F A)
    (ok : ∀ en' : En, ItOk X.K en' F J items) (q : lcD c wt we (wipeD δ vs) Q items [] M) : ∀ D, H D = none → ∃ W : Nat → Nat → Hp → Prop, (∃ m, W 0 m (upd H D (.lst []))) ∧ ∀ i m H', W i m H' →
  (J.stop i H' ∧ FPost X.K en δ σ F A Q (.ref D) H') ∨ (J.go i H' ∧ ∃ Nx : Hp → Prop, (∀ H', Nx H' → ∃ m', m' < m ∧ W (i + 1) m' H') ∧ ∀ x H2, J.yld i H' x H2 → c.g X.K x (L2.wipe σ vs) H2 fun σ2 H2 => L2.wipe σ2 vs = L2.wipe σ vs ∧ tTb X scope ifs σ2 H2 fun b H3 =>
    if b = true then tEb X scope elt σ2 H3 fun y H4 => ∃ acc, H4 D = some (.lst acc) ∧ acc.length < sizeLine ∧ Nx (upd H4 D (.lst (acc ++ [y]))) else Nx H3) := by
  intro Dp hD
  -- the entry: all that stands ahead of the list
  let e1 : En := ⟨H, F, F, A⟩
  have w0 : Wd X.K e1 (wipeD δ vs) M (L2.wipe σ vs) H F A := (hw.wipe vs).selfS
  let Wi : Nat → Hp → Prop := fun i H' => i ≤ items.length ∧ ∃ M' F' A' acc ds, Wd X.K e1 (wipeD δ vs) M' (L2.wipe σ vs) H' F' A' ∧ H' Dp = some (.lst acc) ∧ Reps X.K F' ds acc ∧ Dp ∉ A' ∧ F' Dp = none ∧ lcD c wt we (wipeD δ vs) Q (items.drop i) ds M'
  have hFD : F Dp = none := hw.fF hD
  have hAD : Dp ∉ A := hw.fA hD
  refine ⟨fun i m H' => m = items.length - i ∧ Wi i H', ⟨_, rfl, Nat.zero_le _, M, F, A, [], [], w0.extra hFD hAD hD (fun b hb => upd_ne hb) (fun xs => by rw [upd_same]; exact fun z => nomatch z), upd_same, rfl, hAD, hFD, q⟩, ?_⟩
  rintro i m H1 ⟨rfl, hle, M1, F1, A1, acc, ds, w1, hl, rd, nA, nF, q1⟩
  by_cases hi : i < items.length
  · -- all that stands at this turn is kept in it
    let e2 : En := ⟨H1, F1, F1, A1⟩
    have w2 : Wd X.K e2 (wipeD δ vs) M1 (L2.wipe σ vs) H1 F1 A1 := w1.selfS
    obtain ⟨go, yl⟩ := (ok e2 (wipeD δ vs) M1 (L2.wipe σ vs) H1 F1 A1 w2 w1.subF i).1 hi
    refine .inr ⟨go, fun H' => Wi (i + 1) H', fun H' h => ⟨_, by omega, rfl, h⟩, fun x H2 hy => ?_⟩
    obtain ⟨F3, d, w3, sF, hd, rx⟩ := yl x H2 hy
    have ed : items.drop i = d :: items.drop (i + 1) := by
      have := List.drop_eq_getElem_cons hi
      rw [this]
      have e2 : items[i]? = some items[i] := List.getElem?_eq_getElem hi
      rw [hd] at e2
      rw [← Option.some.inj e2]
    rw [ed] at q1
    -- what is left of the turn: back to the list
    have keepD : ∀ {δ' : Dl} {M' : List MO} {σ' : L2.St} {H' F' : Hp} {A' : List Addr}, Wd X.K e2 δ' M' σ' H' F' A' → H' Dp = some (.lst acc) ∧ Dp ∉ A' ∧ F' Dp = none := fun {δ' M' σ' H' F' A'} w => by
      refine ⟨w.keep Dp _ hl nA, fun z => ?_, ?_⟩
      · obtain ⟨B, hB⟩ := w.pre
        have hB : A' = A1 ++ B := hB
        rw [hB] at z
        rcases List.mem_append.mp z with z | z
        · exact nA z
        · obtain ⟨j, hj⟩ := List.mem_iff_getElem?.mp z
          have := w.newA (A1.length + j) Dp (by show A1.length ≤ _; omega) (by rw [hB, List.getElem?_append_right (by omega), Nat.add_sub_cancel_left]; exact hj)
          have h2 : H1 Dp = none := this
          rw [hl] at h2; cases h2
      · cases z : F' Dp with
        | none => rfl
        | some o =>
          have := w.newF Dp (by rw [z]; exact fun y => nomatch y) nF
          have h2 : H1 Dp = none := this
          rw [hl] at h2; cases h2
    have back : ∀ {δ' : Dl} {M' : List MO} {σ' : L2.St} {H' F' : Hp} {A' : List Addr}, Wd X.K e2 δ' M' σ' H' F' A' → Wd X.K e1 (wipeD δ vs) M' (L2.wipe σ vs) H' F' A' := fun {δ' M' σ' H' F' A'} w => by
      have g : Gr F1 A1 F' A' := ⟨w.subF, w.pre⟩
      exact w1.re (w1.unwipe w g)
    refine CT.run c hv w3 rx q1 fun δ4 σ4 w4 hw4 q4 => ⟨by rw [hw4, wipe_wipe], ?_⟩
    refine tT_mono' (ttb_run ht w4 q4) ?_
    rintro b H5 ⟨M5, F5, A5, w5, g5, q5⟩
    refine if_cnd ?_
    have sF5 : Same F1 F5 := w5.subF
    cases b with
    | true =>
      refine tEb_mono (teb_run he w5 q5) ?_
      rintro y H6 ⟨u, M6, F6, A6, w6, g6, r6, z, rfl, hz, q6⟩
      obtain ⟨k1, k2, k3⟩ := keepD w6
      have sF6 : Same F1 F6 := w6.subF
      refine ⟨acc, k1, by rw [rd.length]; exact hz, hi, M6, F6, A6, acc ++ [y], ds ++ [z], ?_, upd_same, (rd.mono sF6).append ⟨y, [], rfl, r6, rfl⟩, k2, k3, q6⟩
      exact (back w6).extra k3 k2 hD (fun b hb => upd_ne hb) fun xs => by rw [upd_same]; exact fun z => nomatch z
    | false =>
      obtain ⟨k1, k2, k3⟩ := keepD w5
      exact ⟨hi, M5, F5, A5, acc, ds, back w5, k1, rd.mono sF5, k2, k3, q5⟩
  · rw [List.drop_of_length_le (by omega)] at q1
    refine .inl ⟨(ok e1 (wipeD δ vs) M1 (L2.wipe σ vs) H1 F1 A1 w1 w1.subF i).2 (by omega), ?_⟩
    have g : Gr F A F1 A1 := ⟨w1.subF, w1.pre⟩
    refine ⟨fun b => if b = Dp then none else H1 b, .lst ds, M1, F1, A1, Dp, .lst acc, rfl, if_pos rfl, ?_, ?_, g, ⟨acc, rfl, rd⟩, q1⟩
    · funext b
      unfold upd
      by_cases hb : b = Dp
      · rw [if_pos hb, hb, hl]
      · rw [if_neg hb]; exact (if_neg hb).symm
    · have w5 : Wd X.K en δ M1 σ H1 F1 A1 := hw.re (hw.unwipe w1 g)
      refine w5.extra nF nA (hw.there Dp hD) (fun b hb => if_neg hb) fun xs => ?_
      show (if Dp = Dp then none else H1 Dp) ≠ _
      rw [if_pos rfl]; exact fun z => nomatch z
theorem df_lc (hc : X.calm = true) (hN : X.N.Nodup) (hi : DI X k tg iter wi) (ok : BlkOk X.N X.env.scope scope own) (hv : ∀ j ∈ c.slots, j ∈ own.map (·.2))
    (hg : ∀ (s : Shared) (H : Hp) (C : Addr) (cl : List (Str × Addr)) (fp : List Addr), PG (bx X scope s H C cl fp) tg (c.g X.K)) (ht : DTb X scope ifs wt) (he : DEb X scope elt we) (hs : ∀ x, foldedSetIterable iter X.env x = pure x := by intro _; rfl) :
    DF X k (.ListComp elt [⟨tg, iter, ifs, 0⟩] scope pos) (wLc wi c wt we (own.map (·.2))) := .mk fun en δ M σ H F A Q Er hk hw hsn q => by
  refine tE.of (pe_lc hc hN pi_tI ok hg (fun s H C cl fp => pts_tTb) (fun s H C cl fp => pe_tEb) hs) ((hi.run en δ M σ H F A _ Er hk hw hsn q).mono ?_)
  rintro J H1 ⟨items, M1, F1, A1, w1, g1, iok, q1⟩
  intro Dp hD
  obtain ⟨W, h1, h2⟩ := lc_run ht he hv w1 iok q1 Dp hD
  exact ⟨W, h1, fun i m H' hW => (h2 i m H' hW).imp (fun ⟨a, b⟩ => ⟨a, b.up g1⟩) id⟩
/-- y = [..] -/
theorem ds_setLc {i : Nat} {y : Str} {py spos : Pos} (own? : Bool) (hc : X.calm = true) (hN : X.N.Nodup) (hi : DI X k tg iter wi) (ok : BlkOk X.N X.env.scope scope own) (hv : ∀ j ∈ c.slots, j ∈ own.map (·.2))
    (hsw : swapsWith (.ListComp elt [⟨tg, iter, ifs, 0⟩] scope pos) (some (.Name y py)) spos.line X.env = pure true)
    (hg : ∀ (s : Shared) (H : Hp) (C : Addr) (cl : List (Str × Addr)) (fp : List Addr), PG (bx X scope s H C cl fp) tg (c.g X.K)) (ht : DTb X scope ifs wt) (he : DEb X scope elt we) (hy : X.N[i]? = some y := by rfl) (hyl : X.env.scope.names.lookup y = some .local := by rfl) (hs : ∀ x, foldedSetIterable iter X.env x = pure x := by intro _; rfl) :
    DS X k (.Assign [.Name y py] (.ListComp elt [⟨tg, iter, ifs, 0⟩] scope pos) spos) (wAsg (if own? then wOwn (wLc wi c wt we (own.map (·.2))) else wFrz (wLc wi c wt we (own.map (·.2)))) (gN i)) := .mk fun en δ M σ H F A De hk hw hsn q => by
  have fin : ∀ {Q : UK} {Q0 : MO → List MO → Prop}, (∀ {F1 : Hp} {A1 : List Addr} {v : V} {H' : Hp}, FPost X.K en δ σ F1 A1 Q0 v H' → EPost X.K en δ σ F1 A1 Q v H') → wLc wi c wt we (own.map (·.2)) δ M Q0 De.er →
      tS X (.Assign [.Name y py] (.ListComp elt [⟨tg, iter, ifs, 0⟩] scope pos) spos) { (EN X.K en De) with nx := fun σ' H' => ∃ u v M' F' A', Wd X.K en δ M' σ H' F' A' ∧ UR X.K F' A' u v ∧ σ' = σ.set i (some v) ∧ Q u M' } σ H := fun {Q Q0} conv q => by
    refine tS.of (ps_setLc hc hN hy hyl hsw pi_tI ok hg (fun s H C cl fp => pts_tTb) (fun s H C cl fp => pe_tEb) hs) ((hi.run en δ M σ H F A _ De.er hk hw hsn q).mono ?_)
    rintro J H1 ⟨items, M1, F1, A1, w1, g1, iok, q1⟩
    intro Dp hD
    obtain ⟨W, h1, h2⟩ := lc_run ht he hv w1 iok q1 Dp hD
    refine ⟨W, h1, fun i m H' hW => (h2 i m H' hW).imp (fun ⟨a, b⟩ => ⟨a, ?_⟩) id⟩
    obtain ⟨u, M', F', A', w', g', r', q'⟩ := conv b
    exact ⟨u, _, M', F', A', w', r', rfl, q'⟩
  cases own? with
  | true =>
    refine (fin (Q := fun u M' => gN i u δ M' De.nx De.er) (fun p => p.own) q).mono ?_ (fun _ _ h => h) (fun _ _ h => h) fun _ _ h => h
    rintro σ1 H1 ⟨u, v, M', F', A', w', r', rfl, q'⟩
    exact ⟨_, M', F', A', w'.store r', q'⟩
  | false =>
    refine (fin (Q := fun u M' => gN i u δ M' De.nx De.er) (fun p => p.frz) q).mono ?_ (fun _ _ h => h) (fun _ _ h => h) fun _ _ h => h
    rintro σ1 H1 ⟨u, v, M', F', A', w', r', rfl, q'⟩
    exact ⟨_, M', F', A', w'.store r', q'⟩
end
end DL
namespace DL
open PySem PySem.Spec PyProof.Rows L2
/-- a def of the text that keeps a promise, raises nothing -/
structure Cal (P : Program) (w : World) (K : PySem.W.Frag) (mg : Str → Option Value) (base : Heap) (x : Str) (st : Stmt) (j : Nat) (ps : List Str) (n kr : Nat) (m : Spec) : Prop where
  ex : ∃ (f : Addr) (fd : FuncData), FnOk P w K mg base CX0 j f fd ps (spR K n kr m) ∧ mg x = some (.ref f) ∧ PySem.W.keepIn K (.ref f) = true ∧ Binds K fd ps [] ∧ Fun K x x st f fd
  ok : SpecOk m
section
variable {X : Cx} {k n kr j : Nat} {ps : List Str} {m : Spec} {x : Str} {st : Stmt} {p pos : Pos} {e : Expr} {es : List Expr} {wa : WA}
theorem de_cal (c : Cal X.prog X.w X.K X.mg X.base x st j ps n kr m) (hr : Room j X.A) (ha : DA X k (e :: es) wa)
    (hg : Gl X x := by rfl) (hdb : (x == ("__debug__" : Str)) = false := by decide) (he_ : nst e = true := by rfl) (hpl_ : es.all nst = true := by rfl) :
    DE X k (.Call (.Name x p) (e :: es) [] pos) (wCall n kr m wa) := by
  obtain ⟨f, fd, G, hf, hk, hb, _⟩ := c.ex
  exact de_call G c.ok hr hf hk hb ha hg hdb he_ hpl_
theorem de_cal0 (c : Cal X.prog X.w X.K X.mg X.base x st j ps n kr m) (hr : Room j X.A)
    (hg : Gl X x := by rfl) (hdb : (x == ("__debug__" : Str)) = false := by decide) :
    DE X k (.Call (.Name x p) [] [] pos) (wCall n kr m wNil) := .mk fun en δ M σ H F A Q Er hk hw hs q => by
  obtain ⟨f, fd, G, hf, hkp, hb, _⟩ := c.ex
  refine tE.of (pe_call0 G hr hg hf hkp hb .nil pass0 hdb) ?_
  obtain ⟨c1, c2, q1⟩ := q
  exact sp_of (us := []) (vs := []) hw rfl c1 c2 q1 (fun v H' h => h) (fun Q E E' i h => c.ok.mono _ _ _ _ _ _ (fun _ _ h => h) i h) (fun Q Q' E i h => c.ok.mono _ _ _ _ _ _ i (fun _ _ h => h) h)
end
/-! ### a call that is handed one object, its first argument -/
theorem Wd.one {K : PySem.W.Frag} {en : En} {δ : Dl} {M : List MO} {σ : L2.St} {H F : Hp} {A : List Addr} (w : Wd K en δ M σ H F A) {n : Nat} {a : Addr} {m : MO} (ha : A[n]? = some a) (hm : M[n]? = some m) (hc : closedM 0 m = true) : Wd K ⟨H, F, F, [a]⟩ [] [m] [] H F [a] := by
  have one : ∀ {i : Nat} {b : Addr}, [a][i]? = some b → i = 0 ∧ b = a := fun {i b} e => by
    cases i with
    | zero => exact ⟨rfl, (Option.some.inj e).symm⟩
    | succ i => simp at e
  refine ⟨w.sub, w.tups, rfl, by simp, fun i b o h1 h2 h3 => ?_, fun i b o h1 h2 => ?_, fun b hb => ?_, rfl, fun i u e => by simp at e, fun b o e _ => e, fun b e => e, Same.refl F, fun b h1 h2 => absurd h2 h1, ⟨[], rfl⟩, fun i b hi e => ?_⟩
  · obtain ⟨rfl, rfl⟩ := one h1
    have e : m = o := Option.some.inj h2
    subst e
    exact w.dis n _ m ha hm h3
  · obtain ⟨rfl, rfl⟩ := one h1
    have e : m = o := Option.some.inj h2
    subst e
    have h := w.mem n _ m ha hm
    cases m with
    | box us =>
      obtain ⟨vs, e1, e2⟩ := h
      have := e2.cut (n := 0) hc
      exact ⟨vs, e1, this.mono ⟨Same.refl F, [b], by rw [List.take_zero]; rfl⟩⟩
    | _ => exact h
  · have : b = a := by simpa using hb
    subst this
    exact w.here b (List.mem_of_getElem? ha)
  · obtain ⟨rfl, _⟩ := one e
    exact absurd hi (by show ¬ ([a].length ≤ 0); simp)
theorem Wd.after1 {K : PySem.W.Frag} {en : En} {δ : Dl} {M : List MO} {σ : L2.St} {H F : Hp} {A : List Addr} (w : Wd K en δ M σ H F A) {n : Nat} {a : Addr} {m m' : MO} {H' F' : Hp} {A' : List Addr} (ha : A[n]? = some a) (hm : M[n]? = some m) (hd : m ≠ .dead) (hc : closedM 0 m' = true)
    (w' : Wd K ⟨H, F, F, [a]⟩ [] [m'] [] H' F' A') : Wd K en δ (M.set n m') σ H' F' A ∧ Gr F A F' A := by
  have hA' : A' = [a] := by
    obtain ⟨B, hB⟩ := w'.pre
    have hB : A' = [a] ++ B := hB
    have : B = [] := List.eq_nil_of_length_eq_zero (by
      have := w'.len
      rw [hB, List.length_append] at this
      have h2 : [a].length = 1 := rfl
      have h3 : [m'].length = 1 := rfl
      omega)
    rw [hB, this]; rfl
  subst hA'
  have g : Gr F A F' A := ⟨w'.subF, [], (List.append_nil A).symm⟩
  have hln : n < M.length := by rw [← w.len]; exact (List.getElem?_eq_some_iff.mp ha).1
  have inj : ∀ {i b}, A[i]? = some b → i ≠ n → b ≠ a := fun {i b} e ne z => by
    subst z
    exact ne ((List.getElem?_inj (List.getElem?_eq_some_iff.mp e).1 w.nd).mp (e.trans ha.symm))
  have stay : ∀ b o, b ≠ a → H b = some o → H' b = some o := fun b o hb e => w'.keep b o e (by simpa using hb)
  refine ⟨⟨w'.sub, w'.tups, by rw [List.length_set]; exact w.len, w.nd, fun i b x h1 h2 h3 => ?_, fun i b x h1 h2 => ?_, fun b hb q => w.here b hb (w'.there b q), w.dl, fun i u e => ?_, fun b o e n' => ?_, fun b e => w.there b (w'.there b e), w.subF.trans w'.subF, fun b e n' => ?_, w.pre, w.newA⟩, g⟩
  · by_cases hi : i = n
    · subst hi
      rw [ha] at h1; cases h1
      rw [List.getElem?_set_self hln] at h2
      cases h2
      exact w'.dis 0 a m' rfl rfl h3
    · rw [List.getElem?_set_ne (Ne.symm hi)] at h2
      have hf := w.dis i b x h1 h2 h3
      cases q : F' b with
      | none => rfl
      | some o =>
        have := w'.newF b (by rw [q]; exact fun z => nomatch z) hf
        exact absurd this (w.here b (List.mem_of_getElem? h1))
  · by_cases hi : i = n
    · subst hi
      rw [ha] at h1; cases h1
      rw [List.getElem?_set_self hln] at h2
      cases h2
      have h := w'.mem 0 a m' rfl rfl
      cases m' with
      | box us =>
        obtain ⟨vs, e1, e2⟩ := h
        exact ⟨vs, e1, (e2.cut (n := 0) hc).mono ⟨Same.refl F', A, by rw [List.take_zero]; rfl⟩⟩
      | _ => exact h
    · rw [List.getElem?_set_ne (Ne.symm hi)] at h2
      exact (w.mem i b x h1 h2).mono g fun u e => stay b u (inj h1 hi) e
  · obtain ⟨v, e1, e2⟩ := w.sl i u e
    exact ⟨v, e1, e2.mono g⟩
  · refine stay b o (fun z => ?_) (w.keep b o e n')
    subst z
    by_cases hl : n < en.A.length
    · obtain ⟨B2, e2⟩ := w.pre
      rw [e2, List.getElem?_append_left hl] at ha
      exact n' (List.mem_of_getElem? ha)
    · have := w.newA n b (by omega) ha
      rw [e] at this; cases this
  · cases q : F b with
    | none => exact w.there b (w'.newF b e q)
    | some o => exact w.newF b (by rw [q]; exact fun z => nomatch z) n'
/-- the first argument is a mutable object, the others are data -/
def dataUs : List U → Bool
  | [] => true
  | .d _ :: us => dataUs us
  | .r _ :: _ => false
def wCallI (m : Spec) (a : WA) : WE := fun δ M Q Er => a δ M (fun us M1 => match us with
  | .r n :: r => ∃ o, M1[n]? = some o ∧ o ≠ .dead ∧ closedM 0 o = true ∧ dataUs r = true ∧ m (.r 0 :: r) [o] (fun u M' => ∃ x o', u = .d x ∧ M' = [o'] ∧ closedM 0 o' = true ∧ Q u (M1.set n o')) (fun _ _ => False)
  | _ => False) Er
theorem dataUs_ur {K : PySem.W.Frag} {F : Hp} {A A' : List Addr} : ∀ {us : List U} {vs : List V}, dataUs us = true → URs K F A us vs → URs K F A' us vs
  | [], _, _, r => r
  | .d x :: us, vs, h, r => by
    obtain ⟨v, w, e, a, b⟩ := r
    exact ⟨v, w, e, a, dataUs_ur (us := us) h b⟩
  | .r _ :: _, _, h, _ => by cases h
section
variable {X : Cx} {k j : Nat} {ps : List Str} {m : Spec} {x : Str} {st : Stmt} {p pos : Pos} {e : Expr} {es : List Expr} {wa : WA}
theorem de_calI (c : Cal X.prog X.w X.K X.mg X.base x st j ps 1 1 m) (hr : Room j X.A) (ha : DA X k (e :: es) wa)
    (hg : Gl X x := by rfl) (hdb : (x == ("__debug__" : Str)) = false := by decide) (he_ : nst e = true := by rfl) (hpl_ : es.all nst = true := by rfl) :
    DE X k (.Call (.Name x p) (e :: es) [] pos) (wCallI m wa) := .mk fun en δ M σ H F A Q Er hk hw hs q => by
  obtain ⟨f, fd, G, hf, hkp, hb, _⟩ := c.ex
  refine tE.of (pe_call G hr hg hf hkp hb .nil pass0 pa_tA hdb (star_c he_) (star_any hpl_)) ((ha.run en δ M σ H F A _ Er hk hw hs q).mono ?_)
  rintro vs H1 ⟨us, M1, F1, A1, w1, g1, r1, l1, q1⟩
  rw [List.append_nil]
  split at q1
  · next n r =>
    obtain ⟨v, vs', rfl, ⟨a, ha, rfl⟩, r2⟩ := r1
    obtain ⟨o, hm, hd, hc, hda, q1⟩ := q1
    refine ⟨F1, [a], .r 0 :: r, [o], rfl, w1.one ha hm hc, ⟨.ref a, vs', rfl, ⟨a, rfl, rfl⟩, dataUs_ur hda r2⟩, ?_⟩
    refine c.ok.mono _ _ _ _ _ _ ?_ (fun x M h => h.elim) q1
    rintro u M' ⟨y, o', rfl, rfl, hc', hQ⟩ v H' F' A' w' hl r'
    obtain ⟨w2, g2⟩ := w1.after1 ha hm hd hc' w'
    exact ⟨.d y, _, F', A1, w2, g1.trans g2, r', hQ⟩
  · exact q1.elim
end
/-! ### calls with keywords -/
def perm {α : Type} (π : List Nat) (l : List α) : List α := π.filterMap fun i => l[i]?
structure KwB (K : PySem.W.Frag) (fd : FuncData) (ps : List Str) (n : Nat) (ks : List Str) (π : List Nat) : Prop where
  to : ∀ (s : Shared) (us ws : List Value), us.length = n → ws.length = ks.length → BindsTo s fd ⟨us, ks.zip ws⟩ (ps.zip (perm π (us ++ ws)))
theorem perm_vals : ∀ {π : List Nat} {vs : List V} {us : List Value}, Vals vs us → Vals (perm π vs) (perm π us)
  | [], _, _, _ => .nil
  | i :: π, vs, us, r => by
    have ih := perm_vals (π := π) r
    unfold perm at ih ⊢
    rw [List.filterMap_cons, List.filterMap_cons]
    cases e : vs[i]? with
    | none =>
      rw [Vals.none_of r e]
      exact ih
    | some v =>
      obtain ⟨u, h1, h2⟩ := r.get e
      rw [h1]
      exact .cons h2 ih
theorem urs_none {K : PySem.W.Frag} {F : Hp} {A : List Addr} {us : List U} {vs : List V} {i : Nat} (r : URs K F A us vs) (e : us[i]? = none) : vs[i]? = none := by
  have h := List.getElem?_eq_none_iff.mp e
  exact List.getElem?_eq_none_iff.mpr (by rw [r.length]; exact h)
theorem perm_urs {K : PySem.W.Frag} {F : Hp} {A : List Addr} : ∀ {π : List Nat} {us : List U} {vs : List V}, URs K F A us vs → URs K F A (perm π us) (perm π vs)
  | [], _, _, _ => rfl
  | i :: π, us, vs, r => by
    have ih := perm_urs (π := π) r
    unfold perm at ih ⊢
    rw [List.filterMap_cons, List.filterMap_cons]
    cases e : us[i]? with
    | none =>
      rw [urs_none r e]
      exact ih
    | some u =>
      obtain ⟨v, h1, h2⟩ := r.get e
      rw [h1]
      exact ⟨v, _, rfl, h2, ih⟩
def tK (X : Cx) (kws : List Keyword) : TA := fun σ H Q => ∀ (pos : Pos) (pins : List (Addr × Obj)) (s : Shared), Inv X pins σ H s → wpAny (model X.prog X.w) X.A (evalAll ((backToKw pos (keywordEach kws X.env)).map (·.2))) (AP X pins σ Q) X.xe s
theorem pk_tK {X : Cx} {kws : List Keyword} : PK X kws (tK X kws) := ⟨fun pos pins s σ H Q I h => h pos pins s I⟩
theorem tK.of {X : Cx} {kws : List Keyword} {t : TA} (h : PK X kws t) {σ : L2.St} {H : Hp} {Q : List V → Hp → Prop} (q : t σ H Q) : tK X kws σ H Q := fun pos pins s I => h.run pos pins s σ H Q I q
theorem tK.mono {X : Cx} {kws : List Keyword} {σ : L2.St} {H : Hp} {Q Q' : List V → Hp → Prop} (h : tK X kws σ H Q) (f : ∀ v H', Q v H' → Q' v H') : tK X kws σ H Q' := fun pos pins s I =>
  thn (h pos pins s I) fun _ _ ⟨vs, H', J, r, q⟩ => ⟨vs, H', J, r, f _ _ q⟩
structure DK (X : Cx) (k : Nat) (kws : List Keyword) (w : WA) : Prop where
  run : ∀ (en : En) (δ : Dl) (M : List MO) (σ : L2.St) (H F : Hp) (A : List Addr) (Q : List U → List MO → Prop) (Er : ER), en.A.length = k → Wd X.K en δ M σ H F A → Snk X en Er → w δ M Q Er → tK X kws σ H (APost X.K kws.length en δ σ F A Q)
/-- f(a, .., k = b, ..): π puts the written ones into the parameters' order -/
def wCallK (n kr : Nat) (m : Spec) (π : List Nat) (a b : WA) : WE := fun δ M Q Er => a δ M (fun us M1 => b δ M1 (fun ws M2 => callOk n (perm π (us ++ ws)) M2 = true ∧ (kr = n ∨ M2.length = n) ∧ m (perm π (us ++ ws)) (M2.take n) (fun u M' => Q u (M' ++ M2.drop n)) (fun _ _ => False)) Er) Er
section
variable {X : Cx} {k n kr j : Nat} {ps ks : List Str} {m : Spec} {x : Str} {st : Stmt} {p pos kpos : Pos} {e : Expr} {es : List Expr} {kws : List Keyword} {wa wb : WA} {nm : Option Str} {π : List Nat}
theorem dk_nil : DK X k [] wNil := .mk fun en δ M σ H F A Q Er hk hw hs q => tK.of pk_nil ⟨[], M, F, A, hw, Gr.refl, rfl, rfl, q⟩
theorem dk_cons {we : WE} (ha : DE X k e we) (hr : DK X k kws wb) : DK X k (⟨nm, e, kpos⟩ :: kws) (wCons we wb) := .mk fun en δ M σ H F A Q Er hk hw hs q => by
  refine tK.of (pk_cons pe_tE pk_tK) ((ha.run en δ M σ H F A _ Er hk hw hs q).mono ?_)
  rintro v H1 ⟨u, M1, F1, A1, w1, g1, r1, q1⟩
  refine (hr.run en δ M1 σ H1 F1 A1 _ Er hk w1 hs q1).mono ?_
  rintro vs H2 ⟨us, M2, F2, A2, w2, g2, r2, l2, q2⟩
  exact ⟨u :: us, M2, F2, A2, w2, g1.trans g2, ⟨v, vs, rfl, r1.mono g2, r2⟩, by rw [List.length_cons, l2]; rfl, q2⟩
theorem run_kw {f : Addr} {fd : FuncData} {sp : Sp} {n0 : Nat} {pins : List (Addr × Obj)} {σ : L2.St} {H : Hp} {s : Shared} {Q : VK} {us ws : List Value} {vs zs : List V} (F : FnOk X.prog X.w X.K X.mg X.base CX0 j f fd ps sp) (hr : Room j X.A) (hb : KwB X.K fd ps n0 ks π)
    (I : Inv X pins σ H s) (r : Vals vs us) (rz : Vals zs ws) (l1 : vs.length = n0) (l2 : zs.length = ks.length) (h : sp (perm π (vs ++ zs)) H Q E0) : wpAny (model X.prog X.w) X.A (call (.ref f) us (ks.zip ws)) (EP X pins σ Q) X.xe s := by
  have r2 := perm_vals (π := π) (r.append rz)
  refine wpAny_call (codeAny_mono (F.run X.A X.stack s H ⟨us, ks.zip ws⟩ (perm π (us ++ ws)) (perm π (vs ++ zs)) Q E0 hr I.env0 (hb.to s us ws (r.length.symm.trans l1) (rz.length.symm.trans l2)) r2 h) fun r s' hq => ?_)
  cases r with
  | error e => exact (pass0 (X := X) pins σ H s e s' I hq)
  | ok fl =>
    cases fl with
    | ret u => exact I.after hq
    | next => exact False.elim hq
    | brk => exact False.elim hq
    | cont => exact False.elim hq
theorem de_calK (c : Cal X.prog X.w X.K X.mg X.base x st j ps n kr m) (hb : ∀ f fd, Fun X.K x x st f fd → KwB X.K fd ps (e :: es).length ks π) (hr : Room j X.A) (ha : DA X k (e :: es) wa) (hkw : DK X k kws wb) (hks_ : kws.map (·.arg) = ks.map some := by rfl)
    (hl : kws.length = ks.length := by rfl)
    (hg : Gl X x := by rfl) (hdb : (x == ("__debug__" : Str)) = false := by decide) (he_ : nst e = true := by rfl)
    (hpl_ : es.all nst = true := by rfl) :
    DE X k (.Call (.Name x p) (e :: es) kws pos) (wCallK n kr m π wa wb) := .mk fun en δ M σ H F A Q Er hk hw hs q => by
  obtain ⟨f, fd, G, hf, hkp, _, hfun⟩ := c.ex
  have hb := hb f fd hfun
  intro pins s I
  refine wpAny_Call_Name_kw (ld_glob I hg hf ?_ hdb)
  refine PySem.W.callWith_KW (h₀ := X.base) I.ok.mod.kin hkp (kw_all hks_) (thn ((ha.run en δ M σ H F A _ Er hk hw hs q) pos pins s I) fun us s1 ⟨vs, H1, I1, r, q1⟩ => ?_) (by rw [star_any (es := e :: es) (by rw [List.all_cons, he_, hpl_]; rfl), kw_none hks_]; rfl) (star_c he_)
  obtain ⟨us', M1, F1, A1, w1, g1, r1, l1, q1⟩ := q1
  refine thn ((hkw.run en δ M1 σ H1 F1 A1 _ Er hk w1 hs q1) pos pins s1 I1) fun ws s2 ⟨zs, H2, I2, rz, q2⟩ => ⟨I2.kIn, ?_⟩
  obtain ⟨ws', M2, F2, A2, w2, g2, r2, l2, c1, c2, q2⟩ := q2
  rw [kw_names hks_]
  have r1' := r1.mono g2
  refine run_kw G hr hb I2 r rz (by rw [r1.length, l1]) (by rw [r2.length, l2, hl]) ?_
  exact sp_of w2 (perm_urs (r1'.append r2)) c1 c2 q2 (fun v H' h => h.up (g1.trans g2)) (fun Q E E' i h => c.ok.mono _ _ _ _ _ _ (fun _ _ h => h) i h) (fun Q Q' E i h => c.ok.mono _ _ _ _ _ _ i (fun _ _ h => h) h)
theorem de_calK0 (c : Cal X.prog X.w X.K X.mg X.base x st j ps n kr m) (hb : ∀ f fd, Fun X.K x x st f fd → KwB X.K fd ps 0 ks π) (hr : Room j X.A) (hkw : DK X k kws wb) (hks_ : kws.map (·.arg) = ks.map some := by rfl)
    (hl : kws.length = ks.length := by rfl)
    (hg : Gl X x := by rfl) (hdb : (x == ("__debug__" : Str)) = false := by decide)
    :
    DE X k (.Call (.Name x p) [] kws pos) (wCallK n kr m π wNil wb) := .mk fun en δ M σ H F A Q Er hk hw hs q => by
  obtain ⟨f, fd, G, hf, hkp, _, hfun⟩ := c.ex
  have hb := hb f fd hfun
  intro pins s I
  refine wpAny_Call_Name_kw (ld_glob I hg hf ?_ hdb)
  refine PySem.W.callWith_KW0 (h₀ := X.base) I.ok.mod.kin hkp (kw_all hks_) ?_ (by rw [star_any (es := []) rfl, kw_none hks_]; rfl)
  refine thn ((hkw.run en δ M σ H F A _ Er hk hw hs q) pos pins s I) fun ws s2 ⟨zs, H2, I2, rz, q2⟩ => ⟨I2.kIn, ?_⟩
  obtain ⟨ws', M2, F2, A2, w2, g2, r2, l2, c1, c2, q2⟩ := q2
  rw [kw_names hks_]
  refine run_kw (us := []) (vs := []) G hr hb I2 .nil rz rfl (by rw [r2.length, l2, hl]) ?_
  exact sp_of w2 (perm_urs r2) c1 c2 q2 (fun v H' h => h.up g2) (fun Q E E' i h => c.ok.mono _ _ _ _ _ _ (fun _ _ h => h) i h) (fun Q Q' E i h => c.ok.mono _ _ _ _ _ _ i (fun _ _ h => h) h)
end
/-- the end of a def's proof: from its body's derivation and its plain reading -/
theorem cal_mk {P : Program} {w : World} {K : PySem.W.Frag} {mg : Str → Option Value} {base : Heap} {x : Str} {st : Stmt} {f : Addr} {fd : FuncData} {N ps : List Str} {j k kr : Nat} {m : Spec} {W : WS} (F : Fun K x x st f fd) (hf : mg x = some (.ref f)) (hb : Binds K fd ps []) (S : FnScope N ps (defScope st)) (ok : SpecOk m) (hl : ∀ us M Q E, m us M Q E → us.length = ps.length) (hkr : k ≤ kr)
    (hd : ∀ (cdv : Value) (A : Around) (outer : List Env) (s : Shared) (H : Hp) (E : XK), Room j (A.deeper (envOfC x (defScope st) s.heap.objs.size f cdv)) → DSs (cxOf CX0 P w K mg base N x (defScope st) f cdv A outer s H E).nox k (defBody st) W)
    (hw : ∀ us M Q, m us M Q (fun _ _ => False) → W (fnEnds k kr Q (fun _ _ => False)) (slots N us) M) (hE : ∀ us M Q E, m us M Q E → m us M Q (fun _ _ => False)) : Cal P w K mg base x st (j + 1) ps k kr m :=
  ⟨⟨f, fd, fn_ok F S hl hkr hd hw hE, hf, F.kp, hb, F⟩, ok⟩
theorem Cal.up {P : Program} {w : World} {K : PySem.W.Frag} {mg : Str → Option Value} {base : Heap} {x : Str} {st : Stmt} {i j : Nat} {ps : List Str} {n kr : Nat} {m : Spec} (c : Cal P w K mg base x st i ps n kr m) (h : i ≤ j) : Cal P w K mg base x st j ps n kr m := by
  obtain ⟨f, fd, G, r⟩ := c.ex
  exact ⟨⟨f, fd, G.mono h, r⟩, c.ok⟩
end DL
namespace DL
open PySem PySem.Spec PyProof.Rows L2
/-! ### numbers: the operators' readings -/
section
variable {K : PySem.W.Frag}
def fNeg : F1 := fun x M Q => match x with
  | .d (.int i) => Q (.d (.int (-i))) M
  | _ => False
theorem l1_neg : L1E K (rU fun i => .int (-i)) fNeg := fun en δ M σ H F A x v Q R hw rx q h => by
  unfold fNeg at q
  split at q
  · next i =>
    cases (show v = .int i from rx)
    exact ⟨i, rfl, h _ _ (.ret hw (u := .d (.int (-i))) rfl q)⟩
  · exact q.elim
theorem op_addG {X : Cx} : OpR X (binaryOp .Add) (fun x y H Q => rI0 (fun i j => .int (i + j)) x y H Q ∨ (rStrCat x y H Q ∨ L2.rCatA X.K x y H Q)) := opr_or op_add (opr_or op_add_str op_catA)
abbrev fSub : F2 := fI0 fun i j => .int (i - j)
theorem l2_sub : L2E K (rI0 fun i j => .int (i - j)) fSub := l2_I0 fun _ _ _ => rfl
abbrev fMul : F2 := fI CMulW fun i j => .int (i * j)
theorem l2_mul : L2E K (rI CMulW fun i j => .int (i * j)) fMul := l2_I fun _ _ _ => rfl
abbrev fDiv : F2 := fI CDivW fun i j => .int (i / j)
theorem l2_div : L2E K (rI CDivW fun i j => .int (i / j)) fDiv := l2_I fun _ _ _ => rfl
abbrev fMod : F2 := fI (fun _ j => 0 < j) fun i j => .int (i % j)
theorem l2_mod : L2E K (rI (fun _ j => 0 < j) fun i j => .int (i % j)) fMod := l2_I fun _ _ _ => rfl
abbrev fPow : F2 := fI CPow fun i j => .int (i ^ j.toNat)
theorem l2_pow : L2E K (rI CPow fun i j => .int (i ^ j.toNat)) fPow := l2_I fun _ _ _ => rfl
abbrev fShl : F2 := fI CPow fun i j => .int (i * 2 ^ j.toNat)
theorem l2_shl : L2E K (rI CPow fun i j => .int (i * 2 ^ j.toNat)) fShl := l2_I fun _ _ _ => rfl
abbrev fLt : F2 := fI0 fun i j => .bl (decide (i < j))
theorem l2_lt : L2E K (rI0 fun i j => .bl (decide (i < j))) fLt := l2_I0 fun _ _ _ => rfl
abbrev fLe : F2 := fI0 fun i j => .bl (decide (i ≤ j))
theorem l2_le : L2E K (rI0 fun i j => .bl (decide (i ≤ j))) fLe := l2_I0 fun _ _ _ => rfl
abbrev fGt : F2 := fI0 fun i j => .bl (decide (j < i))
theorem l2_gt : L2E K (rI0 fun i j => .bl (decide (j < i))) fGt := l2_I0 fun _ _ _ => rfl
abbrev fGe : F2 := fI0 fun i j => .bl (decide (j ≤ i))
theorem l2_ge : L2E K (rI0 fun i j => .bl (decide (j ≤ i))) fGe := l2_I0 fun _ _ _ => rfl
abbrev fMax2 : FC := fI2 fun i j => if j > i then j else i
theorem lc_max2 : LCE K (fun xs H Q => ∃ i j, xs = [.int i, .int j] ∧ Q (.int (if j > i then j else i)) H) fMax2 := lc_I2
abbrev fMin2 : FC := fI2 fun i j => if j < i then j else i
theorem lc_min2 : LCE K (fun xs H Q => ∃ i j, xs = [.int i, .int j] ∧ Q (.int (if j < i then j else i)) H) fMin2 := lc_I2
end
/-! room, by units -/
theorem u1 {j : Nat} {A : Around} (h : Room j A) : A.units + 1 < cLine := by have := h.un; omega
theorem u64 {j : Nat} {A : Around} (h : Room j A) : A.units + 64 < cLine := by have := h.un; omega
theorem u70 {j : Nat} {A : Around} (h : Room j A) : A.units + 70 < cLine := by have := h.un; omega
/-! a < b < c -/
def wChain (f g : F2) (a b c : WE) : WE := fun δ M Q Er => a δ M (fun x M1 => b δ M1 (fun y M2 => f x y M2 fun z M3 => ∃ t, z = .d (.bl t) ∧ cnd t (c δ M3 (fun w M4 => g y w M4 Q) Er) (Q (.d (.bl false)) M3)) Er) Er
section
variable {X : Cx} {k : Nat} {a b c : Expr} {wa wb wc : WE} {pos : Pos} {op op' : CmpOp} {r r' : R2} {f g : F2}
theorem de_chain (ho : OpR X (compareOp op) r) (hl : L2E X.K r f) (ho' : OpR X (compareOp op') r') (hl' : L2E X.K r' g) (ha : DE X k a wa) (hb : DE X k b wb) (hc : DE X k c wc)
    (hm : lastMarks [op, op'] [b, c] = false := by with_unfolding_all rfl) : DE X k (.Compare a [op, op'] [b, c] pos) (wChain f g wa wb wc) := .mk fun en δ M σ H F A Q Er hk hw hs q => by
  refine tE.of (pe_chain ho ho' pe_tE pe_tE pe_tE hm) ((ha.run en δ M σ H F A _ Er hk hw hs q).mono ?_)
  rintro v H1 ⟨x, M1, F1, A1, w1, g1, r1, q1⟩
  refine (hb.run en δ M1 σ H1 F1 A1 _ Er hk w1 hs q1).mono ?_
  rintro w H2 ⟨y, M2, F2, A2, w2, g2, r2, q2⟩
  refine hl en δ M2 σ H2 F2 A2 x y v w _ _ w2 (r1.mono g2) r2 q2 ?_
  rintro v' H3 ⟨z, M3, F3, A3, w3, g3, r3, t, rfl, q3⟩
  refine ⟨t, r3, if_cnd ?_⟩
  cases t with
  | false => exact ⟨.d (.bl false), M3, F3, A3, w3, (g1.trans g2).trans g3, rfl, q3⟩
  | true =>
    refine (hc.run en δ M3 σ H3 F3 A3 _ Er hk w3 hs q3).mono ?_
    rintro u H4 ⟨y4, M4, F4, A4, w4, g4, r4, q4⟩
    exact hl' en δ M4 σ H4 F4 A4 y y4 w u Q _ w4 (r2.mono (g3.trans g4)) r4 q4 fun v' H' p => p.up (((g1.trans g2).trans g3).trans g4)
theorem dt_chain (ho : OpR X (compareOp op) r) (hl : L2E X.K r f) (ho' : OpR X (compareOp op') r') (hl' : L2E X.K r' g) (ha : DE X k a wa) (hb : DE X k b wb) (hc : DE X k c wc)
    (hm : lastMarks [op, op'] [b, c] = false := by with_unfolding_all rfl) : DT X k (.Compare a [op, op'] [b, c] pos) (wTst (wChain f g wa wb wc)) := .mk fun en δ M σ H F A Q Er hk hw hs q => by
  refine tT.of (pt_chain ho ho' pe_tE pe_tE pe_tE hm) ((ha.run en δ M σ H F A _ Er hk hw hs q).mono ?_)
  rintro v H1 ⟨x, M1, F1, A1, w1, g1, r1, q1⟩
  refine (hb.run en δ M1 σ H1 F1 A1 _ Er hk w1 hs q1).mono ?_
  rintro w H2 ⟨y, M2, F2, A2, w2, g2, r2, q2⟩
  refine hl en δ M2 σ H2 F2 A2 x y v w _ _ w2 (r1.mono g2) r2 q2 ?_
  rintro v' H3 ⟨z, M3, F3, A3, w3, g3, r3, t, rfl, q3⟩
  refine ⟨t, r3, if_cnd ?_⟩
  cases t with
  | false =>
    obtain ⟨c', e', q'⟩ := q3
    cases e'
    exact ⟨false, rfl, M3, F3, A3, w3, (g1.trans g2).trans g3, q'⟩
  | true =>
    refine (hc.run en δ M3 σ H3 F3 A3 _ Er hk w3 hs q3).mono ?_
    rintro u H4 ⟨y4, M4, F4, A4, w4, g4, r4, q4⟩
    refine hl' en δ M4 σ H4 F4 A4 y y4 w u _ _ w4 (r2.mono (g3.trans g4)) r4 q4 ?_
    rintro v' H' ⟨z5, M5, F5, A5, w5, g5, r5, c, rfl, q5⟩
    exact ⟨c, r5, M5, F5, A5, w5, (((g1.trans g2).trans g3).trans g4).trans g5, q5⟩
end
/-! ### a block whose new objects are forgotten behind it -/
def trm (n : Nat) (Q : Dl → List MO → Prop) : Dl → List MO → Prop := fun δ M => Q δ M ∨ (cutOk n M = true ∧ Q (δ.map (cutO n)) (M.take n))
def wTrim (w : WS) : WS := fun De δ M => w { De with nx := trm M.length De.nx, ct := trm M.length De.ct, bk := trm M.length De.bk } δ M
theorem Wd.trim {K : PySem.W.Frag} {en : En} {δ : Dl} {M : List MO} {σ : L2.St} {H F : Hp} {A : List Addr} (w : Wd K en δ M σ H F A) {n : Nat} (hn : en.A.length ≤ n) (h : cutOk n M = true) : Wd K en (δ.map (cutO n)) (M.take n) σ H F (A.take n) := by
  have c := w.cut hn h
  refine { c with dl := by rw [List.length_map]; exact w.dl, sl := fun i u e => ?_ }
  rw [List.getElem?_map] at e
  cases q : δ[i]? with
  | none => rw [q] at e; cases e
  | some o =>
    rw [q] at e
    have e : cutO n o = some u := Option.some.inj e
    cases o with
    | none => cases e
    | some u' =>
      have hu : u' = u ∧ closedU n u = true := by
        cases u' with
        | d x => cases e; exact ⟨rfl, rfl⟩
        | r m =>
          have e : (if m < n then some (U.r m) else none) = some u := e
          by_cases hm : m < n
          · rw [if_pos hm] at e; cases e; exact ⟨rfl, decide_eq_true hm⟩
          · rw [if_neg hm] at e; cases e
      obtain ⟨rfl, hc⟩ := hu
      obtain ⟨v, e1, e2⟩ := w.sl i _ q
      exact ⟨v, e1, e2.cut hc⟩
theorem gpost_trim {K : PySem.W.Frag} {en : En} {n : Nat} (hn : en.A.length ≤ n) {Q : Dl → List MO → Prop} {σ : L2.St} {H : Hp} (h : GPost K en (trm n Q) σ H) : GPost K en Q σ H := by
  obtain ⟨δ, M, F, A, w, q | ⟨c, q⟩⟩ := h
  · exact ⟨δ, M, F, A, w, q⟩
  · exact ⟨_, _, F, _, w.trim hn c, q⟩
theorem dss_trim {X : Cx} {k : Nat} {ss : List Stmt} {w : WS} (h : DSs X k ss w) : DSs X k ss (wTrim w) := .mk fun en δ M σ H F A De hk hw hs q => by
  have hn : en.A.length ≤ M.length := by
    obtain ⟨B, e⟩ := hw.pre
    rw [← hw.len, e, List.length_append]
    omega
  exact (h.run en δ M σ H F A { De with nx := trm M.length De.nx, ct := trm M.length De.ct, bk := trm M.length De.bk } hk hw hs q).mono (fun _ _ h => gpost_trim hn h) (fun _ _ h => h) (fun _ _ h => gpost_trim hn h) (fun _ _ h => gpost_trim hn h)
/-! ### the signs of a text, one by one -/
def sigs (s : List Nat) : List D := s.map fun c => .str [c]
def wItS (a : WE) : WI := fun δ M Q Er => a δ M (fun u M1 => ∃ s, u = .d (.str s) ∧ Q (sigs s) M1) Er
theorem itok_str {K : PySem.W.Frag} {en : En} {F : Hp} {s : List Nat} (h : s.all (· < 0x110000) = true) : ItOk K en F (Its ⟨s.toArray⟩) (sigs s) := fun δ M σ H F' A hw hs i => by
  have e : (⟨s.toArray⟩ : Str).cps.size = s.length := by show s.toArray.size = _; simp
  refine ⟨fun hi => ?_, fun hi => ?_⟩
  · have hi' : i < s.length := by rw [sigs, List.length_map] at hi; exact hi
    refine ⟨show i < (⟨s.toArray⟩ : Str).cps.size from by rw [e]; exact hi', fun x H' hy => ?_⟩
    obtain ⟨rfl, c, h1, rfl⟩ := hy
    have h1 : s[i]? = some c := by rw [List.getElem?_toArray] at h1; exact h1
    refine ⟨F', .str [c], hw, Same.refl _, ?_, rfl, ?_, ?_⟩
    · unfold sigs; rw [List.getElem?_map, h1]; rfl
    · rw [List.all_eq_true] at h
      have := h c (List.mem_of_getElem? h1)
      rw [List.all_cons, this]; rfl
    · rw [sizeLine_eq]; show 1 ≤ 16777216; decide
  · show (⟨s.toArray⟩ : Str).cps.size ≤ i
    rw [e]
    rw [sigs, List.length_map] at hi
    exact hi
theorem di_str {X : Cx} {k : Nat} {tg e : Expr} {we : WE} (he : DE X k e we) : DI X k tg e (wItS we) := .mk fun en δ M σ H F A Q Er hk hw hsn q => by
  refine tI.of (pi_str pe_tE) ((he.run en δ M σ H F A _ Er hk hw hsn q).mono ?_)
  rintro v H1 ⟨u, M1, F1, A1, w1, g1, r1, s, rfl, q1⟩
  obtain ⟨rfl, ha, _⟩ := r1
  exact ⟨_, rfl, sigs s, M1, F1, A1, w1, g1, fun _ => itok_str ha, q1⟩
end DL
namespace DL
open PySem PySem.Spec PyProof.Rows L2
/-! ### plain readings, step by step -/
def tupK (Q : UK) : List U → List MO → Prop := fun us M1 => match datas us with | some ds => Q (.d (.tup ds)) M1 | none => False
def lstK (QF : MO → List MO → Prop) : List U → List MO → Prop := fun us M1 => match datas us with | some ds => QF (.lst ds) M1 | none => QF (.box us) M1
def calIK (m : Spec) (Q : UK) : List U → List MO → Prop := fun us M1 => match us with
  | .r n :: r => ∃ o, M1[n]? = some o ∧ o ≠ .dead ∧ closedM 0 o = true ∧ dataUs r = true ∧ m (.r 0 :: r) [o] (fun u M' => ∃ x o', u = .d x ∧ M' = [o'] ∧ closedM 0 o' = true ∧ Q u (M1.set n o')) (fun _ _ => False)
  | _ => False
def rng1K (QI : List D → List MO → Prop) : List U → List MO → Prop := fun us M1 => match us with
  | [.d (.int n)] => -(2 ^ 62) ≤ n ∧ n < 2 ^ 62 ∧ QI (rng 0 n.toNat) M1
  | _ => False
def rng2K (QI : List D → List MO → Prop) : List U → List MO → Prop := fun us M1 => match us with
  | [.d (.int lo), .d (.int hi)] => (-(2 ^ 62) ≤ lo ∧ lo < 2 ^ 62 ∧ -(2 ^ 62) ≤ hi ∧ hi < 2 ^ 62) ∧ QI (rng lo (hi - lo).toNat) M1
  | _ => False
section
variable {De : DEnds} {δ : Dl} {M : List MO} {Er : ER}
theorem x_seq {a b : WS} (h : a { De with nx := fun δ1 M1 => b De δ1 M1 } δ M) : wSeq a b De δ M := h
theorem x_skip (h : De.nx δ M) : wSkip De δ M := h
theorem x_drop {e : WE} (h : e δ M (fun _ M1 => De.nx δ M1) De.er) : wDrop e De δ M := h
theorem x_ret {e : WE} (h : e δ M De.rt De.er) : wRet e De δ M := h
theorem x_retN (h : De.rt (.d .non) M) : wRetN De δ M := h
theorem x_if {t : WT} {a b : WS} (h : t δ M (fun c M1 => cnd c (a De δ M1) (b De δ M1)) De.er) : wIf t a b De δ M := h
theorem x_brk (h : De.bk δ M) : wBrk De δ M := h
theorem x_cnt (h : De.ct δ M) : wCnt De δ M := h
theorem x_asg {e : WE} {g : WG} (h : e δ M (fun u M1 => g u δ M1 De.nx De.er) De.er) : wAsg e g De δ M := h
theorem x_par {i j : Nat} {a b : WE} (h : a δ M (fun u M1 => b δ M1 (fun v M2 => De.nx ((δ.set i (some u)).set j (some v)) M2) De.er) De.er) : wPar i j (wCons a (wCons b wNil)) De δ M := h
theorem x_for {wi : WI} {g : WG} {wb : WS} (h : wi δ M (fun items M1 => forD g wb De items δ M1) De.er) : wFor wi g wb De δ M := h
theorem x_dput {d k v : WE} (h : v δ M (fun z M1 => d δ M1 (fun x M2 => k δ M2 (fun y M3 => ∃ n t kv kk vv, x = .r n ∧ M3[n]? = some (.dct t kv) ∧ y = .d kk ∧ z = .d vv ∧ keyOk t kk = true ∧ kv.length < sizeLine ∧ De.nx δ (M3.set n (.dct t (putA kv kk vv)))) De.er) De.er) De.er) : wDPut d k v De δ M := h
variable {Q : UK} {QA : List U → List MO → Prop} {QT : Bool → List MO → Prop} {QF : MO → List MO → Prop} {QG : Dl → List MO → Prop}
theorem x_gN {i : Nat} {u : U} (h : QG (δ.set i (some u)) M) : gN i u δ M QG Er := h
theorem x_gTup {n : Nat} {g : WGs} {ds : List D} (hl : ds.length = n) (h : g ds δ M QG Er) : gTupD n g (.d (.tup ds)) δ M QG Er := ⟨hl, h⟩
theorem x_gNil (h : QG δ M) : gNil [] δ M QG Er := ⟨rfl, h⟩
theorem x_gCons {g : WG} {r : WGs} {d : D} {ds : List D} (h : g (.d d) δ M (fun δ1 M1 => r ds δ1 M1 QG Er) Er) : gCons g r (d :: ds) δ M QG Er := h
theorem x_gSub {o i : WE} {v : U} (h : o δ M (fun x M1 => i δ M1 (fun y M2 => fSet x y v M2 (fun M3 => QG δ M3)) Er) Er) : gSubD o i v δ M QG Er := h
theorem x_bin {f : F2} {a b : WE} (h : a δ M (fun x M1 => b δ M1 (fun y M2 => f x y M2 Q) Er) Er) : wBin f a b δ M Q Er := h
theorem x_binF {f : FF2} {a b : WE} (h : a δ M (fun x M1 => b δ M1 (fun y M2 => f x y M2 QF) Er) Er) : wBinF f a b δ M QF Er := h
theorem x_un {f : F1} {a : WE} (h : a δ M (fun x M1 => f x M1 Q) Er) : wUn f a δ M Q Er := h
theorem x_tst {w : WE} (h : w δ M (fun u M1 => ∃ c, u = .d (.bl c) ∧ QT c M1) Er) : wTst w δ M QT Er := h
theorem x_and {t u : WT} (h : t δ M (fun c M1 => cnd c (u δ M1 QT Er) (QT false M1)) Er) : wAnd t u δ M QT Er := h
theorem x_or {t u : WT} (h : t δ M (fun c M1 => cnd c (QT true M1) (u δ M1 QT Er)) Er) : wOr t u δ M QT Er := h
theorem x_not {t : WT} (h : t δ M (fun c M1 => QT (!c) M1) Er) : wNot t δ M QT Er := h
theorem x_ifE {t : WT} {a b : WE} (h : t δ M (fun c M1 => cnd c (a δ M1 Q Er) (b δ M1 Q Er)) Er) : wIfE t a b δ M Q Er := h
theorem x_andV {a b : WE} (h : a δ M (fun u M1 => ∃ c, u = .d (.bl c) ∧ cnd c (b δ M1 Q Er) (Q (.d (.bl false)) M1)) Er) : wAndV a b δ M Q Er := h
theorem x_orV {a b : WE} (h : a δ M (fun u M1 => ∃ c, u = .d (.bl c) ∧ cnd c (Q (.d (.bl true)) M1) (b δ M1 Q Er)) Er) : wOrV a b δ M Q Er := h
theorem x_notV {a : WE} (h : a δ M (fun u M1 => ∃ c, u = .d (.bl c) ∧ Q (.d (.bl (!c))) M1) Er) : wNotV a δ M Q Er := h
theorem x_bl {c : Bool} {P : Bool → Prop} (h : P c) : ∃ c', (U.d (.bl c)) = .d (.bl c') ∧ P c' := ⟨c, rfl, h⟩
theorem x_nil (h : QA [] M) : wNil δ M QA Er := h
theorem x_cons {a : WE} {r : WA} (h : a δ M (fun u M1 => r δ M1 (fun us M2 => QA (u :: us) M2) Er) Er) : wCons a r δ M QA Er := h
theorem x_tup {a : WA} (h : a δ M (tupK Q) Er) : wTup a δ M Q Er := h
theorem x_lst {a : WA} (h : a δ M (lstK QF) Er) : wLst a δ M QF Er := h
theorem x_cb {f : FC} {a : WA} (h : a δ M (fun us M1 => f us M1 Q) Er) : wCB f a δ M Q Er := h
theorem x_cbf {f : FFC} {a : WA} (h : a δ M (fun us M1 => f us M1 QF) Er) : wCBF f a δ M QF Er := h
theorem x_var {i : Nat} {u : U} (e : δ[i]? = some (some u)) (h : Q u M) : wVar i δ M Q Er := ⟨u, e, h⟩
theorem x_varF {i k n : Nat} {ds : List D} (e : δ[i]? = some (some (.r n))) (e2 : mlst M[n]? = some ds) (e3 : Nat.ble k n = true) (h : Q (.d (.lst ds)) (M.set n .dead)) : wVarF i k δ M Q Er := ⟨n, ds, e, e2, Nat.le_of_ble_eq_true e3, h⟩
theorem x_c {x : D} (h : Q (.d x) M) : wC x δ M Q Er := h
theorem x_own {w : WF} (h : w δ M (fun mo M' => Q (.r M'.length) (M' ++ [mo])) Er) : wOwn w δ M Q Er := h
theorem x_frz {w : WF} (h : w δ M (frzK Q) Er) : wFrz w δ M Q Er := h
theorem x_frzL {ds : List D} (h : Q (.d (.lst ds)) M) : frzK Q (.lst ds) M := h
theorem x_frzD {t : Bool} {kv : List (D × D)} (h : Q (.d (.dic t (kv.map (·.1)) (kv.map (·.2)))) M) : frzK Q (.dct t kv) M := h
theorem x_meth {T : String} {f : FM} {o : WE} {a : WA} (h : o δ M (fun x M1 => isTy T M1 x = true ∧ a δ M1 (fun us M2 => f x us M2 Q) Er) Er) : wMeth T f o a δ M Q Er := h
theorem x_methF {T : String} {f : FMF} {o : WE} {a : WA} (h : o δ M (fun x M1 => isTy T M1 x = true ∧ a δ M1 (fun us M2 => f x us M2 QF) Er) Er) : wMethF T f o a δ M QF Er := h
theorem x_meth0 {T : String} {f : FM} {o : WE} (h : o δ M (fun x M1 => isTy T M1 x = true ∧ f x [] M1 Q) Er) : wMeth0 T f o δ M Q Er := h
theorem x_it {a : WE} {QI : List D → List MO → Prop} (h : a δ M (fun u M1 => ∃ ds, dataSeq u = some ds ∧ QI ds M1) Er) : wIt a δ M QI Er := h
theorem x_rng1 {a : WA} {QI : List D → List MO → Prop} (h : a δ M (rng1K QI) Er) : wRng1 a δ M QI Er := h
theorem x_rng2 {a : WA} {QI : List D → List MO → Prop} (h : a δ M (rng2K QI) Er) : wRng2 a δ M QI Er := h
theorem x_tupD {us : List U} {ds : List D} (e : datas us = some ds) (h : Q (.d (.tup ds)) M) : tupK Q us M := by unfold tupK; rw [e]; exact h
theorem x_lstD {us : List U} {ds : List D} (e : datas us = some ds) (h : QF (.lst ds) M) : lstK QF us M := by unfold lstK; rw [e]; exact h
theorem x_lstB {us : List U} (e : datas us = none) (h : QF (.box us) M) : lstK QF us M := by unfold lstK; rw [e]; exact h
theorem x_r1 {n : Int} {QI : List D → List MO → Prop} (h0 : -(2 ^ 62) ≤ n) (h1 : n < 2 ^ 62) (h : QI (rng 0 n.toNat) M) : rng1K QI [.d (.int n)] M := ⟨h0, h1, h⟩
theorem x_r2 {lo hi : Int} {QI : List D → List MO → Prop} (h : -(2 ^ 62) ≤ lo ∧ lo < 2 ^ 62 ∧ -(2 ^ 62) ≤ hi ∧ hi < 2 ^ 62) (h2 : QI (rng lo (hi - lo).toNat) M) : rng2K QI [.d (.int lo), .d (.int hi)] M := ⟨h, h2⟩
theorem x_cal {n kr : Nat} {m : Spec} {a : WA} (h : a δ M (fun us M1 => callOk n us M1 = true ∧ (kr = n ∨ M1.length = n) ∧ m us (M1.take n) (fun u M' => Q u (M' ++ M1.drop n)) (fun _ _ => False)) Er) : wCall n kr m a δ M Q Er := h
theorem x_calI {m : Spec} {a : WA} (h : a δ M (calIK m Q) Er) : wCallI m a δ M Q Er := h
theorem x_calIr {m : Spec} {n : Nat} {o : MO} {r : List U} (e : M[n]? = some o) (hd : o ≠ .dead) (hc : closedM 0 o = true) (hr : dataUs r = true) (h : m (.r 0 :: r) [o] (fun u M' => ∃ x o', u = .d x ∧ M' = [o'] ∧ closedM 0 o' = true ∧ Q u (M.set n o')) (fun _ _ => False)) : calIK m Q (.r n :: r) M := ⟨o, e, hd, hc, hr, h⟩
theorem x_calK {n kr : Nat} {m : Spec} {π : List Nat} {a b : WA} (h : a δ M (fun us M1 => b δ M1 (fun ws M2 => callOk n (perm π (us ++ ws)) M2 = true ∧ (kr = n ∨ M2.length = n) ∧ m (perm π (us ++ ws)) (M2.take n) (fun u M' => Q u (M' ++ M2.drop n)) (fun _ _ => False)) Er) Er) : wCallK n kr m π a b δ M Q Er := h
theorem x_lc {wi : WI} {c : CT} {wt : WT} {we : WE} {vs : List Nat} (h : wi δ M (fun items M1 => lcD c wt we (wipeD δ vs) QF items [] M1) Er) : wLc wi c wt we vs δ M QF Er := h
theorem x_yes (h : QT true M) : wYes δ M QT Er := h
theorem x_dget {a b : WE} (h : a δ M (fun x M1 => b δ M1 (fun y M2 => ∃ t kv k d, dctOf M2 x = some (t, kv) ∧ y = .d k ∧ keyOk t k = true ∧ asc kv k = some d ∧ Q (.d d) M2) Er) Er) : wDGet a b δ M Q Er := h
theorem x_din {neg : Bool} {a b : WE} (h : a δ M (fun y M1 => b δ M1 (fun x M2 => ∃ t kv k, dctOf M2 x = some (t, kv) ∧ y = .d k ∧ keyOk t k = true ∧ Q (.d (.bl (if neg then !(asc kv k).isSome else (asc kv k).isSome))) M2) Er) Er) : wDIn neg a b δ M Q Er := h
theorem x_dget2 {a b c : WE} (h : a δ M (fun x M1 => (∃ p, dctOf M1 x = some p) ∧ b δ M1 (fun y M2 => c δ M2 (fun z M3 => ∃ t kv k d, dctOf M3 x = some (t, kv) ∧ y = .d k ∧ z = .d d ∧ keyOk t k = true ∧ Q (.d ((asc kv k).getD d)) M3) Er) Er) Er) : wDGet2 a b c δ M Q Er := h
theorem x_dnew {t : Bool} (h : QF (.dct t []) M) : wDNew t δ M QF Er := h
/-! by values -/
theorem x_addI {i j : Int} (h : Q (.d (.int (i + j))) M) : fAdd (.d (.int i)) (.d (.int j)) M Q := h
theorem x_addS {s t : List Nat} (hz : s.length + t.length ≤ sizeLine) (h : Q (.d (.str (s ++ t))) M) : fAdd (.d (.str s)) (.d (.str t)) M Q := ⟨hz, h⟩
theorem x_addT {s t : List D} (hz : s.length + t.length ≤ sizeLine) (h : Q (.d (.tup (s ++ t))) M) : fAdd (.d (.tup s)) (.d (.tup t)) M Q := ⟨hz, h⟩
theorem x_I0 {G : Int → Int → D} {i j : Int} (h : Q (.d (G i j)) M) : fI0 G (.d (.int i)) (.d (.int j)) M Q := h
theorem x_I {C : Int → Int → Prop} {G : Int → Int → D} {i j : Int} (hc : C i j) (h : Q (.d (G i j)) M) : fI C G (.d (.int i)) (.d (.int j)) M Q := ⟨hc, h⟩
theorem x_cat {x y : U} {s t : List D} (h1 : lstOf M x = some s) (h2 : lstOf M y = some t) (hz : s.length + t.length ≤ sizeLine) (h : QF (.lst (s ++ t)) M) : fCat x y M QF := ⟨s, t, h1, h2, hz, h⟩
theorem x_eq {x y : U} {a b : D} (h1 : dataOf M x = some a) (h2 : dataOf M y = some b) (s1 : shp a = true) (s2 : shp b = true) (h : Q (.d (.bl (eqD a b))) M) : fEq false x y M Q := ⟨a, b, h1, h2, s1, s2, h⟩
theorem x_ne {x y : U} {a b : D} (h1 : dataOf M x = some a) (h2 : dataOf M y = some b) (s1 : shp a = true) (s2 : shp b = true) (h : Q (.d (.bl (!eqD a b))) M) : fEq true x y M Q := ⟨a, b, h1, h2, s1, s2, h⟩
theorem x_lenS {s : List Nat} (h : Q (.d (.int s.length)) M) : fLen [.d (.str s)] M Q := h
theorem x_lenT {ds : List D} (h : Q (.d (.int ds.length)) M) : fLen [.d (.tup ds)] M Q := ⟨_, rfl, by rw [List.length_map]; exact h⟩
theorem x_lenL {ds : List D} (h : Q (.d (.int ds.length)) M) : fLen [.d (.lst ds)] M Q := ⟨_, rfl, by rw [List.length_map]; exact h⟩
theorem x_lenC {ds : List D} (h : Q (.d (.int ds.length)) M) : fLen [.d (.scr ds)] M Q := ⟨_, rfl, by rw [List.length_map]; exact h⟩
theorem mbox_lst {n : Nat} {ds : List D} (e : M[n]? = some (.lst ds)) : itemsOf M (.r n) = some (ds.map .d) := by
  show mbox M[n]? = _
  rw [e]; rfl
theorem x_lenR {n : Nat} {ds : List D} (e : M[n]? = some (.lst ds)) (h : Q (.d (.int ds.length)) M) : fLen [.r n] M Q := ⟨_, mbox_lst e, by rw [List.length_map]; exact h⟩
theorem x_tupleS {u : U} {ds : List D} (e : seqOf M u = some ds) (h : Q (.d (.tup ds)) M) : fTuple [u] M Q := ⟨ds, e, h⟩
theorem x_listS {u : U} {ds : List D} (e : seqOf M u = some ds) (h : QF (.lst ds) M) : fList [u] M QF := ⟨ds, e, h⟩
theorem x_intI {i : Int} (h : Q (.d (.int i)) M) : fInt [.d (.int i)] M Q := h
theorem x_intB {b : Bool} (h : Q (.d (.int (if b then 1 else 0))) M) : fInt [.d (.bl b)] M Q := h
theorem x_i2 {g : Int → Int → Int} {i j : Int} (h : Q (.d (.int (g i j))) M) : fI2 g [.d (.int i), .d (.int j)] M Q := h
theorem x_str {i : Int} (h0 : 0 ≤ i) (h1 : i < 10 ^ 500) (h : Q (.d (.str (numS i.toNat))) M) : fStr [.d (.int i)] M Q := ⟨h0, h1, h⟩
theorem x_app {n : Nat} {u : U} {m m' : MO} (e : M[n]? = some m) (e2 : pushM m u = some m') (hz : lenM m < sizeLine) (h : Q (.d .non) (M.set n m')) : fApp (.r n) [u] M Q := ⟨m, m', e, e2, hz, h⟩
theorem x_pop {n : Nat} {m : MO} {p : U × MO} (e : M[n]? = some m) (e2 : popM m = some p) (h : Q p.1 (M.set n p.2)) : fPop (.r n) [] M Q := ⟨m, p, e, e2, h⟩
theorem x_ext {n : Nat} {y : U} {m m' : MO} {es : List D} (e : M[n]? = some m) (e1 : lstOf M y = some es) (e2 : extM m es = some m') (hz : lenM m + es.length ≤ sizeLine) (h : Q (.d .non) (M.set n m')) : fExt (.r n) [y] M Q := ⟨m, m', es, e, e1, e2, hz, h⟩
theorem atI_map {α β : Type} (f : α → β) (xs : List α) (i : Int) : atI (xs.map f) i = (atI xs i).map f := by
  unfold atI
  rw [List.length_map]
  cases ixN xs.length i with
  | none => rfl
  | some j => exact List.getElem?_map
theorem atI_nn {α : Type} {xs : List α} {i : Int} (h0 : 0 ≤ i) (h1 : i < xs.length) : ∃ x, atI xs i = some x ∧ xs[i.toNat]? = some x := by
  have h2 : i.toNat < xs.length := by omega
  refine ⟨xs[i.toNat], ?_, List.getElem?_eq_getElem h2⟩
  unfold atI ixN
  rw [if_pos h0, if_pos h1]
  exact List.getElem?_eq_getElem h2
theorem x_ixD {x : U} {ds : List D} {i : Int} {d : D} (hx : ∀ s, x ≠ .d (.str s)) (e : itemsOf M x = some (ds.map .d)) (h : atI ds i = some d) (q : Q (.d d) M) : fIx x (.d (.int i)) M Q := by
  have e3 : atI (ds.map U.d) i = some (.d d) := by rw [atI_map, h]; rfl
  cases x with
  | r n => exact ⟨_, _, e, e3, q⟩
  | d y =>
    cases y with
    | str s => exact absurd rfl (hx s)
    | _ => exact ⟨_, _, e, e3, q⟩
theorem x_ixS {s : List Nat} {i : Int} {c : Nat} (h : atI s i = some c) (q : Q (.d (.str [c])) M) : fIx (.d (.str s)) (.d (.int i)) M Q := ⟨c, h, q⟩
theorem x_ixT {ds : List D} {i : Int} {d : D} (h : atI ds i = some d) (q : Q (.d d) M) : fIx (.d (.tup ds)) (.d (.int i)) M Q := x_ixD (fun _ => nofun) rfl h q
theorem x_ixL {ds : List D} {i : Int} {d : D} (h : atI ds i = some d) (q : Q (.d d) M) : fIx (.d (.lst ds)) (.d (.int i)) M Q := x_ixD (fun _ => nofun) rfl h q
theorem x_ixC {ds : List D} {i : Int} {d : D} (h : atI ds i = some d) (q : Q (.d d) M) : fIx (.d (.scr ds)) (.d (.int i)) M Q := x_ixD (fun _ => nofun) rfl h q
theorem x_ixR {n : Nat} {ds : List D} {i : Int} {d : D} (e : M[n]? = some (.lst ds)) (h : atI ds i = some d) (q : Q (.d d) M) : fIx (.r n) (.d (.int i)) M Q := x_ixD (fun _ => nofun) (mbox_lst e) h q
theorem x_setR {n : Nat} {ds : List D} {i : Int} {x : D} {QM : List MO → Prop} (e : M[n]? = some (.lst ds)) (h0 : 0 ≤ i) (h1 : i < ds.length) (q : QM (M.set n (.lst (ds.set i.toNat x)))) : fSet (.r n) (.d (.int i)) (.d x) M QM := by
  unfold fSet
  show match M[n]? with | some (.lst ds) => _ | some (.box us) => _ | _ => False
  rw [e]
  exact ⟨x, i.toNat, rfl, by unfold ixN; rw [if_pos h0, if_pos h1], q⟩
theorem x_sorted {u : U} {ds : List D} (e : srtOf M u = some ds) (hs : SortOk ds) (q : QF (.lst (sortD ds)) M) : fSorted [u] M QF := ⟨ds, e, hs, q⟩
theorem x_isi {u : U} {c : String} (h1 : tyS.contains (tyU M u) = true) (h2 : (["bool", "int", "str", "tuple", "list", "dict"] : List String).contains c = true) (q : Q (.d (.bl (isT c (tyU M u)))) M) : fIsi [u, .d (.obj (.ty c))] M Q := ⟨h1, h2, q⟩
end
section
variable {M : List MO} {Q : UK} {k kr : Nat} {E : Exn → List MO → Prop}
theorem x_rt {u : U} (e : (closedU kr u && cutOk kr M) = true) (h : Q u (M.take kr)) : (fnEnds k kr Q E).rt u M := ⟨e, h⟩
theorem x_end {δ : Dl} (e : cutOk kr M = true) (h : Q (.d .non) (M.take kr)) : (fnEnds k kr Q E).nx δ M := ⟨by rw [e]; rfl, h⟩
theorem x_mty {T : String} {u : U} {P : Prop} (e : isTy T M u = true) (h : P) : isTy T M u = true ∧ P := ⟨e, h⟩
theorem x_ok {n : Nat} {us : List U} {P : Prop} (e : callOk n us M = true) (h : P) : callOk n us M = true ∧ (n = n ∨ M.length = n) ∧ P := ⟨e, .inl rfl, h⟩
theorem x_ok' {n : Nat} {us : List U} {P : Prop} (e : callOk n us M = true) (e2 : M.length = n) (h : P) : callOk n us M = true ∧ (kr = n ∨ M.length = n) ∧ P := ⟨e, .inr e2, h⟩
theorem x_ds {u : U} {ds : List D} {QI : List D → Prop} (e : dataSeq u = some ds) (h : QI ds) : ∃ ds, dataSeq u = some ds ∧ QI ds := ⟨ds, e, h⟩
theorem x_cT {A B : Prop} (h : A) : cnd true A B := h
theorem x_cF {A B : Prop} (h : B) : cnd false A B := h
theorem x_take {n : Nat} {P : List MO → Prop} {M' : List MO} (e : M.take n = M') (h : P M') : P (M.take n) := e ▸ h
end
theorem mul_ok {i j : Int} (h1 : i.natAbs < 2 ^ 64) (h2 : j.natAbs < 2 ^ 64) : CMulW i j := by
  have a := PySem.Flt.log2_lt_of (by decide) h1
  have b := PySem.Flt.log2_lt_of (by decide) h2
  show i.natAbs.log2 + j.natAbs.log2 < 1000000
  omega
theorem div_ok {i j : Int} (h0 : 0 < j) (h2 : j.natAbs < 2 ^ 64) : CDivW i j := by
  have b := PySem.Flt.log2_lt_of (by decide) h2
  exact ⟨h0, by omega⟩
/-! ### loops -/
theorem for_inv {α : Type} {g : WG} {wb : WS} {De : DEnds} (enc : α → D) (I : List α → Dl → List MO → Prop)
    (hn : ∀ δ M, I [] δ M → De.nx δ M)
    (hs : ∀ x xs δ M (Kn : Dl → List MO → Prop), I (x :: xs) δ M → (∀ δ M, I xs δ M → Kn δ M) → g (.d (enc x)) δ M (fun δ1 M1 => wb { De with nx := Kn, ct := Kn, bk := De.nx } δ1 M1) De.er) :
    ∀ (items : List α) (δ : Dl) (M : List MO), I items δ M → forD g wb De (items.map enc) δ M
  | [], δ, M, h => hn δ M h
  | x :: xs, δ, M, h => hs x xs δ M _ h fun δ M h => for_inv enc I hn hs xs δ M h
theorem for_rng {g : WG} {wb : WS} {De : DEnds} {N : Nat} (I : Nat → Dl → List MO → Prop)
    (hn : ∀ δ M, I N δ M → De.nx δ M)
    (hs : ∀ i δ M (Kn : Dl → List MO → Prop), i < N → I i δ M → (∀ δ M, I (i + 1) δ M → Kn δ M) → g (.d (.int (i : Int))) δ M (fun δ1 M1 => wb { De with nx := Kn, ct := Kn, bk := De.nx } δ1 M1) De.er) :
    ∀ (δ : Dl) (M : List MO), I 0 δ M → forD g wb De (rng 0 N) δ M := by
  have go : ∀ (k i : Nat) (δ : Dl) (M : List MO), i + k = N → I i δ M → forD g wb De (rng (i : Int) k) δ M := by
    intro k
    induction k with
    | zero => intro i δ M e h; have : i = N := by omega
              subst this; exact hn δ M h
    | succ k ih =>
      intro i δ M e h
      exact hs i δ M _ (by omega) h fun δ M h => ih (i + 1) δ M (by omega) h
  exact fun δ M h => go N 0 δ M (by omega) h
theorem while_inv {t : WT} {wb : WS} {De : DEnds} (I : Nat → Dl → List MO → Prop)
    (hs : ∀ n δ M (Kn : Dl → List MO → Prop), I n δ M → (∀ m δ M, m < n → I m δ M → Kn δ M) → t δ M (fun c M1 => cnd c (wb { De with nx := Kn, ct := Kn, bk := De.nx } δ M1) (De.nx δ M1)) De.er) :
    ∀ (n : Nat) (δ : Dl) (M : List MO), I n δ M → wWhile t wb De δ M := by
  intro n δ M h
  have go : ∀ (k n : Nat) (δ : Dl) (M : List MO), n < k → I n δ M → whileD t wb De k δ M := by
    intro k
    induction k with
    | zero => intro n δ M e; omega
    | succ k ih => intro n δ M e h; exact hs n δ M _ h fun m δ M hm hi => ih m δ M (by omega) hi
  exact ⟨n + 1, go (n + 1) n δ M (by omega) h⟩
theorem lc_inv {α : Type} {c : CT} {wt : WT} {we : WE} {δ : Dl} {Q : MO → List MO → Prop} (enc : α → D) (I : List α → List D → List MO → Prop)
    (hn : ∀ acc M, I [] acc M → Q (.lst acc) M)
    (hs : ∀ x xs acc M (Kn : List D → List MO → Prop), I (x :: xs) acc M → (∀ acc M, I xs acc M → Kn acc M) → c.set δ (enc x) fun δ1 => wt δ1 M (fun b M1 => cnd b (we δ1 M1 (fun u M2 => ∃ y, u = .d y ∧ acc.length < sizeLine ∧ Kn (acc ++ [y]) M2) noE) (Kn acc M1)) noE) :
    ∀ (items : List α) (acc : List D) (M : List MO), I items acc M → lcD c wt we δ Q (items.map enc) acc M
  | [], acc, M, h => hn acc M h
  | x :: xs, acc, M, h => by
    have h2 := hs x xs acc M (fun a M => lcD c wt we δ Q (xs.map enc) a M) h fun acc M h => lc_inv enc I hn hs xs acc M h
    rw [List.map_cons]
    unfold lcD
    exact h2
theorem lc_rng {c : CT} {wt : WT} {we : WE} {δ : Dl} {Q : MO → List MO → Prop} {N : Nat} (I : Nat → List D → List MO → Prop)
    (hn : ∀ acc M, I N acc M → Q (.lst acc) M)
    (hs : ∀ i acc M (Kn : List D → List MO → Prop), i < N → I i acc M → (∀ acc M, I (i + 1) acc M → Kn acc M) → c.set δ (.int (i : Int)) fun δ1 => wt δ1 M (fun b M1 => cnd b (we δ1 M1 (fun u M2 => ∃ y, u = .d y ∧ acc.length < sizeLine ∧ Kn (acc ++ [y]) M2) noE) (Kn acc M1)) noE) :
    ∀ (acc : List D) (M : List MO), I 0 acc M → lcD c wt we δ Q (rng 0 N) acc M := by
  have go : ∀ (k i : Nat) (acc : List D) (M : List MO), i + k = N → I i acc M → lcD c wt we δ Q (rng (i : Int) k) acc M := by
    intro k
    induction k with
    | zero => intro i δ M e h; have : i = N := by omega
              subst this; exact hn δ M h
    | succ k ih =>
      intro i acc M e h
      have h2 := hs i acc M (fun a M => lcD c wt we δ Q (rng ((i + 1 : Nat) : Int) k) a M) (by omega) h fun acc M h => ih (i + 1) acc M (by omega) h
      unfold rng lcD
      exact h2
  exact fun δ M h => go N 0 δ M (by omega) h
theorem x_trim {w : WS} {De : DEnds} {δ : Dl} {M : List MO} (h : w { De with nx := trm M.length De.nx, ct := trm M.length De.ct, bk := trm M.length De.bk } δ M) : wTrim w De δ M := h
theorem trm_l {n : Nat} {Q : Dl → List MO → Prop} {δ : Dl} {M : List MO} (h : Q δ M) : trm n Q δ M := .inl h
theorem trm_r {n : Nat} {Q : Dl → List MO → Prop} {δ : Dl} {M : List MO} (e : cutOk n M = true) (h : Q (δ.map (cutO n)) (M.take n)) : trm n Q δ M := .inr ⟨e, h⟩
theorem x_itS {a : WE} {δ : Dl} {M : List MO} {Er : ER} {QI : List D → List MO → Prop} (h : a δ M (fun u M1 => ∃ s, u = .d (.str s) ∧ QI (sigs s) M1) Er) : wItS a δ M QI Er := h
theorem numS_len {n : Nat} (h : n ≤ 1000000) : (numS n).length ≤ 500 :=
  TL.numL_len (k := 500) (by decide) (Nat.lt_of_le_of_lt h (by decide +kernel))
theorem p500 {i : Int} (h : i ≤ 1000000) : i < 10 ^ 500 := Int.lt_of_le_of_lt h (by decide +kernel)
section
variable {δ : Dl} {M : List MO} {Er : ER} {Q : UK} {QF : MO → List MO → Prop}
theorem x_sl {f : FS} {a : WE} {l u : WO} (h : a δ M (fun x M1 => l δ M1 (fun lo M2 => u δ M2 (fun hi M3 => f x lo hi M3 Q) Er) Er) Er) : wSl f a l u δ M Q Er := h
theorem x_slF {f : FSF} {a : WE} {l u : WO} (h : a δ M (fun x M1 => l δ M1 (fun lo M2 => u δ M2 (fun hi M3 => f x lo hi M3 QF) Er) Er) Er) : wSlF f a l u δ M QF Er := h
theorem x_noP {QO : Option Int → List MO → Prop} (h : QO none M) : wNoP δ M QO Er := h
theorem x_part {w : WE} {QO : Option Int → List MO → Prop} (h : w δ M (fun u M1 => ∃ i, u = .d (.int i) ∧ QO (some i) M1) Er) : wPart w δ M QO Er := h
theorem x_exI {i : Int} {P : Int → Prop} (h : P i) : ∃ i', (U.d (.int i)) = .d (.int i') ∧ P i' := ⟨i, rfl, h⟩
theorem x_slS {s : List Nat} {lo hi : Option Int} (h : Q (.d (.str (cutL s lo hi))) M) : fSl (.d (.str s)) lo hi M Q := h
theorem x_slT {s : List D} {lo hi : Option Int} (h : Q (.d (.tup (cutL s lo hi))) M) : fSl (.d (.tup s)) lo hi M Q := h
theorem x_slL {x : U} {s : List D} {lo hi : Option Int} (e : lstOf M x = some s) (h : QF (.lst (cutL s lo hi)) M) : fSlF x lo hi M QF := by
  cases x with
  | r n => exact ⟨s, e, h⟩
  | d y =>
    cases y with
    | scr ds => cases e
    | _ => exact ⟨s, e, h⟩
theorem x_inT {a : D} {ds : List D} (h1 : flatD a = true) (h2 : ds.all flatD = true) (h : Q (.d (.bl (inD a ds))) M) : fIn false (.d a) (.d (.tup ds)) M Q := by
  cases a <;> exact ⟨ds, rfl, h1, h2, h⟩
theorem x_ninT {a : D} {ds : List D} (h1 : flatD a = true) (h2 : ds.all flatD = true) (h : Q (.d (.bl (!inD a ds))) M) : fIn true (.d a) (.d (.tup ds)) M Q := by
  cases a <;> exact ⟨ds, rfl, h1, h2, h⟩
theorem x_exS {s : List Nat} {P : List Nat → Prop} (h : P s) : ∃ s', (U.d (.str s)) = .d (.str s') ∧ P s' := ⟨s, rfl, h⟩
end
theorem join_v {c : Bool} {a b : WE} {δ : Dl} {M : List MO} {Q : UK} {Er : ER} (P : UK) (h : ∀ K : UK, (∀ u M, P u M → K u M) → cnd c (a δ M K Er) (b δ M K Er)) (hq : ∀ u M, P u M → Q u M) : cnd c (a δ M Q Er) (b δ M Q Er) := h Q hq
theorem join_s {c : Bool} {a b : WS} {De : DEnds} {δ : Dl} {M : List MO} (P : Dl → List MO → Prop) (h : ∀ K : Dl → List MO → Prop, (∀ δ M, P δ M → K δ M) → cnd c (a { De with nx := K } δ M) (b { De with nx := K } δ M)) (hq : ∀ δ M, P δ M → De.nx δ M) : cnd c (a De δ M) (b De δ M) := h De.nx hq
theorem sz {n : Nat} (h : n ≤ 1000000) : n < sizeLine := by rw [sizeLine_eq]; omega
theorem sze {n : Nat} (h : n ≤ 1000000) : n ≤ sizeLine := by rw [sizeLine_eq]; omega
end DL
namespace DL
open PySem PySem.Spec PyProof.Rows L2
/-! ### the law's own head -/
theorem reps_ints {K : PySem.W.Frag} {H : Hp} : ∀ ns : List Int, Reps K H (ns.map D.int) (ns.map V.int)
  | [] => rfl
  | n :: ns => Reps.cons rfl (reps_ints ns)
theorem wd0 {K : PySem.W.Frag} {H : Hp} : Wd K ⟨H, H, H, []⟩ [] [] [] H H [] :=
  ⟨Same.refl H, fun _ _ e => e, rfl, List.nodup_nil, (fun i a o e => by simp at e), (fun i a o e => by simp at e), (fun a h => by cases h), rfl, (fun i u e => by simp at e), fun _ _ e _ => e, fun _ e => e, Same.refl H, fun a h1 h2 => absurd h2 h1, ⟨[], rfl⟩, (fun i a _ e => by simp at e)⟩
def spLaw (K : PySem.W.Frag) : Sp := fun vs H Q _ => ∃ (a : Addr) (ns : List Int), vs = [.ref a] ∧ SqL K H a (ns.map V.int) ∧ ns.length ≤ 63 ∧ ∀ H', Q (.bl true) H'
def m_law : Spec := fun us M Q _ => ∃ ns : List Int, us = [.d (.scr (ns.map .int))] ∧ ns.length ≤ 63 ∧ M = [] ∧ Q (.d (.bl true)) []
theorem law_in {K : PySem.W.Frag} (vs : List V) (H : Hp) (Q : VK) (E : XK) (h : spLaw K vs H Q E) : spR K 0 0 m_law vs H Q E := by
  obtain ⟨a, ns, rfl, hS, hl, q⟩ := h
  refine ⟨H, [], [.d (.scr (ns.map .int))], [], rfl, wd0, ⟨.ref a, [], rfl, ⟨a, ns.map V.int, rfl, hS, reps_ints ns⟩, rfl⟩, ns, rfl, hl, rfl, ?_⟩
  intro v H' F' A' w' hl' r'
  cases (show v = .bl true from r')
  exact q H'
end DL
namespace DL
open PySem PySem.Spec PyProof.Rows L2
local macro_rules | `(tactic| walk_at "w1") => `(tactic| with_reducible first
  | refine x_seq ?_ | refine x_asg ?_ | refine x_gN ?_ | refine x_bin ?_ | refine x_c ?_ | refine x_cons ?_ | refine x_nil ?_ | refine x_if ?_ | refine x_tst ?_ | refine x_drop ?_ | refine x_ret ?_
  | refine x_meth ?_ | refine x_meth0 ?_ | refine x_methF ?_ | refine x_tup ?_ | refine x_lst ?_ | refine x_own ?_ | refine x_frz ?_ | refine x_binF ?_ | refine x_cb ?_ | refine x_cbf ?_ | refine x_cal ?_ | refine x_calI ?_ | refine x_calK ?_
  | refine x_for ?_ | refine x_it ?_ | refine x_rng1 ?_ | refine x_rng2 ?_ | refine x_skip ?_ | refine x_brk ?_ | refine x_cnt ?_ | refine x_retN ?_ | refine x_par ?_ | refine x_un ?_ | refine x_and ?_ | refine x_or ?_ | refine x_not ?_
  | refine x_ifE ?_ | refine x_andV ?_ | refine x_orV ?_ | refine x_notV ?_ | refine x_lc ?_ | refine x_yes ?_ | refine x_dget ?_ | refine x_din ?_ | refine x_dget2 ?_ | refine x_dnew ?_ | refine x_dput ?_
  | refine x_gTup rfl ?_ | refine x_gCons ?_ | refine x_gNil ?_ | refine x_gSub ?_ | refine x_frzL ?_ | refine x_frzD ?_ | refine x_addI ?_ | refine x_I0 ?_ | refine x_bl ?_ | refine x_cT ?_ | refine x_cF ?_
  | refine x_sl ?_ | refine x_slF ?_ | refine x_noP ?_ | refine x_part ?_ | refine x_exI ?_ | refine x_exS ?_ | refine x_slS ?_ | refine x_slT ?_ | refine x_trim ?_ | refine x_itS ?_ | refine x_lenS ?_ | refine x_lenT ?_ | refine x_lenL ?_ | refine x_lenC ?_ | refine x_intI ?_ | refine x_intB ?_ | refine x_i2 ?_)
local macro_rules | `(tactic| walk_at "sz") => `(tactic| first | assumption | decide | omega | exact sze (by first | omega | (simp <;> omega)) | exact sz (by first | omega | (simp <;> omega)))
local macro_rules | `(tactic| walk_at "w2") => `(tactic| first
  | ((with_reducible show wVar _ _ _ _ _); refine x_var rfl ?_)
  | ((with_reducible show wVarF _ _ _ _ _ _); refine x_varF rfl rfl rfl ?_)
  | ((with_reducible show gTupD _ _ _ _ _ _ _); refine x_gTup rfl ?_)
  | ((with_reducible show DEnds.rt (fnEnds _ _ _ _) _ _); refine x_rt rfl ?_)
  | ((with_reducible show DEnds.nx (fnEnds _ _ _ _) _ _); refine x_end rfl ?_)
  | ((with_reducible show isTy _ _ _ = true ∧ _); refine x_mty rfl ?_)
  | ((with_reducible show callOk _ _ _ = true ∧ _); refine x_ok rfl ?_)
  | ((with_reducible show ∃ ds, dataSeq _ = some ds ∧ _); refine x_ds rfl ?_)
  | ((with_reducible show tupK _ _ _); refine x_tupD rfl ?_)
  | ((with_reducible show lstK _ _ _); refine x_lstD rfl ?_)
  | ((with_reducible show fLen [U.r _] _ _); refine x_lenR rfl ?_)
  | ((with_reducible show fIx (U.d (D.tup _)) _ _ _); refine x_ixT rfl ?_)
  | ((with_reducible show fIx (U.d (D.lst _)) _ _ _); refine x_ixL rfl ?_)
  | ((with_reducible show fIx (U.r _) _ _ _); refine x_ixR rfl rfl ?_)
  | ((with_reducible show fAdd (U.d (D.str _)) _ _ _); refine x_addS (by walk_at "sz") ?_)
  | ((with_reducible show fAdd (U.d (D.tup _)) _ _ _); refine x_addT (by walk_at "sz") ?_)
  | ((with_reducible show fApp _ _ _ _); refine x_app rfl rfl (by (show List.length _ < _); walk_at "sz") ?_)
  | ((with_reducible show fExt _ _ _ _); refine x_ext rfl rfl rfl (by (show List.length _ + List.length _ ≤ _); walk_at "sz") ?_)
  | ((with_reducible show fEq false _ _ _ _); refine x_eq rfl rfl rfl rfl ?_)
  | ((with_reducible show fEq true _ _ _ _); refine x_ne rfl rfl rfl rfl ?_)
  | ((with_reducible show fTuple _ _ _); refine x_tupleS rfl ?_)
  | ((with_reducible show fList _ _ _); refine x_listS rfl ?_)
  | ((with_reducible show fI CMulW _ _ _ _ _); refine x_I (mul_ok (by first | decide | omega) (by first | decide | omega)) ?_)
  | ((with_reducible show fI CDivW _ _ _ _ _); refine x_I (div_ok (by first | decide | omega) (by first | decide | omega)) ?_)
  | ((with_reducible show fI _ _ _ _ _ _); refine x_I (by first | decide | omega) ?_)
  | ((with_reducible show fSet (U.r _) _ _ _ _); refine x_setR rfl (by first | decide | omega) (by first | decide | (simp <;> omega)) ?_)
  | ((with_reducible show fSlF _ _ _ _ _); refine x_slL rfl ?_)
  | ((with_reducible show fIn false (U.d _) (U.d (D.tup _)) _ _); refine x_inT rfl rfl ?_)
  | ((with_reducible show fIn true (U.d _) (U.d (D.tup _)) _ _); refine x_ninT rfl rfl ?_)
  | ((with_reducible show calIK _ _ (U.r _ :: _) _); refine x_calIr rfl nofun rfl rfl ?_)
  | ((with_reducible show fStr _ _ _); refine x_str (by omega) (p500 (by omega)) ?_)
  | ((with_reducible show rng1K _ _ _); refine x_r1 (by omega) (by omega) ?_)
  | ((with_reducible show rng2K _ _ _); refine x_r2 (by omega) ?_))
local macro_rules | `(tactic| walk_at "w") => `(tactic| first | walk_at "w1" | walk_at "w2")
/-! the text by places -/
def topS (i : Nat) : Stmt := PySem.Challenge.pw_whoeverwithin_k07_passes.main.body.getD i (.Pass ⟨0, 0, 0, 0⟩)
abbrev s_pass_deeds : Stmt := topS 1
abbrev s_members_at : Stmt := topS 2
abbrev s_extras_at : Stmt := topS 3
abbrev s_summed : Stmt := topS 4
abbrev s_law_porch : Stmt := topS 6
abbrev s_law_sill : Stmt := topS 7
abbrev s_law_one : Stmt := topS 8
abbrev s_law_same : Stmt := topS 9
abbrev s_law_statement : Stmt := topS 10
abbrev s_law_put : Stmt := topS 11
abbrev s_law_side : Stmt := topS 12
abbrev s_law_deeds : Stmt := topS 13
abbrev s_law : Stmt := topS 14
/-- the built-ins' names are as they were -/
structure Tx (mg : Str → Option Value) : Prop where
  b_bool : mg "bool" = none
  b_int : mg "int" = none
  b_isinstance : mg "isinstance" = none
  b_len : mg "len" = none
  b_max : mg "max" = none
  b_range : mg "range" = none
  b_sorted : mg "sorted" = none
  b_str : mg "str" = none
  b_tuple : mg "tuple" = none
theorem bt_bool : bootBuiltins "bool" = some (.type "bool") := by decide +kernel
theorem bt_int : bootBuiltins "int" = some (.type "int") := by decide +kernel
theorem bt_isinstance : bootBuiltins "isinstance" = some (.builtin "isinstance") := by decide +kernel
theorem bt_len : bootBuiltins "len" = some (.builtin "len") := by decide +kernel
theorem bt_max : bootBuiltins "max" = some (.builtin "max") := by decide +kernel
theorem bt_sorted : bootBuiltins "sorted" = some (.builtin "sorted") := by decide +kernel
theorem bt_str : bootBuiltins "str" = some (.type "str") := by decide +kernel
theorem bt_tuple : bootBuiltins "tuple" = some (.type "tuple") := by decide +kernel
/-! pass_deeds -/
abbrev N_pass_deeds : List Str := ["statement", "word", "line", "name", "first", "last", "hours", "passes", "told", "at", "members", "extras", "own", "takes", "gives"]
theorem sc_pass_deeds : FnScope N_pass_deeds ["statement"] (defScope s_pass_deeds) := ⟨rfl, rfl, rfl, by decide +kernel, rfl, by decide +kernel, by decide +kernel⟩
def W_pass_deeds (m_members_at m_extras_at m_summed : Spec) : WS := (wSeq (wAsg (wVar 0) (gTupD 7 (gCons (gN 1) (gCons (gN 2) (gCons (gN 3) (gCons (gN 4) (gCons (gN 5) (gCons (gN 6) (gCons (gN 7) gNil)))))))))
  (wSeq (wAsg (wOwn (wLst wNil)) (gN 8))
  (wSeq (wFor (wRng1 (wCons (wCB fLen (wCons (wVar 7) wNil)) wNil)) (gN 9)
  (wTrim (wSeq (wAsg (wBin fIx (wVar 7) (wVar 9)) (gTupD 2 (gCons (gN 10) (gCons (gN 11) gNil))))
  (wSeq (wAsg (wBin fAdd (wVar 3) (wCB fStr (wCons (wBin fAdd (wVar 9) (wC (.int 1))) wNil))) (gN 12))
  (wSeq (wAsg (wFrz (wBinF fCat (wCall 0 0 m_members_at (wCons (wVar 10) (wCons (wVar 4) (wCons (wC (.bl false)) wNil)))) (wCall 0 0 m_extras_at (wCons (wVar 11) (wCons (wC (.str (sg "less"))) (wCons (wVar 4) (wCons (wVar 5) wNil))))))) (gN 13))
  (wSeq (wAsg (wFrz (wBinF fCat (wCall 0 0 m_members_at (wCons (wVar 10) (wCons (wVar 5) (wCons (wC (.bl true)) wNil)))) (wCall 0 0 m_extras_at (wCons (wVar 11) (wCons (wC (.str (sg "more"))) (wCons (wVar 4) (wCons (wVar 5) wNil))))))) (gN 14))
  (wIf (wTst (wBin (fEq false) (wVar 1) (wC (.str (sg "door")))))
  (wDrop (wMeth "list" fApp (wVar 8) (wCons (wTup (wCons (wVar 12) (wCons (wVar 6) (wCons (wCall 0 0 m_summed (wCons (wVar 13) wNil)) (wCons (wCall 0 0 m_summed (wCons (wVar 14) wNil)) wNil))))) wNil)))
  (wSeq (wDrop (wMeth "list" fApp (wVar 8) (wCons (wTup (wCons (wBin fAdd (wVar 12) (wC (.str (sg "f")))) (wCons (wVar 6) (wCons (wCall 0 0 m_summed (wCons (wVar 13) wNil)) (wCons (wCall 0 0 m_summed (wCons (wVar 14) wNil)) wNil))))) wNil)))
  (wSeq (wAsg (wFrz (wBinF fCat (wCall 0 0 m_members_at (wCons (wVar 10) (wCons (wVar 5) (wCons (wC (.bl true)) wNil)))) (wCall 0 0 m_extras_at (wCons (wVar 11) (wCons (wC (.str (sg "more"))) (wCons (wVar 4) (wCons (wVar 5) wNil))))))) (gN 13))
  (wSeq (wAsg (wFrz (wBinF fCat (wCall 0 0 m_members_at (wCons (wVar 10) (wCons (wVar 4) (wCons (wC (.bl false)) wNil)))) (wCall 0 0 m_extras_at (wCons (wVar 11) (wCons (wC (.str (sg "less"))) (wCons (wVar 4) (wCons (wVar 5) wNil))))))) (gN 14))
  (wDrop (wMeth "list" fApp (wVar 8) (wCons (wTup (wCons (wBin fAdd (wVar 12) (wC (.str (sg "b")))) (wCons (wVar 6) (wCons (wCall 0 0 m_summed (wCons (wVar 13) wNil)) (wCons (wCall 0 0 m_summed (wCons (wVar 14) wNil)) wNil))))) wNil)))))))))))))
  (wRet (wCB fTuple (wCons (wVar 8) wNil))))))
theorem d_pass_deeds {P : Program} {w : World} {K : PySem.W.Frag} {mg : Str → Option Value} {base : Heap} {m_members_at m_extras_at m_summed : Spec} (T : Tx mg) (c_members_at : Cal P w K mg base "members_at" s_members_at 1 ["members", "zone", "turned"] 0 0 m_members_at) (c_extras_at : Cal P w K mg base "extras_at" s_extras_at 1 ["extras", "word", "first", "last"] 0 0 m_extras_at) (c_summed : Cal P w K mg base "summed" s_summed 1 ["pairs"] 0 0 m_summed) {f : Addr} {cdv : Value} {A : Around} {outer : List Env} {s : Shared} {H : Hp} {E : XK} (hr : Room 1 (A.deeper (envOfC "pass_deeds" (defScope s_pass_deeds) s.heap.objs.size f cdv))) :
    DSs (cxOf CX0 P w K mg base N_pass_deeds "pass_deeds" (defScope s_pass_deeds) f cdv A outer s H E).nox 0 (defBody s_pass_deeds) (W_pass_deeds m_members_at m_extras_at m_summed) :=
  (dss_cons (ds_asg (dv 0) (dg_tup rfl (dgs_cons (dg_name (i := 1) sc_pass_deeds.nd) (dgs_cons (dg_name (i := 2) sc_pass_deeds.nd) (dgs_cons (dg_name (i := 3) sc_pass_deeds.nd) (dgs_cons (dg_name (i := 4) sc_pass_deeds.nd) (dgs_cons (dg_name (i := 5) sc_pass_deeds.nd) (dgs_cons (dg_name (i := 6) sc_pass_deeds.nd) (dgs_cons (dg_name (i := 7) sc_pass_deeds.nd) dgs_nil)))))))))
  (dss_cons (ds_set (i := 8) sc_pass_deeds.nd (DF.own (df_lst da_nil)))
  (dss_cons (ds_for PassesOwn.never rfl (di_range1 T.b_range (da_cons (de_callB call_len lc_len T.b_len bt_len (da_cons (dv 7) da_nil)) da_nil)) (dg_name (i := 9) sc_pass_deeds.nd)
  (dss_trim (dss_cons (ds_asg (de_ix ix_seq l2_ix (dv 7) (dv 9)) (dg_tup rfl (dgs_cons (dg_name (i := 10) sc_pass_deeds.nd) (dgs_cons (dg_name (i := 11) sc_pass_deeds.nd) dgs_nil))))
  (dss_cons (ds_set (i := 12) sc_pass_deeds.nd (de_op op_addG l2_add (dv 3) (de_callTy call_str_int lc_str T.b_str bt_str (da_cons (de_op op_addG l2_add (dv 9) de_int) da_nil))))
  (dss_cons (ds_set (i := 13) sc_pass_deeds.nd (DF.frz (df_op op_cat l2_cat (de_cal c_members_at (hr.mono (by decide)) (da_cons (dv 10) (da_cons (dv 4) (da_cons de_bl da_nil)))) (de_cal c_extras_at (hr.mono (by decide)) (da_cons (dv 11) (da_cons de_str (da_cons (dv 4) (da_cons (dv 5) da_nil))))))))
  (dss_cons (ds_set (i := 14) sc_pass_deeds.nd (DF.frz (df_op op_cat l2_cat (de_cal c_members_at (hr.mono (by decide)) (da_cons (dv 10) (da_cons (dv 5) (da_cons de_bl da_nil)))) (de_cal c_extras_at (hr.mono (by decide)) (da_cons (dv 11) (da_cons de_str (da_cons (dv 4) (da_cons (dv 5) da_nil))))))))
  (dss_one (ds_if (dt_cmp (op_eqD (u64 hr)) l2_eq (dv 1) de_str)
  (dss_one (ds_expr (de_meth PySem.F.plainAttrs_list PySem.F.slot_list_append PySem.F.type_list_append mt_append lm_app (dv 8) (da_cons (de_tup (da_cons (dv 12) (da_cons (dv 6) (da_cons (de_cal c_summed (hr.mono (by decide)) (da_cons (dv 13) da_nil)) (da_cons (de_cal c_summed (hr.mono (by decide)) (da_cons (dv 14) da_nil)) da_nil))))) da_nil))))
  (dss_cons (ds_expr (de_meth PySem.F.plainAttrs_list PySem.F.slot_list_append PySem.F.type_list_append mt_append lm_app (dv 8) (da_cons (de_tup (da_cons (de_op op_addG l2_add (dv 12) de_str) (da_cons (dv 6) (da_cons (de_cal c_summed (hr.mono (by decide)) (da_cons (dv 13) da_nil)) (da_cons (de_cal c_summed (hr.mono (by decide)) (da_cons (dv 14) da_nil)) da_nil))))) da_nil)))
  (dss_cons (ds_set (i := 13) sc_pass_deeds.nd (DF.frz (df_op op_cat l2_cat (de_cal c_members_at (hr.mono (by decide)) (da_cons (dv 10) (da_cons (dv 5) (da_cons de_bl da_nil)))) (de_cal c_extras_at (hr.mono (by decide)) (da_cons (dv 11) (da_cons de_str (da_cons (dv 4) (da_cons (dv 5) da_nil))))))))
  (dss_cons (ds_set (i := 14) sc_pass_deeds.nd (DF.frz (df_op op_cat l2_cat (de_cal c_members_at (hr.mono (by decide)) (da_cons (dv 10) (da_cons (dv 4) (da_cons de_bl da_nil)))) (de_cal c_extras_at (hr.mono (by decide)) (da_cons (dv 11) (da_cons de_str (da_cons (dv 4) (da_cons (dv 5) da_nil))))))))
  (dss_one (ds_expr (de_meth PySem.F.plainAttrs_list PySem.F.slot_list_append PySem.F.type_list_append mt_append lm_app (dv 8) (da_cons (de_tup (da_cons (de_op op_addG l2_add (dv 12) de_str) (da_cons (dv 6) (da_cons (de_cal c_summed (hr.mono (by decide)) (da_cons (dv 13) da_nil)) (da_cons (de_cal c_summed (hr.mono (by decide)) (da_cons (dv 14) da_nil)) da_nil))))) da_nil)))))))))))))))
  (dss_one (ds_ret (de_callTy call_tuple_of lc_tuple T.b_tuple bt_tuple (da_cons (dv 8) da_nil)))))))
theorem cal_pass_deeds {P : Program} {w : World} {K : PySem.W.Frag} {mg : Str → Option Value} {base : Heap} {m m_members_at m_extras_at m_summed : Spec} {f : Addr} {fd : FuncData} (F : Fun K "pass_deeds" "pass_deeds" s_pass_deeds f fd) (hf : mg "pass_deeds" = some (.ref f)) (T : Tx mg) (c_members_at : Cal P w K mg base "members_at" s_members_at 1 ["members", "zone", "turned"] 0 0 m_members_at) (c_extras_at : Cal P w K mg base "extras_at" s_extras_at 1 ["extras", "word", "first", "last"] 0 0 m_extras_at) (c_summed : Cal P w K mg base "summed" s_summed 1 ["pairs"] 0 0 m_summed) (ok : SpecOk m) (hl : ∀ us M Q E, m us M Q E → us.length = 1)
    (hw : ∀ us M Q, m us M Q (fun _ _ => False) → W_pass_deeds m_members_at m_extras_at m_summed (fnEnds 0 0 Q (fun _ _ => False)) (slots N_pass_deeds us) M) (hE : ∀ us M Q E, m us M Q E → m us M Q (fun _ _ => False) := by exact fun _ _ _ _ h => h) : Cal P w K mg base "pass_deeds" s_pass_deeds 2 ["statement"] 0 0 m :=
  cal_mk F hf (F.binds (ps := ["statement"]) fun _ _ _ _ _ _ us hl => match us, hl with | [_], _ => rfl) sc_pass_deeds ok hl (by decide) (fun _ _ _ _ _ _ hr => d_pass_deeds T c_members_at c_extras_at c_summed hr) hw hE
/-! members_at -/
abbrev N_members_at : List Str := ["members", "zone", "turned", "told", "number", "kind", "other", "own"]
theorem sc_members_at : FnScope N_members_at ["members", "zone", "turned"] (defScope s_members_at) := ⟨rfl, rfl, rfl, by decide +kernel, rfl, by decide +kernel, by decide +kernel⟩
def W_members_at : WS := (wSeq (wIf (wTst (wBin (fEq false) (wVar 1) (wC (.str (sg "street")))))
  (wRet (wFrz (wLst wNil)))
  wSkip)
  (wSeq (wAsg (wOwn (wLst wNil)) (gN 3))
  (wSeq (wFor (wIt (wVar 0)) (gTupD 3 (gCons (gN 4) (gCons (gN 5) (gCons (gN 6) gNil))))
  (wTrim (wSeq (wAsg (wIfE (wAnd (wTst (wVar 2)) (wTst (wBin (fEq true) (wVar 6) (wC (.str (sg "")))))) (wVar 6) (wVar 5)) (gN 7))
  (wDrop (wMeth "list" fApp (wVar 3) (wCons (wTup (wCons (wTup (wCons (wVar 7) (wCons (wVar 1) wNil))) (wCons (wVar 4) wNil))) wNil))))))
  (wRet (wVarF 3 0)))))
theorem d_members_at {P : Program} {w : World} {K : PySem.W.Frag} {mg : Str → Option Value} {base : Heap} (T : Tx mg) {f : Addr} {cdv : Value} {A : Around} {outer : List Env} {s : Shared} {H : Hp} {E : XK} (hr : Room 0 (A.deeper (envOfC "members_at" (defScope s_members_at) s.heap.objs.size f cdv))) :
    DSs (cxOf CX0 P w K mg base N_members_at "members_at" (defScope s_members_at) f cdv A outer s H E).nox 0 (defBody s_members_at) (W_members_at) :=
  (dss_cons (ds_if (dt_cmp (op_eqD (u64 hr)) l2_eq (dv 1) de_str)
  (dss_one (ds_ret (DF.frz (df_lst da_nil))))
  dss_nil)
  (dss_cons (ds_set (i := 3) sc_members_at.nd (DF.own (df_lst da_nil)))
  (dss_cons (ds_for PassesOwn.never rfl (di_seq (dv 0)) (dg_tup rfl (dgs_cons (dg_name (i := 4) sc_members_at.nd) (dgs_cons (dg_name (i := 5) sc_members_at.nd) (dgs_cons (dg_name (i := 6) sc_members_at.nd) dgs_nil))))
  (dss_trim (dss_cons (ds_set (i := 7) sc_members_at.nd (de_ifExp (DW.pt (dw_and (dt_val (dv 2)) (dw_and1 (dt_cmp (op_neD (u64 hr)) l2_ne (dv 6) de_str)))) (dv 6) (dv 5)))
  (dss_one (ds_expr (de_meth PySem.F.plainAttrs_list PySem.F.slot_list_append PySem.F.type_list_append mt_append lm_app (dv 3) (da_cons (de_tup (da_cons (de_tup (da_cons (dv 7) (da_cons (dv 1) da_nil))) (da_cons (dv 4) da_nil))) da_nil)))))))
  (dss_one (ds_ret (dvF 3))))))
theorem cal_members_at {P : Program} {w : World} {K : PySem.W.Frag} {mg : Str → Option Value} {base : Heap} {m : Spec} {f : Addr} {fd : FuncData} (F : Fun K "members_at" "members_at" s_members_at f fd) (hf : mg "members_at" = some (.ref f)) (T : Tx mg) (ok : SpecOk m) (hl : ∀ us M Q E, m us M Q E → us.length = 3)
    (hw : ∀ us M Q, m us M Q (fun _ _ => False) → W_members_at (fnEnds 0 0 Q (fun _ _ => False)) (slots N_members_at us) M) (hE : ∀ us M Q E, m us M Q E → m us M Q (fun _ _ => False) := by exact fun _ _ _ _ h => h) : Cal P w K mg base "members_at" s_members_at 1 ["members", "zone", "turned"] 0 0 m :=
  cal_mk F hf (F.binds (ps := ["members", "zone", "turned"]) fun _ _ _ _ _ _ us hl => match us, hl with | [_, _, _], _ => rfl) sc_members_at ok hl (by decide) (fun _ _ _ _ _ _ hr => d_members_at T hr) hw hE
/-! extras_at -/
abbrev N_extras_at : List Str := ["extras", "word", "first", "last", "told", "extra", "number", "name"]
theorem sc_extras_at : FnScope N_extras_at ["extras", "word", "first", "last"] (defScope s_extras_at) := ⟨rfl, rfl, rfl, by decide +kernel, rfl, by decide +kernel, by decide +kernel⟩
def W_extras_at : WS := (wSeq (wAsg (wOwn (wLst wNil)) (gN 4))
  (wSeq (wFor (wIt (wVar 0)) (gTupD 3 (gCons (gN 5) (gCons (gN 6) (gCons (gN 7) gNil))))
  (wTrim (wIf (wTst (wBin (fEq false) (wVar 5) (wVar 1)))
  (wDrop (wMeth "list" fApp (wVar 4) (wCons (wTup (wCons (wTup (wCons (wVar 7) (wCons (wC (.str (sg ""))) wNil))) (wCons (wVar 6) wNil))) wNil)))
  (wIf (wTst (wBin (fEq false) (wVar 5) (wC (.str (sg "here")))))
  (wDrop (wMeth "list" fApp (wVar 4) (wCons (wTup (wCons (wTup (wCons (wVar 7) (wCons (wVar 2) wNil))) (wCons (wVar 6) wNil))) wNil)))
  (wIf (wTst (wBin (fEq false) (wVar 5) (wC (.str (sg "there")))))
  (wDrop (wMeth "list" fApp (wVar 4) (wCons (wTup (wCons (wTup (wCons (wVar 7) (wCons (wVar 3) wNil))) (wCons (wVar 6) wNil))) wNil)))
  wSkip)))))
  (wRet (wVarF 4 0))))
theorem d_extras_at {P : Program} {w : World} {K : PySem.W.Frag} {mg : Str → Option Value} {base : Heap} (T : Tx mg) {f : Addr} {cdv : Value} {A : Around} {outer : List Env} {s : Shared} {H : Hp} {E : XK} (hr : Room 0 (A.deeper (envOfC "extras_at" (defScope s_extras_at) s.heap.objs.size f cdv))) :
    DSs (cxOf CX0 P w K mg base N_extras_at "extras_at" (defScope s_extras_at) f cdv A outer s H E).nox 0 (defBody s_extras_at) (W_extras_at) :=
  (dss_cons (ds_set (i := 4) sc_extras_at.nd (DF.own (df_lst da_nil)))
  (dss_cons (ds_for PassesOwn.never rfl (di_seq (dv 0)) (dg_tup rfl (dgs_cons (dg_name (i := 5) sc_extras_at.nd) (dgs_cons (dg_name (i := 6) sc_extras_at.nd) (dgs_cons (dg_name (i := 7) sc_extras_at.nd) dgs_nil))))
  (dss_trim (dss_one (ds_if (dt_cmp (op_eqD (u64 hr)) l2_eq (dv 5) (dv 1))
  (dss_one (ds_expr (de_meth PySem.F.plainAttrs_list PySem.F.slot_list_append PySem.F.type_list_append mt_append lm_app (dv 4) (da_cons (de_tup (da_cons (de_tup (da_cons (dv 7) (da_cons de_str da_nil))) (da_cons (dv 6) da_nil))) da_nil))))
  (dss_one (ds_if (dt_cmp (op_eqD (u64 hr)) l2_eq (dv 5) de_str)
  (dss_one (ds_expr (de_meth PySem.F.plainAttrs_list PySem.F.slot_list_append PySem.F.type_list_append mt_append lm_app (dv 4) (da_cons (de_tup (da_cons (de_tup (da_cons (dv 7) (da_cons (dv 2) da_nil))) (da_cons (dv 6) da_nil))) da_nil))))
  (dss_one (ds_if (dt_cmp (op_eqD (u64 hr)) l2_eq (dv 5) de_str)
  (dss_one (ds_expr (de_meth PySem.F.plainAttrs_list PySem.F.slot_list_append PySem.F.type_list_append mt_append lm_app (dv 4) (da_cons (de_tup (da_cons (de_tup (da_cons (dv 7) (da_cons (dv 3) da_nil))) (da_cons (dv 6) da_nil))) da_nil))))
  dss_nil))))))))
  (dss_one (ds_ret (dvF 4)))))
theorem cal_extras_at {P : Program} {w : World} {K : PySem.W.Frag} {mg : Str → Option Value} {base : Heap} {m : Spec} {f : Addr} {fd : FuncData} (F : Fun K "extras_at" "extras_at" s_extras_at f fd) (hf : mg "extras_at" = some (.ref f)) (T : Tx mg) (ok : SpecOk m) (hl : ∀ us M Q E, m us M Q E → us.length = 4)
    (hw : ∀ us M Q, m us M Q (fun _ _ => False) → W_extras_at (fnEnds 0 0 Q (fun _ _ => False)) (slots N_extras_at us) M) (hE : ∀ us M Q E, m us M Q E → m us M Q (fun _ _ => False) := by exact fun _ _ _ _ h => h) : Cal P w K mg base "extras_at" s_extras_at 1 ["extras", "word", "first", "last"] 0 0 m :=
  cal_mk F hf (F.binds (ps := ["extras", "word", "first", "last"]) fun _ _ _ _ _ _ us hl => match us, hl with | [_, _, _, _], _ => rfl) sc_extras_at ok hl (by decide) (fun _ _ _ _ _ _ hr => d_extras_at T hr) hw hE
/-! summed -/
abbrev N_summed : List Str := ["pairs", "table", "place", "number"]
theorem sc_summed : FnScope N_summed ["pairs"] (defScope s_summed) := ⟨rfl, rfl, rfl, by decide +kernel, rfl, by decide +kernel, by decide +kernel⟩
def W_summed : WS := (wSeq (wAsg (wOwn (wDNew true)) (gN 1))
  (wSeq (wFor (wIt (wVar 0)) (gTupD 2 (gCons (gN 2) (gCons (gN 3) gNil)))
  (wTrim (wDPut (wVar 1) (wVar 2) (wBin fAdd (wDGet2 (wVar 1) (wVar 2) (wC (.int 0))) (wVar 3)))))
  (wRet (wCB fTuple (wCons (wFrz (wLc (wIt (wFrz (wCBF fSorted (wCons (wVar 1) wNil)))) (.nm 2) wYes (wTup (wCons (wVar 2) (wCons (wDGet (wVar 1) (wVar 2)) wNil))) [2])) wNil)))))
theorem d_summed {P : Program} {w : World} {K : PySem.W.Frag} {mg : Str → Option Value} {base : Heap} (T : Tx mg) {f : Addr} {cdv : Value} {A : Around} {outer : List Env} {s : Shared} {H : Hp} {E : XK} (hr : Room 0 (A.deeper (envOfC "summed" (defScope s_summed) s.heap.objs.size f cdv))) :
    DSs (cxOf CX0 P w K mg base N_summed "summed" (defScope s_summed) f cdv A outer s H E).nox 0 (defBody s_summed) (W_summed) :=
  (dss_cons (ds_set (i := 1) sc_summed.nd (DF.own df_dnewT))
  (dss_cons (ds_for PassesOwn.never rfl (di_seq (dv 0)) (dg_tup rfl (dgs_cons (dg_name (i := 2) sc_summed.nd) (dgs_cons (dg_name (i := 3) sc_summed.nd) dgs_nil)))
  (dss_trim (dss_one (ds_dput (u1 hr) (dv 1) (dv 2) (de_op op_addG l2_add (de_dget2 (u1 hr) (dv 1) (dv 2) de_int) (dv 3))))))
  (dss_one (ds_ret (de_callTy call_tuple_of lc_tuple T.b_tuple bt_tuple (da_cons (DF.frz (df_lc (c := (.nm 2)) (own := [("place", 2)]) rfl sc_summed.nd (di_seq (DF.frz (df_callB (cr_sorted2 (u70 hr) rfl) lc_sorted T.b_sorted bt_sorted (da_cons (dv 1) da_nil)))) (blkOk_by (own := [("place", 2)]) (N := N_summed) (sc := defScope s_summed) (by decide +kernel)) (by decide) (fun _ _ _ _ _ => pg_name (i := 2) sc_summed.nd rfl (Or.inl rfl)) rfl (fun _ _ _ _ _ _ => (de_tup (da_cons (dv 2) (da_cons (de_dget (u1 hr) (dv 1) (dv 2)) da_nil)))))) da_nil))))))
theorem cal_summed {P : Program} {w : World} {K : PySem.W.Frag} {mg : Str → Option Value} {base : Heap} {m : Spec} {f : Addr} {fd : FuncData} (F : Fun K "summed" "summed" s_summed f fd) (hf : mg "summed" = some (.ref f)) (T : Tx mg) (ok : SpecOk m) (hl : ∀ us M Q E, m us M Q E → us.length = 1)
    (hw : ∀ us M Q, m us M Q (fun _ _ => False) → W_summed (fnEnds 0 0 Q (fun _ _ => False)) (slots N_summed us) M) (hE : ∀ us M Q E, m us M Q E → m us M Q (fun _ _ => False) := by exact fun _ _ _ _ h => h) : Cal P w K mg base "summed" s_summed 1 ["pairs"] 0 0 m :=
  cal_mk F hf (F.binds (ps := ["pairs"]) fun _ _ _ _ _ _ us hl => match us, hl with | [_], _ => rfl) sc_summed ok hl (by decide) (fun _ _ _ _ _ _ hr => d_summed T hr) hw hE
/-! _law_porch -/
abbrev N_law_porch : List Str := ["script", "cells", "state", "cell"]
theorem sc_law_porch : FnScope N_law_porch ["script"] (defScope s_law_porch) := ⟨rfl, rfl, rfl, by decide +kernel, rfl, by decide +kernel, by decide +kernel⟩
def W_law_porch : WS := (wSeq (wAsg (wFrz (wBinF fCat (wFrz (wLc (wIt (wVar 0)) (.nm 3) wYes (wBin fMod (wCB fInt (wCons (wVar 3) wNil)) (wC (.int 63001))) [3])) (wFrz (wLst (wCons (wC (.int 157)) wNil))))) (gN 1))
  (wSeq (wAsg (wC (.int 653)) (gN 2))
  (wSeq (wFor (wIt (wVar 1)) (gN 3)
  (wTrim (wAsg (wBin fMod (wCB fInt (wCons (wBin fAdd (wBin fAdd (wBin fMul (wVar 2) (wC (.int 1301))) (wBin fMul (wVar 3) (wC (.int 587)))) (wC (.int 4))) wNil)) (wC (.int 63001))) (gN 2))))
  (wRet (wOwn (wLst (wCons (wVar 2) (wCons (wC (.int 0)) (wCons (wVar 1) wNil)))))))))
theorem d_law_porch {P : Program} {w : World} {K : PySem.W.Frag} {mg : Str → Option Value} {base : Heap} (T : Tx mg) {f : Addr} {cdv : Value} {A : Around} {outer : List Env} {s : Shared} {H : Hp} {E : XK} (hr : Room 0 (A.deeper (envOfC "_law_porch" (defScope s_law_porch) s.heap.objs.size f cdv))) :
    DSs (cxOf CX0 P w K mg base N_law_porch "_law_porch" (defScope s_law_porch) f cdv A outer s H E).nox 0 (defBody s_law_porch) (W_law_porch) :=
  (dss_cons (ds_set (i := 1) sc_law_porch.nd (DF.frz (df_op op_cat l2_cat (DF.frz (df_lc (c := (.nm 3)) (own := [("cell", 3)]) rfl sc_law_porch.nd (di_seq (dv 0)) (blkOk_by (own := [("cell", 3)]) (N := N_law_porch) (sc := defScope s_law_porch) (by decide +kernel)) (by decide) (fun _ _ _ _ _ => pg_name (i := 3) sc_law_porch.nd rfl (Or.inl rfl)) rfl (fun _ _ _ _ _ _ => (de_op op_mod l2_mod (de_callTy call_int1 lc_int T.b_int bt_int (da_cons (dv 3) da_nil)) de_int)))) (DF.frz (df_lst (da_cons de_int da_nil))))))
  (dss_cons (ds_set (i := 2) sc_law_porch.nd de_int)
  (dss_cons (ds_for PassesOwn.never rfl (di_seq (dv 1)) (dg_name (i := 3) sc_law_porch.nd)
  (dss_trim (dss_one (ds_set (i := 2) sc_law_porch.nd (de_op op_mod l2_mod (de_callTy call_int1 lc_int T.b_int bt_int (da_cons (de_op op_addG l2_add (de_op op_addG l2_add (de_op op_mulW l2_mul (dv 2) de_int) (de_op op_mulW l2_mul (dv 3) de_int)) de_int) da_nil)) de_int)))))
  (dss_one (ds_ret (DF.own (df_lst (da_cons (dv 2) (da_cons de_int (da_cons (dv 1) da_nil))))))))))
theorem cal_law_porch {P : Program} {w : World} {K : PySem.W.Frag} {mg : Str → Option Value} {base : Heap} {m : Spec} {f : Addr} {fd : FuncData} (F : Fun K "_law_porch" "_law_porch" s_law_porch f fd) (hf : mg "_law_porch" = some (.ref f)) (T : Tx mg) (ok : SpecOk m) (hl : ∀ us M Q E, m us M Q E → us.length = 1)
    (hw : ∀ us M Q, m us M Q (fun _ _ => False) → W_law_porch (fnEnds 0 1 Q (fun _ _ => False)) (slots N_law_porch us) M) (hE : ∀ us M Q E, m us M Q E → m us M Q (fun _ _ => False) := by exact fun _ _ _ _ h => h) : Cal P w K mg base "_law_porch" s_law_porch 1 ["script"] 0 1 m :=
  cal_mk F hf (F.binds (ps := ["script"]) fun _ _ _ _ _ _ us hl => match us, hl with | [_], _ => rfl) sc_law_porch ok hl (by decide) (fun _ _ _ _ _ _ hr => d_law_porch T hr) hw hE
/-! _law_sill -/
abbrev N_law_sill : List Str := ["porch", "many", "cell"]
theorem sc_law_sill : FnScope N_law_sill ["porch", "many"] (defScope s_law_sill) := ⟨rfl, rfl, rfl, by decide +kernel, rfl, by decide +kernel, by decide +kernel⟩
def W_law_sill : WS := (wSeq (wAsg (wBin fAdd (wBin fIx (wVar 0) (wC (.int 1))) (wC (.int 1))) (gSubD (wVar 0) (wC (.int 1))))
  (wSeq (wAsg (wBin fIx (wBin fIx (wVar 0) (wC (.int 2))) (wBin fMod (wCB fInt (wCons (wBin fIx (wVar 0) (wC (.int 1))) wNil)) (wCB fLen (wCons (wBin fIx (wVar 0) (wC (.int 2))) wNil)))) (gN 2))
  (wSeq (wAsg (wBin fMod (wCB fInt (wCons (wBin fAdd (wBin fAdd (wBin fAdd (wBin fMul (wBin fIx (wVar 0) (wC (.int 0))) (wC (.int 2237))) (wBin fMul (wVar 2) (wC (.int 607)))) (wBin fMul (wBin fIx (wVar 0) (wC (.int 1))) (wC (.int 491)))) (wC (.int 6))) wNil)) (wC (.int 63001))) (gSubD (wVar 0) (wC (.int 0))))
  (wRet (wBin fMod (wCB fInt (wCons (wBin fDiv (wCB fInt (wCons (wBin fAdd (wBin fIx (wVar 0) (wC (.int 0))) (wBin fMul (wBin fIx (wVar 0) (wC (.int 1))) (wC (.int 547)))) wNil)) (wC (.int 7))) wNil)) (wCB fMax2 (wCons (wC (.int 1)) (wCons (wVar 1) wNil))))))))
theorem d_law_sill {P : Program} {w : World} {K : PySem.W.Frag} {mg : Str → Option Value} {base : Heap} (T : Tx mg) {f : Addr} {cdv : Value} {A : Around} {outer : List Env} {s : Shared} {H : Hp} {E : XK} (hr : Room 0 (A.deeper (envOfC "_law_sill" (defScope s_law_sill) s.heap.objs.size f cdv))) :
    DSs (cxOf CX0 P w K mg base N_law_sill "_law_sill" (defScope s_law_sill) f cdv A outer s H E).nox 1 (defBody s_law_sill) (W_law_sill) :=
  (dss_cons (ds_asg (de_op op_addG l2_add (de_ix ix_seq l2_ix (dv 0) de_int) de_int) (dg_sub (dv 0) de_int))
  (dss_cons (ds_set (i := 2) sc_law_sill.nd (de_ix ix_seq l2_ix (de_ix ix_seq l2_ix (dv 0) de_int) (de_op op_mod l2_mod (de_callTy call_int1 lc_int T.b_int bt_int (da_cons (de_ix ix_seq l2_ix (dv 0) de_int) da_nil)) (de_callB call_len lc_len T.b_len bt_len (da_cons (de_ix ix_seq l2_ix (dv 0) de_int) da_nil)))))
  (dss_cons (ds_asg (de_op op_mod l2_mod (de_callTy call_int1 lc_int T.b_int bt_int (da_cons (de_op op_addG l2_add (de_op op_addG l2_add (de_op op_addG l2_add (de_op op_mulW l2_mul (de_ix ix_seq l2_ix (dv 0) de_int) de_int) (de_op op_mulW l2_mul (dv 2) de_int)) (de_op op_mulW l2_mul (de_ix ix_seq l2_ix (dv 0) de_int) de_int)) de_int) da_nil)) de_int) (dg_sub (dv 0) de_int))
  (dss_one (ds_ret (de_op op_mod l2_mod (de_callTy call_int1 lc_int T.b_int bt_int (da_cons (de_op op_fdivW l2_div (de_callTy call_int1 lc_int T.b_int bt_int (da_cons (de_op op_addG l2_add (de_ix ix_seq l2_ix (dv 0) de_int) (de_op op_mulW l2_mul (de_ix ix_seq l2_ix (dv 0) de_int) de_int)) da_nil)) de_int) da_nil)) (de_callB (call_max2 rfl) lc_max2 T.b_max bt_max (da_cons de_int (da_cons (dv 1) da_nil)))))))))
theorem cal_law_sill {P : Program} {w : World} {K : PySem.W.Frag} {mg : Str → Option Value} {base : Heap} {m : Spec} {f : Addr} {fd : FuncData} (F : Fun K "_law_sill" "_law_sill" s_law_sill f fd) (hf : mg "_law_sill" = some (.ref f)) (T : Tx mg) (ok : SpecOk m) (hl : ∀ us M Q E, m us M Q E → us.length = 2)
    (hw : ∀ us M Q, m us M Q (fun _ _ => False) → W_law_sill (fnEnds 1 1 Q (fun _ _ => False)) (slots N_law_sill us) M) (hE : ∀ us M Q E, m us M Q E → m us M Q (fun _ _ => False) := by exact fun _ _ _ _ h => h) : Cal P w K mg base "_law_sill" s_law_sill 1 ["porch", "many"] 1 1 m :=
  cal_mk F hf (F.binds (ps := ["porch", "many"]) fun _ _ _ _ _ _ us hl => match us, hl with | [_, _], _ => rfl) sc_law_sill ok hl (by decide) (fun _ _ _ _ _ _ hr => d_law_sill T hr) hw hE
/-! _law_one -/
abbrev N_law_one : List Str := ["porch", "row"]
theorem sc_law_one : FnScope N_law_one ["porch", "row"] (defScope s_law_one) := ⟨rfl, rfl, rfl, by decide +kernel, rfl, by decide +kernel, by decide +kernel⟩
def W_law_one (m_law_sill : Spec) : WS := (wRet (wBin fIx (wVar 1) (wCall 1 1 m_law_sill (wCons (wVar 0) (wCons (wCB fLen (wCons (wVar 1) wNil)) wNil)))))
theorem d_law_one {P : Program} {w : World} {K : PySem.W.Frag} {mg : Str → Option Value} {base : Heap} {m_law_sill : Spec} (T : Tx mg) (c_law_sill : Cal P w K mg base "_law_sill" s_law_sill 1 ["porch", "many"] 1 1 m_law_sill) {f : Addr} {cdv : Value} {A : Around} {outer : List Env} {s : Shared} {H : Hp} {E : XK} (hr : Room 1 (A.deeper (envOfC "_law_one" (defScope s_law_one) s.heap.objs.size f cdv))) :
    DSs (cxOf CX0 P w K mg base N_law_one "_law_one" (defScope s_law_one) f cdv A outer s H E).nox 1 (defBody s_law_one) (W_law_one m_law_sill) :=
  (dss_one (ds_ret (de_ix ix_seq l2_ix (dv 1) (de_cal c_law_sill (hr.mono (by decide)) (da_cons (dv 0) (da_cons (de_callB call_len lc_len T.b_len bt_len (da_cons (dv 1) da_nil)) da_nil))))))
theorem cal_law_one {P : Program} {w : World} {K : PySem.W.Frag} {mg : Str → Option Value} {base : Heap} {m m_law_sill : Spec} {f : Addr} {fd : FuncData} (F : Fun K "_law_one" "_law_one" s_law_one f fd) (hf : mg "_law_one" = some (.ref f)) (T : Tx mg) (c_law_sill : Cal P w K mg base "_law_sill" s_law_sill 1 ["porch", "many"] 1 1 m_law_sill) (ok : SpecOk m) (hl : ∀ us M Q E, m us M Q E → us.length = 2)
    (hw : ∀ us M Q, m us M Q (fun _ _ => False) → W_law_one m_law_sill (fnEnds 1 1 Q (fun _ _ => False)) (slots N_law_one us) M) (hE : ∀ us M Q E, m us M Q E → m us M Q (fun _ _ => False) := by exact fun _ _ _ _ h => h) : Cal P w K mg base "_law_one" s_law_one 2 ["porch", "row"] 1 1 m :=
  cal_mk F hf (F.binds (ps := ["porch", "row"]) fun _ _ _ _ _ _ us hl => match us, hl with | [_, _], _ => rfl) sc_law_one ok hl (by decide) (fun _ _ _ _ _ _ hr => d_law_one T c_law_sill hr) hw hE
/-! _law_same -/
abbrev N_law_same : List Str := ["told", "due", "left", "one", "two", "at"]
theorem sc_law_same : FnScope N_law_same ["told", "due"] (defScope s_law_same) := ⟨rfl, rfl, rfl, by decide +kernel, rfl, by decide +kernel, by decide +kernel⟩
def W_law_same : WS := (wSeq (wAsg (wOwn (wLst (wCons (wTup (wCons (wVar 0) (wCons (wVar 1) wNil))) wNil))) (gN 2))
  (wSeq (wWhile (wTst (wBin fGt (wCB fLen (wCons (wVar 2) wNil)) (wC (.int 0))))
  (wTrim (wSeq (wAsg (wMeth0 "list" fPop (wVar 2)) (gTupD 2 (gCons (gN 3) (gCons (gN 4) gNil))))
  (wIf (wTst (wCB fIsi (wCons (wVar 4) (wCons (wC (.obj (.ty "tuple"))) wNil))))
  (wSeq (wIf (wOr (wNot (wTst (wCB fIsi (wCons (wVar 3) (wCons (wC (.obj (.ty "tuple"))) wNil))))) (wTst (wBin (fEq true) (wCB fLen (wCons (wVar 3) wNil)) (wCB fLen (wCons (wVar 4) wNil)))))
  (wRet (wC (.bl false)))
  wSkip)
  (wDrop (wMeth "list" fExt (wVar 2) (wCons (wFrz (wLc (wRng1 (wCons (wCB fLen (wCons (wVar 4) wNil)) wNil)) (.nm 5) wYes (wTup (wCons (wBin fIx (wVar 3) (wVar 5)) (wCons (wBin fIx (wVar 4) (wVar 5)) wNil))) [5])) wNil))))
  (wIf (wTst (wCB fIsi (wCons (wVar 4) (wCons (wC (.obj (.ty "str"))) wNil))))
  (wIf (wOr (wNot (wTst (wCB fIsi (wCons (wVar 3) (wCons (wC (.obj (.ty "str"))) wNil))))) (wTst (wBin (fEq true) (wVar 3) (wVar 4))))
  (wRet (wC (.bl false)))
  wSkip)
  (wIf (wOr (wTst (wCB fIsi (wCons (wVar 3) (wCons (wC (.obj (.ty "bool"))) wNil)))) (wOr (wNot (wTst (wCB fIsi (wCons (wVar 3) (wCons (wC (.obj (.ty "int"))) wNil))))) (wTst (wBin (fEq true) (wVar 3) (wVar 4)))))
  (wRet (wC (.bl false)))
  wSkip))))))
  (wRet (wC (.bl true)))))
theorem d_law_same {P : Program} {w : World} {K : PySem.W.Frag} {mg : Str → Option Value} {base : Heap} (T : Tx mg) {f : Addr} {cdv : Value} {A : Around} {outer : List Env} {s : Shared} {H : Hp} {E : XK} (hr : Room 0 (A.deeper (envOfC "_law_same" (defScope s_law_same) s.heap.objs.size f cdv))) :
    DSs (cxOf CX0 P w K mg base N_law_same "_law_same" (defScope s_law_same) f cdv A outer s H E).nox 0 (defBody s_law_same) (W_law_same) :=
  (dss_cons (ds_set (i := 2) sc_law_same.nd (DF.own (df_lst (da_cons (de_tup (da_cons (dv 0) (da_cons (dv 1) da_nil))) da_nil))))
  (dss_cons (ds_while PassesOwn.never (dt_cmp op_gt l2_gt (de_callB call_len lc_len T.b_len bt_len (da_cons (dv 2) da_nil)) de_int)
  (dss_trim (dss_cons (ds_asg (de_meth0 PySem.F.plainAttrs_list PySem.F.slot_list_pop PySem.F.type_list_pop mt_pop lm_pop (dv 2)) (dg_tup rfl (dgs_cons (dg_name (i := 3) sc_law_same.nd) (dgs_cons (dg_name (i := 4) sc_law_same.nd) dgs_nil))))
  (dss_one (ds_if (dt_val (de_callB cr_isi lc_isi T.b_isinstance bt_isinstance (da_cons (dv 4) (da_cons (de_c (pe_bltn (v := .ty "tuple") (by rfl) T.b_tuple bt_tuple rfl) fun _ => rfl) da_nil))))
  (dss_cons (ds_if (DW.pt (dw_or (dt_not (dt_val (de_callB cr_isi lc_isi T.b_isinstance bt_isinstance (da_cons (dv 3) (da_cons (de_c (pe_bltn (v := .ty "tuple") (by rfl) T.b_tuple bt_tuple rfl) fun _ => rfl) da_nil))))) (dw_or1 (dt_cmp (op_neD (u64 hr)) l2_ne (de_callB call_len lc_len T.b_len bt_len (da_cons (dv 3) da_nil)) (de_callB call_len lc_len T.b_len bt_len (da_cons (dv 4) da_nil))))))
  (dss_one (ds_ret de_bl))
  dss_nil)
  (dss_one (ds_expr (de_meth PySem.F.plainAttrs_list PySem.F.slot_list_extend PySem.F.type_list_extend mt_extend lm_ext (dv 2) (da_cons (DF.frz (df_lc (c := (.nm 5)) (own := [("at", 5)]) rfl sc_law_same.nd (di_range1 T.b_range (da_cons (de_callB call_len lc_len T.b_len bt_len (da_cons (dv 4) da_nil)) da_nil)) (blkOk_by (own := [("at", 5)]) (N := N_law_same) (sc := defScope s_law_same) (by decide +kernel)) (by decide) (fun _ _ _ _ _ => pg_name (i := 5) sc_law_same.nd rfl (Or.inl rfl)) rfl (fun _ _ _ _ _ _ => (de_tup (da_cons (de_ix ix_seq l2_ix (dv 3) (dv 5)) (da_cons (de_ix ix_seq l2_ix (dv 4) (dv 5)) da_nil)))))) da_nil)))))
  (dss_one (ds_if (dt_val (de_callB cr_isi lc_isi T.b_isinstance bt_isinstance (da_cons (dv 4) (da_cons (de_c (pe_bltn (v := .ty "str") (by rfl) T.b_str bt_str rfl) fun _ => rfl) da_nil))))
  (dss_one (ds_if (DW.pt (dw_or (dt_not (dt_val (de_callB cr_isi lc_isi T.b_isinstance bt_isinstance (da_cons (dv 3) (da_cons (de_c (pe_bltn (v := .ty "str") (by rfl) T.b_str bt_str rfl) fun _ => rfl) da_nil))))) (dw_or1 (dt_cmp (op_neD (u64 hr)) l2_ne (dv 3) (dv 4)))))
  (dss_one (ds_ret de_bl))
  dss_nil))
  (dss_one (ds_if (DW.pt (dw_or (dt_val (de_callB cr_isi lc_isi T.b_isinstance bt_isinstance (da_cons (dv 3) (da_cons (de_c (pe_bltn (v := .ty "bool") (by rfl) T.b_bool bt_bool rfl) fun _ => rfl) da_nil)))) (dw_or (dt_not (dt_val (de_callB cr_isi lc_isi T.b_isinstance bt_isinstance (da_cons (dv 3) (da_cons (de_c (pe_bltn (v := .ty "int") (by rfl) T.b_int bt_int rfl) fun _ => rfl) da_nil))))) (dw_or1 (dt_cmp (op_neD (u64 hr)) l2_ne (dv 3) (dv 4))))))
  (dss_one (ds_ret de_bl))
  dss_nil)))))))))
  (dss_one (ds_ret de_bl))))
theorem cal_law_same {P : Program} {w : World} {K : PySem.W.Frag} {mg : Str → Option Value} {base : Heap} {m : Spec} {f : Addr} {fd : FuncData} (F : Fun K "_law_same" "_law_same" s_law_same f fd) (hf : mg "_law_same" = some (.ref f)) (T : Tx mg) (ok : SpecOk m) (hl : ∀ us M Q E, m us M Q E → us.length = 2)
    (hw : ∀ us M Q, m us M Q (fun _ _ => False) → W_law_same (fnEnds 0 0 Q (fun _ _ => False)) (slots N_law_same us) M) (hE : ∀ us M Q E, m us M Q E → m us M Q (fun _ _ => False) := by exact fun _ _ _ _ h => h) : Cal P w K mg base "_law_same" s_law_same 1 ["told", "due"] 0 0 m :=
  cal_mk F hf (F.binds (ps := ["told", "due"]) fun _ _ _ _ _ _ us hl => match us, hl with | [_, _], _ => rfl) sc_law_same ok hl (by decide) (fun _ _ _ _ _ _ hr => d_law_same T hr) hw hE
/-! _law_statement -/
abbrev N_law_statement : List Str := ["porch", "lead", "kinds", "boards", "zones", "passes", "lap", "members", "spot", "extras", "word", "ends", "at", "sign", "side"]
theorem sc_law_statement : FnScope N_law_statement ["porch"] (defScope s_law_statement) := ⟨rfl, rfl, rfl, by decide +kernel, rfl, by decide +kernel, by decide +kernel⟩
def W_law_statement (m_law_one m_law_sill : Spec) : WS := (wSeq (wAsg (wCall 1 1 m_law_one (wCons (wVar 0) (wCons (wTup (wCons (wC (.str (sg ""))) (wCons (wC (.str (sg "elevensigns"))) wNil))) wNil))) (gN 1))
  (wSeq (wAsg (wTup (wCons (wFrz (wLc (wItS (wC (.str (sg "kmn")))) (.nm 13) wYes (wBin fAdd (wVar 1) (wVar 13)) [13])) (wCons (wFrz (wLc (wItS (wC (.str (sg "bc")))) (.nm 13) wYes (wBin fAdd (wVar 1) (wVar 13)) [13])) (wCons (wFrz (wLst (wCons (wBin fAdd (wVar 1) (wC (.str (sg "x")))) (wCons (wBin fAdd (wVar 1) (wC (.str (sg "y")))) wNil)))) wNil)))) (gTupD 3 (gCons (gN 2) (gCons (gN 3) (gCons (gN 4) gNil)))))
  (wSeq (wAsg (wOwn (wLst wNil)) (gN 5))
  (wSeq (wFor (wRng1 (wCons (wIfE (wTst (wBin (fEq false) (wCall 1 1 m_law_sill (wCons (wVar 0) (wCons (wC (.int 11)) wNil))) (wC (.int 0)))) (wBin fAdd (wC (.int 10)) (wCall 1 1 m_law_sill (wCons (wVar 0) (wCons (wC (.int 3)) wNil)))) (wBin fAdd (wC (.int 1)) (wCall 1 1 m_law_sill (wCons (wVar 0) (wCons (wC (.int 3)) wNil))))) wNil)) (gN 6)
  (wTrim (wSeq (wAsg (wOwn (wLst wNil)) (gN 7))
  (wSeq (wFor (wRng1 (wCons (wBin fAdd (wC (.int 1)) (wCall 1 1 m_law_sill (wCons (wVar 0) (wCons (wC (.int 3)) wNil)))) wNil)) (gN 8)
  (wTrim (wDrop (wMeth "list" fApp (wVar 7) (wCons (wTup (wCons (wBin fIx (wTup (wCons (wC (.int 1)) (wCons (wC (.int 1)) (wCons (wC (.int 2)) (wCons (wC (.int 999999999)) wNil))))) (wCall 1 1 m_law_sill (wCons (wVar 0) (wCons (wC (.int 4)) wNil)))) (wCons (wCall 1 1 m_law_one (wCons (wVar 0) (wCons (wVar 2) wNil))) (wCons (wCall 1 1 m_law_one (wCons (wVar 0) (wCons (wFrz (wBinF fCat (wVar 2) (wFrz (wLst (wCons (wC (.str (sg ""))) (wCons (wC (.str (sg ""))) (wCons (wC (.str (sg ""))) wNil))))))) wNil))) wNil)))) wNil)))))
  (wSeq (wAsg (wOwn (wLst wNil)) (gN 9))
  (wSeq (wFor (wRng1 (wCons (wCall 1 1 m_law_sill (wCons (wVar 0) (wCons (wC (.int 4)) wNil))) wNil)) (gN 8)
  (wTrim (wSeq (wAsg (wCall 1 1 m_law_one (wCons (wVar 0) (wCons (wTup (wCons (wC (.str (sg "less"))) (wCons (wC (.str (sg "more"))) (wCons (wC (.str (sg "here"))) (wCons (wC (.str (sg "there"))) wNil))))) wNil))) (gN 10))
  (wDrop (wMeth "list" fApp (wVar 9) (wCons (wTup (wCons (wVar 10) (wCons (wBin fAdd (wC (.int 1)) (wCall 1 1 m_law_sill (wCons (wVar 0) (wCons (wC (.int 3)) wNil)))) (wCons (wCall 1 1 m_law_one (wCons (wVar 0) (wCons (wIfE (wTst (wBin (fIn false) (wVar 10) (wTup (wCons (wC (.str (sg "less"))) (wCons (wC (.str (sg "more"))) wNil))))) (wVar 3) (wVar 2)) wNil))) wNil)))) wNil))))))
  (wDrop (wMeth "list" fApp (wVar 5) (wCons (wTup (wCons (wCB fTuple (wCons (wVar 7) wNil)) (wCons (wCB fTuple (wCons (wVar 9) wNil)) wNil))) wNil)))))))))
  (wSeq (wAsg (wFrz (wLc (wRng1 (wCons (wC (.int 2)) wNil)) (.nm 14) wYes (wCall 1 1 m_law_one (wCons (wVar 0) (wCons (wFrz (wBinF fCat (wVar 4) (wFrz (wLst (wCons (wC (.str (sg "street"))) wNil))))) wNil))) [14])) (gN 11))
  (wSeq (wAsg (wCB fTuple (wCons (wFrz (wLc (wRng1 (wCons (wCall 1 1 m_law_sill (wCons (wVar 0) (wCons (wC (.int 3)) wNil))) wNil)) (.nm 6) wYes (wCall 1 1 m_law_one (wCons (wVar 0) (wCons (wTup (wCons (wC (.str (sg "h"))) (wCons (wC (.str (sg "day"))) wNil))) wNil))) [6])) wNil)) (gN 12))
  (wRet (wTup (wCons (wBin fIx (wTup (wCons (wC (.str (sg "door"))) (wCons (wC (.str (sg "way"))) wNil))) (wCall 1 1 m_law_sill (wCons (wVar 0) (wCons (wC (.int 2)) wNil)))) (wCons (wBin fAdd (wC (.int 1)) (wCall 1 1 m_law_sill (wCons (wVar 0) (wCons (wC (.int 300)) wNil)))) (wCons (wCall 1 1 m_law_one (wCons (wVar 0) (wCons (wTup (wCons (wC (.str (sg "d"))) (wCons (wC (.str (sg "w"))) (wCons (wC (.str (sg "elevensigns"))) wNil)))) wNil))) (wCons (wBin fIx (wVar 11) (wC (.int 0))) (wCons (wBin fIx (wVar 11) (wC (.int 1))) (wCons (wVar 12) (wCons (wCB fTuple (wCons (wVar 5) wNil)) wNil)))))))))))))))
theorem d_law_statement {P : Program} {w : World} {K : PySem.W.Frag} {mg : Str → Option Value} {base : Heap} {m_law_one m_law_sill : Spec} (T : Tx mg) (c_law_one : Cal P w K mg base "_law_one" s_law_one 2 ["porch", "row"] 1 1 m_law_one) (c_law_sill : Cal P w K mg base "_law_sill" s_law_sill 1 ["porch", "many"] 1 1 m_law_sill) {f : Addr} {cdv : Value} {A : Around} {outer : List Env} {s : Shared} {H : Hp} {E : XK} (hr : Room 2 (A.deeper (envOfC "_law_statement" (defScope s_law_statement) s.heap.objs.size f cdv))) :
    DSs (cxOf CX0 P w K mg base N_law_statement "_law_statement" (defScope s_law_statement) f cdv A outer s H E).nox 1 (defBody s_law_statement) (W_law_statement m_law_one m_law_sill) :=
  (dss_cons (ds_set (i := 1) sc_law_statement.nd (de_cal c_law_one (hr.mono (by decide)) (da_cons (dv 0) (da_cons (de_tup (da_cons de_str (da_cons de_str da_nil))) da_nil))))
  (dss_cons (ds_asg (de_tup (da_cons (DF.frz (df_lc (c := (.nm 13)) (own := [("sign", 13)]) rfl sc_law_statement.nd (di_str de_str) (blkOk_by (own := [("sign", 13)]) (N := N_law_statement) (sc := defScope s_law_statement) (by decide +kernel)) (by decide) (fun _ _ _ _ _ => pg_name (i := 13) sc_law_statement.nd rfl (Or.inl rfl)) rfl (fun _ _ _ _ _ _ => (de_op op_addG l2_add (dv 1) (dv 13))))) (da_cons (DF.frz (df_lc (c := (.nm 13)) (own := [("sign", 13)]) rfl sc_law_statement.nd (di_str de_str) (blkOk_by (own := [("sign", 13)]) (N := N_law_statement) (sc := defScope s_law_statement) (by decide +kernel)) (by decide) (fun _ _ _ _ _ => pg_name (i := 13) sc_law_statement.nd rfl (Or.inl rfl)) rfl (fun _ _ _ _ _ _ => (de_op op_addG l2_add (dv 1) (dv 13))))) (da_cons (DF.frz (df_lst (da_cons (de_op op_addG l2_add (dv 1) de_str) (da_cons (de_op op_addG l2_add (dv 1) de_str) da_nil)))) da_nil)))) (dg_tup rfl (dgs_cons (dg_name (i := 2) sc_law_statement.nd) (dgs_cons (dg_name (i := 3) sc_law_statement.nd) (dgs_cons (dg_name (i := 4) sc_law_statement.nd) dgs_nil)))))
  (dss_cons (ds_set (i := 5) sc_law_statement.nd (DF.own (df_lst da_nil)))
  (dss_cons (ds_for PassesOwn.never rfl (di_range1 T.b_range (da_cons (de_ifExp (dt_cmp (op_eqD (u64 hr)) l2_eq (de_cal c_law_sill (hr.mono (by decide)) (da_cons (dv 0) (da_cons de_int da_nil))) de_int) (de_op op_addG l2_add de_int (de_cal c_law_sill (hr.mono (by decide)) (da_cons (dv 0) (da_cons de_int da_nil)))) (de_op op_addG l2_add de_int (de_cal c_law_sill (hr.mono (by decide)) (da_cons (dv 0) (da_cons de_int da_nil))))) da_nil)) (dg_name (i := 6) sc_law_statement.nd)
  (dss_trim (dss_cons (ds_set (i := 7) sc_law_statement.nd (DF.own (df_lst da_nil)))
  (dss_cons (ds_for PassesOwn.never rfl (di_range1 T.b_range (da_cons (de_op op_addG l2_add de_int (de_cal c_law_sill (hr.mono (by decide)) (da_cons (dv 0) (da_cons de_int da_nil)))) da_nil)) (dg_name (i := 8) sc_law_statement.nd)
  (dss_trim (dss_one (ds_expr (de_meth PySem.F.plainAttrs_list PySem.F.slot_list_append PySem.F.type_list_append mt_append lm_app (dv 7) (da_cons (de_tup (da_cons (de_ix ix_seq l2_ix (de_tup (da_cons de_int (da_cons de_int (da_cons de_int (da_cons de_int da_nil))))) (de_cal c_law_sill (hr.mono (by decide)) (da_cons (dv 0) (da_cons de_int da_nil)))) (da_cons (de_cal c_law_one (hr.mono (by decide)) (da_cons (dv 0) (da_cons (dv 2) da_nil))) (da_cons (de_cal c_law_one (hr.mono (by decide)) (da_cons (dv 0) (da_cons (DF.frz (df_op op_cat l2_cat (dv 2) (DF.frz (df_lst (da_cons de_str (da_cons de_str (da_cons de_str da_nil))))))) da_nil))) da_nil)))) da_nil))))))
  (dss_cons (ds_set (i := 9) sc_law_statement.nd (DF.own (df_lst da_nil)))
  (dss_cons (ds_for PassesOwn.never rfl (di_range1 T.b_range (da_cons (de_cal c_law_sill (hr.mono (by decide)) (da_cons (dv 0) (da_cons de_int da_nil))) da_nil)) (dg_name (i := 8) sc_law_statement.nd)
  (dss_trim (dss_cons (ds_set (i := 10) sc_law_statement.nd (de_cal c_law_one (hr.mono (by decide)) (da_cons (dv 0) (da_cons (de_tup (da_cons de_str (da_cons de_str (da_cons de_str (da_cons de_str da_nil))))) da_nil))))
  (dss_one (ds_expr (de_meth PySem.F.plainAttrs_list PySem.F.slot_list_append PySem.F.type_list_append mt_append lm_app (dv 9) (da_cons (de_tup (da_cons (dv 10) (da_cons (de_op op_addG l2_add de_int (de_cal c_law_sill (hr.mono (by decide)) (da_cons (dv 0) (da_cons de_int da_nil)))) (da_cons (de_cal c_law_one (hr.mono (by decide)) (da_cons (dv 0) (da_cons (de_ifExp (dt_cmp op_inG (l2_inG false) (dv 10) (de_tup (da_cons de_str (da_cons de_str da_nil)))) (dv 3) (dv 2)) da_nil))) da_nil)))) da_nil)))))))
  (dss_one (ds_expr (de_meth PySem.F.plainAttrs_list PySem.F.slot_list_append PySem.F.type_list_append mt_append lm_app (dv 5) (da_cons (de_tup (da_cons (de_callTy call_tuple_of lc_tuple T.b_tuple bt_tuple (da_cons (dv 7) da_nil)) (da_cons (de_callTy call_tuple_of lc_tuple T.b_tuple bt_tuple (da_cons (dv 9) da_nil)) da_nil))) da_nil))))))))))
  (dss_cons (ds_setLc (i := 11) (c := (.nm 14)) (own := [("side", 14)]) false rfl sc_law_statement.nd (di_range1 T.b_range (da_cons de_int da_nil)) (blkOk_by (own := [("side", 14)]) (N := N_law_statement) (sc := defScope s_law_statement) (by decide +kernel)) (by decide) (sw_true rfl rfl rfl (by decide +kernel)) (fun _ _ _ _ _ => pg_name (i := 14) sc_law_statement.nd rfl (Or.inl rfl)) rfl (fun _ _ _ _ _ _ => (de_cal c_law_one (hr.mono (by decide)) (da_cons (dv 0) (da_cons (DF.frz (df_op op_cat l2_cat (dv 4) (DF.frz (df_lst (da_cons de_str da_nil))))) da_nil)))))
  (dss_cons (ds_set (i := 12) sc_law_statement.nd (de_callTy call_tuple_of lc_tuple T.b_tuple bt_tuple (da_cons (DF.frz (df_lc (c := (.nm 6)) (own := [("lap", 6)]) rfl sc_law_statement.nd (di_range1 T.b_range (da_cons (de_cal c_law_sill (hr.mono (by decide)) (da_cons (dv 0) (da_cons de_int da_nil))) da_nil)) (blkOk_by (own := [("lap", 6)]) (N := N_law_statement) (sc := defScope s_law_statement) (by decide +kernel)) (by decide) (fun _ _ _ _ _ => pg_name (i := 6) sc_law_statement.nd rfl (Or.inl rfl)) rfl (fun _ _ _ _ _ _ => (de_cal c_law_one (hr.mono (by decide)) (da_cons (dv 0) (da_cons (de_tup (da_cons de_str (da_cons de_str da_nil))) da_nil)))))) da_nil)))
  (dss_one (ds_ret (de_tup (da_cons (de_ix ix_seq l2_ix (de_tup (da_cons de_str (da_cons de_str da_nil))) (de_cal c_law_sill (hr.mono (by decide)) (da_cons (dv 0) (da_cons de_int da_nil)))) (da_cons (de_op op_addG l2_add de_int (de_cal c_law_sill (hr.mono (by decide)) (da_cons (dv 0) (da_cons de_int da_nil)))) (da_cons (de_cal c_law_one (hr.mono (by decide)) (da_cons (dv 0) (da_cons (de_tup (da_cons de_str (da_cons de_str (da_cons de_str da_nil)))) da_nil))) (da_cons (de_ix ix_seq l2_ix (dv 11) de_int) (da_cons (de_ix ix_seq l2_ix (dv 11) de_int) (da_cons (dv 12) (da_cons (de_callTy call_tuple_of lc_tuple T.b_tuple bt_tuple (da_cons (dv 5) da_nil)) da_nil))))))))))))))))
theorem cal_law_statement {P : Program} {w : World} {K : PySem.W.Frag} {mg : Str → Option Value} {base : Heap} {m m_law_one m_law_sill : Spec} {f : Addr} {fd : FuncData} (F : Fun K "_law_statement" "_law_statement" s_law_statement f fd) (hf : mg "_law_statement" = some (.ref f)) (T : Tx mg) (c_law_one : Cal P w K mg base "_law_one" s_law_one 2 ["porch", "row"] 1 1 m_law_one) (c_law_sill : Cal P w K mg base "_law_sill" s_law_sill 1 ["porch", "many"] 1 1 m_law_sill) (ok : SpecOk m) (hl : ∀ us M Q E, m us M Q E → us.length = 1)
    (hw : ∀ us M Q, m us M Q (fun _ _ => False) → W_law_statement m_law_one m_law_sill (fnEnds 1 1 Q (fun _ _ => False)) (slots N_law_statement us) M) (hE : ∀ us M Q E, m us M Q E → m us M Q (fun _ _ => False) := by exact fun _ _ _ _ h => h) : Cal P w K mg base "_law_statement" s_law_statement 3 ["porch"] 1 1 m :=
  cal_mk F hf (F.binds (ps := ["porch"]) fun _ _ _ _ _ _ us hl => match us, hl with | [_], _ => rfl) sc_law_statement ok hl (by decide) (fun _ _ _ _ _ _ hr => d_law_statement T c_law_one c_law_sill hr) hw hE
/-! _law_put -/
abbrev N_law_put : List Str := ["side", "place", "number"]
theorem sc_law_put : FnScope N_law_put ["side", "place", "number"] (defScope s_law_put) := ⟨rfl, rfl, rfl, by decide +kernel, rfl, by decide +kernel, by decide +kernel⟩
def W_law_put : WS := (wDPut (wVar 0) (wVar 1) (wBin fAdd (wIfE (wTst (wDIn false (wVar 1) (wVar 0))) (wDGet (wVar 0) (wVar 1)) (wC (.int 0))) (wVar 2)))
theorem d_law_put {P : Program} {w : World} {K : PySem.W.Frag} {mg : Str → Option Value} {base : Heap} (T : Tx mg) {f : Addr} {cdv : Value} {A : Around} {outer : List Env} {s : Shared} {H : Hp} {E : XK} (hr : Room 0 (A.deeper (envOfC "_law_put" (defScope s_law_put) s.heap.objs.size f cdv))) :
    DSs (cxOf CX0 P w K mg base N_law_put "_law_put" (defScope s_law_put) f cdv A outer s H E).nox 1 (defBody s_law_put) (W_law_put) :=
  (dss_one (ds_dput (u1 hr) (dv 0) (dv 1) (de_op op_addG l2_add (de_ifExp (dt_din (u1 hr) (dv 1) (dv 0)) (de_dget (u1 hr) (dv 0) (dv 1)) de_int) (dv 2))))
theorem cal_law_put {P : Program} {w : World} {K : PySem.W.Frag} {mg : Str → Option Value} {base : Heap} {m : Spec} {f : Addr} {fd : FuncData} (F : Fun K "_law_put" "_law_put" s_law_put f fd) (hf : mg "_law_put" = some (.ref f)) (T : Tx mg) (ok : SpecOk m) (hl : ∀ us M Q E, m us M Q E → us.length = 3)
    (hw : ∀ us M Q, m us M Q (fun _ _ => False) → W_law_put (fnEnds 1 1 Q (fun _ _ => False)) (slots N_law_put us) M) (hE : ∀ us M Q E, m us M Q E → m us M Q (fun _ _ => False) := by exact fun _ _ _ _ h => h) : Cal P w K mg base "_law_put" s_law_put 1 ["side", "place", "number"] 1 1 m :=
  cal_mk F hf (F.binds (ps := ["side", "place", "number"]) fun _ _ _ _ _ _ us hl => match us, hl with | [_, _, _], _ => rfl) sc_law_put ok hl (by decide) (fun _ _ _ _ _ _ hr => d_law_put T hr) hw hE
/-! _law_side -/
abbrev N_law_side : List Str := ["side", "place"]
theorem sc_law_side : FnScope N_law_side ["side"] (defScope s_law_side) := ⟨rfl, rfl, rfl, by decide +kernel, rfl, by decide +kernel, by decide +kernel⟩
def W_law_side : WS := (wRet (wCB fTuple (wCons (wFrz (wLc (wIt (wFrz (wCBF fSorted (wCons (wVar 0) wNil)))) (.nm 1) wYes (wTup (wCons (wVar 1) (wCons (wDGet (wVar 0) (wVar 1)) wNil))) [1])) wNil)))
theorem d_law_side {P : Program} {w : World} {K : PySem.W.Frag} {mg : Str → Option Value} {base : Heap} (T : Tx mg) {f : Addr} {cdv : Value} {A : Around} {outer : List Env} {s : Shared} {H : Hp} {E : XK} (hr : Room 0 (A.deeper (envOfC "_law_side" (defScope s_law_side) s.heap.objs.size f cdv))) :
    DSs (cxOf CX0 P w K mg base N_law_side "_law_side" (defScope s_law_side) f cdv A outer s H E).nox 1 (defBody s_law_side) (W_law_side) :=
  (dss_one (ds_ret (de_callTy call_tuple_of lc_tuple T.b_tuple bt_tuple (da_cons (DF.frz (df_lc (c := (.nm 1)) (own := [("place", 1)]) rfl sc_law_side.nd (di_seq (DF.frz (df_callB (cr_sorted2 (u70 hr) rfl) lc_sorted T.b_sorted bt_sorted (da_cons (dv 0) da_nil)))) (blkOk_by (own := [("place", 1)]) (N := N_law_side) (sc := defScope s_law_side) (by decide +kernel)) (by decide) (fun _ _ _ _ _ => pg_name (i := 1) sc_law_side.nd rfl (Or.inl rfl)) rfl (fun _ _ _ _ _ _ => (de_tup (da_cons (dv 1) (da_cons (de_dget (u1 hr) (dv 0) (dv 1)) da_nil)))))) da_nil))))
theorem cal_law_side {P : Program} {w : World} {K : PySem.W.Frag} {mg : Str → Option Value} {base : Heap} {m : Spec} {f : Addr} {fd : FuncData} (F : Fun K "_law_side" "_law_side" s_law_side f fd) (hf : mg "_law_side" = some (.ref f)) (T : Tx mg) (ok : SpecOk m) (hl : ∀ us M Q E, m us M Q E → us.length = 1)
    (hw : ∀ us M Q, m us M Q (fun _ _ => False) → W_law_side (fnEnds 1 1 Q (fun _ _ => False)) (slots N_law_side us) M) (hE : ∀ us M Q E, m us M Q E → m us M Q (fun _ _ => False) := by exact fun _ _ _ _ h => h) : Cal P w K mg base "_law_side" s_law_side 1 ["side"] 1 1 m :=
  cal_mk F hf (F.binds (ps := ["side"]) fun _ _ _ _ _ _ us hl => match us, hl with | [_], _ => rfl) sc_law_side ok hl (by decide) (fun _ _ _ _ _ _ hr => d_law_side T hr) hw hE
/-! _law_deeds -/
abbrev N_law_deeds : List Str := ["statement", "word", "line", "name", "start", "end", "at", "passes", "told", "number", "members", "extras", "back", "takes", "gives", "many", "kind", "other", "what", "thing"]
theorem sc_law_deeds : FnScope N_law_deeds ["statement"] (defScope s_law_deeds) := ⟨rfl, rfl, rfl, by decide +kernel, rfl, by decide +kernel, by decide +kernel⟩
def W_law_deeds (m_law_put m_law_side : Spec) : WS := (wSeq (wAsg (wVar 0) (gTupD 7 (gCons (gN 1) (gCons (gN 2) (gCons (gN 3) (gCons (gN 4) (gCons (gN 5) (gCons (gN 6) (gCons (gN 7) gNil)))))))))
  (wSeq (wAsg (wOwn (wLst wNil)) (gN 8))
  (wSeq (wFor (wRng1 (wCons (wCB fLen (wCons (wVar 7) wNil)) wNil)) (gN 9)
  (wTrim (wSeq (wAsg (wBin fIx (wVar 7) (wVar 9)) (gTupD 2 (gCons (gN 10) (gCons (gN 11) gNil))))
  (wFor (wIt (wSl fSl (wTup (wCons (wC (.bl false)) (wCons (wC (.bl true)) wNil))) wNoP (wPart (wBin fAdd (wC (.int 1)) (wCB fInt (wCons (wBin (fEq false) (wVar 1) (wC (.str (sg "way")))) wNil)))))) (gN 12)
  (wTrim (wSeq (wPar 13 14 (wCons (wOwn (wDNew true)) (wCons (wOwn (wDNew true)) wNil)))
  (wSeq (wFor (wIt (wVar 10)) (gTupD 3 (gCons (gN 15) (gCons (gN 16) (gCons (gN 17) gNil))))
  (wTrim (wSeq (wAsg (wIfE (wTst (wBin (fEq false) (wVar 17) (wC (.str (sg ""))))) (wVar 16) (wVar 17)) (gN 17))
  (wSeq (wIf (wTst (wBin (fEq true) (wVar 4) (wC (.str (sg "street")))))
  (wDrop (wCallI m_law_put (wCons (wIfE (wTst (wVar 12)) (wVar 14) (wVar 13)) (wCons (wTup (wCons (wVar 16) (wCons (wVar 4) wNil))) (wCons (wVar 15) wNil)))))
  wSkip)
  (wIf (wTst (wBin (fEq true) (wVar 5) (wC (.str (sg "street")))))
  (wDrop (wCallI m_law_put (wCons (wIfE (wTst (wVar 12)) (wVar 13) (wVar 14)) (wCons (wTup (wCons (wVar 17) (wCons (wVar 5) wNil))) (wCons (wVar 15) wNil)))))
  wSkip)))))
  (wSeq (wFor (wIt (wVar 11)) (gTupD 3 (gCons (gN 18) (gCons (gN 15) (gCons (gN 19) gNil))))
  (wTrim (wIf (wTst (wBin (fIn false) (wVar 18) (wTup (wCons (wC (.str (sg "less"))) (wCons (wC (.str (sg "more"))) wNil)))))
  (wDrop (wCallI m_law_put (wCons (wIfE (wTst (wBin (fEq true) (wBin (fEq false) (wVar 18) (wC (.str (sg "less")))) (wVar 12))) (wVar 13) (wVar 14)) (wCons (wTup (wCons (wVar 19) (wCons (wC (.str (sg ""))) wNil))) (wCons (wVar 15) wNil)))))
  (wSeq (wDrop (wCallI m_law_put (wCons (wVar 13) (wCons (wTup (wCons (wVar 19) (wCons (wIfE (wTst (wBin (fEq false) (wVar 18) (wC (.str (sg "here"))))) (wVar 4) (wVar 5)) wNil))) (wCons (wVar 15) wNil)))))
  (wDrop (wCallI m_law_put (wCons (wVar 14) (wCons (wTup (wCons (wVar 19) (wCons (wIfE (wTst (wBin (fEq false) (wVar 18) (wC (.str (sg "here"))))) (wVar 4) (wVar 5)) wNil))) (wCons (wVar 15) wNil)))))))))
  (wDrop (wMeth "list" fApp (wVar 8) (wCons (wTup (wCons (wBin fAdd (wBin fAdd (wVar 3) (wCB fStr (wCons (wBin fAdd (wVar 9) (wC (.int 1))) wNil))) (wIfE (wTst (wBin (fEq false) (wVar 1) (wC (.str (sg "door"))))) (wC (.str (sg ""))) (wIfE (wTst (wVar 12)) (wC (.str (sg "b"))) (wC (.str (sg "f")))))) (wCons (wVar 6) (wCons (wCallI m_law_side (wCons (wVar 13) wNil)) (wCons (wCallI m_law_side (wCons (wVar 14) wNil)) wNil))))) wNil)))))))))))
  (wRet (wCB fTuple (wCons (wVar 8) wNil))))))
theorem d_law_deeds {P : Program} {w : World} {K : PySem.W.Frag} {mg : Str → Option Value} {base : Heap} {m_law_put m_law_side : Spec} (T : Tx mg) (c_law_put : Cal P w K mg base "_law_put" s_law_put 1 ["side", "place", "number"] 1 1 m_law_put) (c_law_side : Cal P w K mg base "_law_side" s_law_side 1 ["side"] 1 1 m_law_side) {f : Addr} {cdv : Value} {A : Around} {outer : List Env} {s : Shared} {H : Hp} {E : XK} (hr : Room 1 (A.deeper (envOfC "_law_deeds" (defScope s_law_deeds) s.heap.objs.size f cdv))) :
    DSs (cxOf CX0 P w K mg base N_law_deeds "_law_deeds" (defScope s_law_deeds) f cdv A outer s H E).nox 0 (defBody s_law_deeds) (W_law_deeds m_law_put m_law_side) :=
  (dss_cons (ds_asg (dv 0) (dg_tup rfl (dgs_cons (dg_name (i := 1) sc_law_deeds.nd) (dgs_cons (dg_name (i := 2) sc_law_deeds.nd) (dgs_cons (dg_name (i := 3) sc_law_deeds.nd) (dgs_cons (dg_name (i := 4) sc_law_deeds.nd) (dgs_cons (dg_name (i := 5) sc_law_deeds.nd) (dgs_cons (dg_name (i := 6) sc_law_deeds.nd) (dgs_cons (dg_name (i := 7) sc_law_deeds.nd) dgs_nil)))))))))
  (dss_cons (ds_set (i := 8) sc_law_deeds.nd (DF.own (df_lst da_nil)))
  (dss_cons (ds_for PassesOwn.never rfl (di_range1 T.b_range (da_cons (de_callB call_len lc_len T.b_len bt_len (da_cons (dv 7) da_nil)) da_nil)) (dg_name (i := 9) sc_law_deeds.nd)
  (dss_trim (dss_cons (ds_asg (de_ix ix_seq l2_ix (dv 7) (dv 9)) (dg_tup rfl (dgs_cons (dg_name (i := 10) sc_law_deeds.nd) (dgs_cons (dg_name (i := 11) sc_law_deeds.nd) dgs_nil))))
  (dss_one (ds_for PassesOwn.never rfl (di_seq (de_slice (de_tup (da_cons de_bl (da_cons de_bl da_nil))) do_none (do_some (de_op op_addG l2_add de_int (de_callTy call_int1 lc_int T.b_int bt_int (da_cons (de_cmp (op_eqD (u64 hr)) l2_eq (dv 1) de_str) da_nil)))))) (dg_name (i := 12) sc_law_deeds.nd)
  (dss_trim (dss_cons (ds_par (i := 13) (j := 14) rfl sc_law_deeds.nd (da_cons (DF.own df_dnewT) (da_cons (DF.own df_dnewT) da_nil)))
  (dss_cons (ds_for PassesOwn.never rfl (di_seq (dv 10)) (dg_tup rfl (dgs_cons (dg_name (i := 15) sc_law_deeds.nd) (dgs_cons (dg_name (i := 16) sc_law_deeds.nd) (dgs_cons (dg_name (i := 17) sc_law_deeds.nd) dgs_nil))))
  (dss_trim (dss_cons (ds_set (i := 17) sc_law_deeds.nd (de_ifExp (dt_cmp (op_eqD (u64 hr)) l2_eq (dv 17) de_str) (dv 16) (dv 17)))
  (dss_cons (ds_if (dt_cmp (op_neD (u64 hr)) l2_ne (dv 4) de_str)
  (dss_one (ds_expr (de_calI c_law_put (hr.mono (by decide)) (da_cons (de_ifExp (dt_val (dv 12)) (dv 14) (dv 13)) (da_cons (de_tup (da_cons (dv 16) (da_cons (dv 4) da_nil))) (da_cons (dv 15) da_nil))))))
  dss_nil)
  (dss_one (ds_if (dt_cmp (op_neD (u64 hr)) l2_ne (dv 5) de_str)
  (dss_one (ds_expr (de_calI c_law_put (hr.mono (by decide)) (da_cons (de_ifExp (dt_val (dv 12)) (dv 13) (dv 14)) (da_cons (de_tup (da_cons (dv 17) (da_cons (dv 5) da_nil))) (da_cons (dv 15) da_nil))))))
  dss_nil))))))
  (dss_cons (ds_for PassesOwn.never rfl (di_seq (dv 11)) (dg_tup rfl (dgs_cons (dg_name (i := 18) sc_law_deeds.nd) (dgs_cons (dg_name (i := 15) sc_law_deeds.nd) (dgs_cons (dg_name (i := 19) sc_law_deeds.nd) dgs_nil))))
  (dss_trim (dss_one (ds_if (dt_cmp op_inG (l2_inG false) (dv 18) (de_tup (da_cons de_str (da_cons de_str da_nil))))
  (dss_one (ds_expr (de_calI c_law_put (hr.mono (by decide)) (da_cons (de_ifExp (dt_cmp (op_neD (u64 hr)) l2_ne (de_cmp (op_eqD (u64 hr)) l2_eq (dv 18) de_str) (dv 12)) (dv 13) (dv 14)) (da_cons (de_tup (da_cons (dv 19) (da_cons de_str da_nil))) (da_cons (dv 15) da_nil))))))
  (dss_cons (ds_expr (de_calI c_law_put (hr.mono (by decide)) (da_cons (dv 13) (da_cons (de_tup (da_cons (dv 19) (da_cons (de_ifExp (dt_cmp (op_eqD (u64 hr)) l2_eq (dv 18) de_str) (dv 4) (dv 5)) da_nil))) (da_cons (dv 15) da_nil)))))
  (dss_one (ds_expr (de_calI c_law_put (hr.mono (by decide)) (da_cons (dv 14) (da_cons (de_tup (da_cons (dv 19) (da_cons (de_ifExp (dt_cmp (op_eqD (u64 hr)) l2_eq (dv 18) de_str) (dv 4) (dv 5)) da_nil))) (da_cons (dv 15) da_nil)))))))))))
  (dss_one (ds_expr (de_meth PySem.F.plainAttrs_list PySem.F.slot_list_append PySem.F.type_list_append mt_append lm_app (dv 8) (da_cons (de_tup (da_cons (de_op op_addG l2_add (de_op op_addG l2_add (dv 3) (de_callTy call_str_int lc_str T.b_str bt_str (da_cons (de_op op_addG l2_add (dv 9) de_int) da_nil))) (de_ifExp (dt_cmp (op_eqD (u64 hr)) l2_eq (dv 1) de_str) de_str (de_ifExp (dt_val (dv 12)) de_str de_str))) (da_cons (dv 6) (da_cons (de_calI c_law_side (hr.mono (by decide)) (da_cons (dv 13) da_nil)) (da_cons (de_calI c_law_side (hr.mono (by decide)) (da_cons (dv 14) da_nil)) da_nil))))) da_nil)))))))))))))
  (dss_one (ds_ret (de_callTy call_tuple_of lc_tuple T.b_tuple bt_tuple (da_cons (dv 8) da_nil)))))))
theorem cal_law_deeds {P : Program} {w : World} {K : PySem.W.Frag} {mg : Str → Option Value} {base : Heap} {m m_law_put m_law_side : Spec} {f : Addr} {fd : FuncData} (F : Fun K "_law_deeds" "_law_deeds" s_law_deeds f fd) (hf : mg "_law_deeds" = some (.ref f)) (T : Tx mg) (c_law_put : Cal P w K mg base "_law_put" s_law_put 1 ["side", "place", "number"] 1 1 m_law_put) (c_law_side : Cal P w K mg base "_law_side" s_law_side 1 ["side"] 1 1 m_law_side) (ok : SpecOk m) (hl : ∀ us M Q E, m us M Q E → us.length = 1)
    (hw : ∀ us M Q, m us M Q (fun _ _ => False) → W_law_deeds m_law_put m_law_side (fnEnds 0 0 Q (fun _ _ => False)) (slots N_law_deeds us) M) (hE : ∀ us M Q E, m us M Q E → m us M Q (fun _ _ => False) := by exact fun _ _ _ _ h => h) : Cal P w K mg base "_law_deeds" s_law_deeds 2 ["statement"] 0 0 m :=
  cal_mk F hf (F.binds (ps := ["statement"]) fun _ _ _ _ _ _ us hl => match us, hl with | [_], _ => rfl) sc_law_deeds ok hl (by decide) (fun _ _ _ _ _ _ hr => d_law_deeds T c_law_put c_law_side hr) hw hE
/-! law -/
abbrev N_law : List Str := ["script", "porch", "lap", "statement", "passes", "due", "told"]
theorem sc_law : FnScope N_law ["script"] (defScope s_law) := ⟨rfl, rfl, rfl, by decide +kernel, rfl, by decide +kernel, by decide +kernel⟩
def W_law (m_law_porch m_law_statement m_law_same m_law_deeds m_pass_deeds : Spec) : WS := (wSeq (wAsg (wCall 0 1 m_law_porch (wCons (wVar 0) wNil)) (gN 1))
  (wSeq (wFor (wRng1 (wCons (wC (.int 6)) wNil)) (gN 2)
  (wTrim (wSeq (wAsg (wCall 1 1 m_law_statement (wCons (wVar 1) wNil)) (gN 3))
  (wIf (wNot (wTst (wCall 0 0 m_law_same (wCons (wCallK 0 0 m_pass_deeds [0] wNil (wCons (wVar 3) wNil)) (wCons (wCall 0 0 m_law_deeds (wCons (wVar 3) wNil)) wNil)))))
  (wRet (wC (.bl false)))
  wSkip))))
  (wSeq (wAsg (wTup (wCons (wTup (wCons (wTup (wCons (wC (.int 2)) (wCons (wC (.str (sg "a"))) (wCons (wC (.str (sg ""))) wNil)))) (wCons (wTup (wCons (wC (.int 1)) (wCons (wC (.str (sg "a"))) (wCons (wC (.str (sg "b"))) wNil)))) wNil))) (wCons (wTup (wCons (wTup (wCons (wC (.str (sg "here"))) (wCons (wC (.int 1)) (wCons (wC (.str (sg "a"))) wNil)))) (wCons (wTup (wCons (wC (.str (sg "less"))) (wCons (wC (.int 1)) (wCons (wC (.str (sg "r"))) wNil)))) (wCons (wTup (wCons (wC (.str (sg "more"))) (wCons (wC (.int 2)) (wCons (wC (.str (sg "r"))) wNil)))) wNil)))) wNil))) (gN 4))
  (wSeq (wAsg (wTup (wCons (wTup (wCons (wC (.str (sg "d1"))) (wCons (wTup (wCons (wC (.str (sg "h"))) wNil)) (wCons (wTup (wCons (wTup (wCons (wTup (wCons (wC (.str (sg "a"))) (wCons (wC (.str (sg "x"))) wNil))) (wCons (wC (.int 4)) wNil))) (wCons (wTup (wCons (wTup (wCons (wC (.str (sg "r"))) (wCons (wC (.str (sg ""))) wNil))) (wCons (wC (.int 1)) wNil))) wNil))) (wCons (wTup (wCons (wTup (wCons (wTup (wCons (wC (.str (sg "a"))) (wCons (wC (.str (sg "x"))) wNil))) (wCons (wC (.int 1)) wNil))) (wCons (wTup (wCons (wTup (wCons (wC (.str (sg "a"))) (wCons (wC (.str (sg "y"))) wNil))) (wCons (wC (.int 2)) wNil))) (wCons (wTup (wCons (wTup (wCons (wC (.str (sg "b"))) (wCons (wC (.str (sg "y"))) wNil))) (wCons (wC (.int 1)) wNil))) (wCons (wTup (wCons (wTup (wCons (wC (.str (sg "r"))) (wCons (wC (.str (sg ""))) wNil))) (wCons (wC (.int 2)) wNil))) wNil))))) wNil))))) wNil)) (gN 5))
  (wSeq (wIf (wNot (wTst (wCall 0 0 m_law_same (wCons (wCall 0 0 m_pass_deeds (wCons (wTup (wCons (wC (.str (sg "door"))) (wCons (wC (.int 4)) (wCons (wC (.str (sg "d"))) (wCons (wC (.str (sg "x"))) (wCons (wC (.str (sg "y"))) (wCons (wTup (wCons (wC (.str (sg "h"))) wNil)) (wCons (wTup (wCons (wVar 4) wNil)) wNil)))))))) wNil)) (wCons (wVar 5) wNil)))))
  (wRet (wC (.bl false)))
  wSkip)
  (wSeq (wAsg (wTup (wCons (wTup (wCons (wC (.str (sg "d1f"))) (wCons (wTup wNil) (wCons (wTup wNil) (wCons (wTup (wCons (wTup (wCons (wTup (wCons (wC (.str (sg "a"))) (wCons (wC (.str (sg "y"))) wNil))) (wCons (wC (.int 2)) wNil))) (wCons (wTup (wCons (wTup (wCons (wC (.str (sg "b"))) (wCons (wC (.str (sg "y"))) wNil))) (wCons (wC (.int 1)) wNil))) wNil))) wNil))))) (wCons (wTup (wCons (wC (.str (sg "d1b"))) (wCons (wTup wNil) (wCons (wTup (wCons (wTup (wCons (wTup (wCons (wC (.str (sg "a"))) (wCons (wC (.str (sg "y"))) wNil))) (wCons (wC (.int 2)) wNil))) (wCons (wTup (wCons (wTup (wCons (wC (.str (sg "b"))) (wCons (wC (.str (sg "y"))) wNil))) (wCons (wC (.int 1)) wNil))) wNil))) (wCons (wTup wNil) wNil))))) wNil))) (gN 5))
  (wSeq (wIf (wNot (wTst (wCall 0 0 m_law_same (wCons (wCall 0 0 m_pass_deeds (wCons (wTup (wCons (wC (.str (sg "way"))) (wCons (wC (.int 4)) (wCons (wC (.str (sg "d"))) (wCons (wC (.str (sg "street"))) (wCons (wC (.str (sg "y"))) (wCons (wTup wNil) (wCons (wTup (wCons (wTup (wCons (wBin fIx (wVar 4) (wC (.int 0))) (wCons (wTup wNil) wNil))) wNil)) wNil)))))))) wNil)) (wCons (wVar 5) wNil)))))
  (wRet (wC (.bl false)))
  wSkip)
  (wSeq (wAsg (wCall 0 0 m_pass_deeds (wCons (wTup (wCons (wC (.str (sg "way"))) (wCons (wC (.int 4)) (wCons (wC (.str (sg "d"))) (wCons (wC (.str (sg "street"))) (wCons (wC (.str (sg "street"))) (wCons (wTup wNil) (wCons (wTup (wCons (wTup (wCons (wTup (wCons (wTup (wCons (wC (.int 1)) (wCons (wC (.str (sg "a"))) (wCons (wC (.str (sg ""))) wNil)))) wNil)) (wCons (wTup (wCons (wTup (wCons (wC (.str (sg "more"))) (wCons (wC (.int 3)) (wCons (wC (.str (sg "r"))) wNil)))) wNil)) wNil))) (wCons (wTup (wCons (wTup (wCons (wTup (wCons (wC (.int 1)) (wCons (wC (.str (sg "a"))) (wCons (wC (.str (sg ""))) wNil)))) wNil)) (wCons (wTup wNil) wNil))) wNil))) wNil)))))))) wNil)) (gN 6))
  (wRet (wCall 0 0 m_law_same (wCons (wVar 6) (wCons (wTup (wCons (wTup (wCons (wC (.str (sg "d1f"))) (wCons (wTup wNil) (wCons (wTup wNil) (wCons (wTup (wCons (wTup (wCons (wTup (wCons (wC (.str (sg "r"))) (wCons (wC (.str (sg ""))) wNil))) (wCons (wC (.int 3)) wNil))) wNil)) wNil))))) (wCons (wTup (wCons (wC (.str (sg "d1b"))) (wCons (wTup wNil) (wCons (wTup (wCons (wTup (wCons (wTup (wCons (wC (.str (sg "r"))) (wCons (wC (.str (sg ""))) wNil))) (wCons (wC (.int 3)) wNil))) wNil)) (wCons (wTup wNil) wNil))))) (wCons (wTup (wCons (wC (.str (sg "d2f"))) (wCons (wTup wNil) (wCons (wTup wNil) (wCons (wTup wNil) wNil))))) (wCons (wTup (wCons (wC (.str (sg "d2b"))) (wCons (wTup wNil) (wCons (wTup wNil) (wCons (wTup wNil) wNil))))) wNil))))) wNil))))))))))))
theorem d_law {P : Program} {w : World} {K : PySem.W.Frag} {mg : Str → Option Value} {base : Heap} {m_law_porch m_law_statement m_law_same m_law_deeds m_pass_deeds : Spec} (T : Tx mg) (c_law_porch : Cal P w K mg base "_law_porch" s_law_porch 1 ["script"] 0 1 m_law_porch) (c_law_statement : Cal P w K mg base "_law_statement" s_law_statement 3 ["porch"] 1 1 m_law_statement) (c_law_same : Cal P w K mg base "_law_same" s_law_same 1 ["told", "due"] 0 0 m_law_same) (c_law_deeds : Cal P w K mg base "_law_deeds" s_law_deeds 2 ["statement"] 0 0 m_law_deeds) (c_pass_deeds : Cal P w K mg base "pass_deeds" s_pass_deeds 2 ["statement"] 0 0 m_pass_deeds) {f : Addr} {cdv : Value} {A : Around} {outer : List Env} {s : Shared} {H : Hp} {E : XK} (hr : Room 3 (A.deeper (envOfC "law" (defScope s_law) s.heap.objs.size f cdv))) :
    DSs (cxOf CX0 P w K mg base N_law "law" (defScope s_law) f cdv A outer s H E).nox 0 (defBody s_law) (W_law m_law_porch m_law_statement m_law_same m_law_deeds m_pass_deeds) :=
  (dss_cons (ds_set (i := 1) sc_law.nd (de_cal c_law_porch (hr.mono (by decide)) (da_cons (dv 0) da_nil)))
  (dss_cons (ds_for PassesOwn.never rfl (di_range1 T.b_range (da_cons de_int da_nil)) (dg_name (i := 2) sc_law.nd)
  (dss_trim (dss_cons (ds_set (i := 3) sc_law.nd (de_cal c_law_statement (hr.mono (by decide)) (da_cons (dv 1) da_nil)))
  (dss_one (ds_if (dt_not (dt_val (de_cal c_law_same (hr.mono (by decide)) (da_cons (de_calK0 (π := [0]) (ks := ["statement"]) c_pass_deeds (fun f fd F => by obtain ⟨oc, od, kV, doc, pm, an, cdv, ct, osl, rfl, lk, hcd⟩ := F.ex; exact ⟨fun s us ws h1 h2 => match us, ws, h1, h2 with | [], [_], _, _ => .of_eq rfl⟩) (hr.mono (by decide)) (dk_cons (dv 3) dk_nil)) (da_cons (de_cal c_law_deeds (hr.mono (by decide)) (da_cons (dv 3) da_nil)) da_nil)))))
  (dss_one (ds_ret de_bl))
  dss_nil)))))
  (dss_cons (ds_set (i := 4) sc_law.nd (de_tup (da_cons (de_tup (da_cons (de_tup (da_cons de_int (da_cons de_str (da_cons de_str da_nil)))) (da_cons (de_tup (da_cons de_int (da_cons de_str (da_cons de_str da_nil)))) da_nil))) (da_cons (de_tup (da_cons (de_tup (da_cons de_str (da_cons de_int (da_cons de_str da_nil)))) (da_cons (de_tup (da_cons de_str (da_cons de_int (da_cons de_str da_nil)))) (da_cons (de_tup (da_cons de_str (da_cons de_int (da_cons de_str da_nil)))) da_nil)))) da_nil))))
  (dss_cons (ds_set (i := 5) sc_law.nd (de_tup (da_cons (de_tup (da_cons de_str (da_cons (de_tup (da_cons de_str da_nil)) (da_cons (de_tup (da_cons (de_tup (da_cons (de_tup (da_cons de_str (da_cons de_str da_nil))) (da_cons de_int da_nil))) (da_cons (de_tup (da_cons (de_tup (da_cons de_str (da_cons de_str da_nil))) (da_cons de_int da_nil))) da_nil))) (da_cons (de_tup (da_cons (de_tup (da_cons (de_tup (da_cons de_str (da_cons de_str da_nil))) (da_cons de_int da_nil))) (da_cons (de_tup (da_cons (de_tup (da_cons de_str (da_cons de_str da_nil))) (da_cons de_int da_nil))) (da_cons (de_tup (da_cons (de_tup (da_cons de_str (da_cons de_str da_nil))) (da_cons de_int da_nil))) (da_cons (de_tup (da_cons (de_tup (da_cons de_str (da_cons de_str da_nil))) (da_cons de_int da_nil))) da_nil))))) da_nil))))) da_nil)))
  (dss_cons (ds_if (dt_not (dt_val (de_cal c_law_same (hr.mono (by decide)) (da_cons (de_cal c_pass_deeds (hr.mono (by decide)) (da_cons (de_tup (da_cons de_str (da_cons de_int (da_cons de_str (da_cons de_str (da_cons de_str (da_cons (de_tup (da_cons de_str da_nil)) (da_cons (de_tup (da_cons (dv 4) da_nil)) da_nil)))))))) da_nil)) (da_cons (dv 5) da_nil)))))
  (dss_one (ds_ret de_bl))
  dss_nil)
  (dss_cons (ds_set (i := 5) sc_law.nd (de_tup (da_cons (de_tup (da_cons de_str (da_cons (de_tup da_nil) (da_cons (de_tup da_nil) (da_cons (de_tup (da_cons (de_tup (da_cons (de_tup (da_cons de_str (da_cons de_str da_nil))) (da_cons de_int da_nil))) (da_cons (de_tup (da_cons (de_tup (da_cons de_str (da_cons de_str da_nil))) (da_cons de_int da_nil))) da_nil))) da_nil))))) (da_cons (de_tup (da_cons de_str (da_cons (de_tup da_nil) (da_cons (de_tup (da_cons (de_tup (da_cons (de_tup (da_cons de_str (da_cons de_str da_nil))) (da_cons de_int da_nil))) (da_cons (de_tup (da_cons (de_tup (da_cons de_str (da_cons de_str da_nil))) (da_cons de_int da_nil))) da_nil))) (da_cons (de_tup da_nil) da_nil))))) da_nil))))
  (dss_cons (ds_if (dt_not (dt_val (de_cal c_law_same (hr.mono (by decide)) (da_cons (de_cal c_pass_deeds (hr.mono (by decide)) (da_cons (de_tup (da_cons de_str (da_cons de_int (da_cons de_str (da_cons de_str (da_cons de_str (da_cons (de_tup da_nil) (da_cons (de_tup (da_cons (de_tup (da_cons (de_ix ix_seq l2_ix (dv 4) de_int) (da_cons (de_tup da_nil) da_nil))) da_nil)) da_nil)))))))) da_nil)) (da_cons (dv 5) da_nil)))))
  (dss_one (ds_ret de_bl))
  dss_nil)
  (dss_cons (ds_set (i := 6) sc_law.nd (de_cal c_pass_deeds (hr.mono (by decide)) (da_cons (de_tup (da_cons de_str (da_cons de_int (da_cons de_str (da_cons de_str (da_cons de_str (da_cons (de_tup da_nil) (da_cons (de_tup (da_cons (de_tup (da_cons (de_tup (da_cons (de_tup (da_cons de_int (da_cons de_str (da_cons de_str da_nil)))) da_nil)) (da_cons (de_tup (da_cons (de_tup (da_cons de_str (da_cons de_int (da_cons de_str da_nil)))) da_nil)) da_nil))) (da_cons (de_tup (da_cons (de_tup (da_cons (de_tup (da_cons de_int (da_cons de_str (da_cons de_str da_nil)))) da_nil)) (da_cons (de_tup da_nil) da_nil))) da_nil))) da_nil)))))))) da_nil)))
  (dss_one (ds_ret (de_cal c_law_same (hr.mono (by decide)) (da_cons (dv 6) (da_cons (de_tup (da_cons (de_tup (da_cons de_str (da_cons (de_tup da_nil) (da_cons (de_tup da_nil) (da_cons (de_tup (da_cons (de_tup (da_cons (de_tup (da_cons de_str (da_cons de_str da_nil))) (da_cons de_int da_nil))) da_nil)) da_nil))))) (da_cons (de_tup (da_cons de_str (da_cons (de_tup da_nil) (da_cons (de_tup (da_cons (de_tup (da_cons (de_tup (da_cons de_str (da_cons de_str da_nil))) (da_cons de_int da_nil))) da_nil)) (da_cons (de_tup da_nil) da_nil))))) (da_cons (de_tup (da_cons de_str (da_cons (de_tup da_nil) (da_cons (de_tup da_nil) (da_cons (de_tup da_nil) da_nil))))) (da_cons (de_tup (da_cons de_str (da_cons (de_tup da_nil) (da_cons (de_tup da_nil) (da_cons (de_tup da_nil) da_nil))))) da_nil))))) da_nil)))))))))))))
theorem cal_law {P : Program} {w : World} {K : PySem.W.Frag} {mg : Str → Option Value} {base : Heap} {m m_law_porch m_law_statement m_law_same m_law_deeds m_pass_deeds : Spec} {f : Addr} {fd : FuncData} (F : Fun K "law" "law" s_law f fd) (hf : mg "law" = some (.ref f)) (T : Tx mg) (c_law_porch : Cal P w K mg base "_law_porch" s_law_porch 1 ["script"] 0 1 m_law_porch) (c_law_statement : Cal P w K mg base "_law_statement" s_law_statement 3 ["porch"] 1 1 m_law_statement) (c_law_same : Cal P w K mg base "_law_same" s_law_same 1 ["told", "due"] 0 0 m_law_same) (c_law_deeds : Cal P w K mg base "_law_deeds" s_law_deeds 2 ["statement"] 0 0 m_law_deeds) (c_pass_deeds : Cal P w K mg base "pass_deeds" s_pass_deeds 2 ["statement"] 0 0 m_pass_deeds) (ok : SpecOk m) (hl : ∀ us M Q E, m us M Q E → us.length = 1)
    (hw : ∀ us M Q, m us M Q (fun _ _ => False) → W_law m_law_porch m_law_statement m_law_same m_law_deeds m_pass_deeds (fnEnds 0 0 Q (fun _ _ => False)) (slots N_law us) M) (hE : ∀ us M Q E, m us M Q E → m us M Q (fun _ _ => False) := by exact fun _ _ _ _ h => h) : Cal P w K mg base "law" s_law 4 ["script"] 0 0 m :=
  cal_mk F hf (F.binds (ps := ["script"]) fun _ _ _ _ _ _ us hl => match us, hl with | [_], _ => rfl) sc_law ok hl (by decide) (fun _ _ _ _ _ _ hr => d_law T c_law_porch c_law_statement c_law_same c_law_deeds c_pass_deeds hr) hw hE
/-! ### the porch -/
def Por (c : Nat) (M : List MO) : Prop := ∃ (s n : Int) (cells : List D), M = [.lst [.int s, .int n, .lst cells]] ∧ 0 ≤ s ∧ s < 63001 ∧ 0 ≤ n ∧ n ≤ c ∧ cells ≠ [] ∧ ∀ x ∈ cells, ∃ i : Int, x = .int i ∧ 0 ≤ i ∧ i < 63001
theorem Por.up {c d : Nat} {M : List MO} (h : Por c M) (hd : c ≤ d) : Por d M := by
  obtain ⟨s, n, cells, e, a, b, c', d', r⟩ := h
  exact ⟨s, n, cells, e, a, b, c', by omega, r⟩
def m_porch : Spec := fun us M Q _ => ∃ ns : List Int, us = [.d (.scr (ns.map .int))] ∧ ns.length ≤ 63 ∧ M = [] ∧ ∀ M', Por 0 M' → Q (.r 0) M'
theorem m_porch_w : ∀ us M Q, m_porch us M Q (fun _ _ => False) → W_law_porch (fnEnds 0 1 Q (fun _ _ => False)) (slots N_law_porch us) M := by
  rintro us M Q ⟨ns, rfl, hn, rfl, hQ⟩
  unfold W_law_porch
  repeat walk_at "w"
  refine lc_inv D.int (fun xs acc M => M = [] ∧ acc.length + xs.length ≤ 63 ∧ ∀ x ∈ acc, ∃ i : Int, x = .int i ∧ 0 ≤ i ∧ i < 63001) ?_ ?_ ns [] _ ⟨rfl, by simpa using hn, by simp⟩
  · rintro acc M ⟨rfl, hl, ha⟩
    have hz : acc.length ≤ 63 := by simpa using hl
    have hc : ∀ x ∈ acc ++ [D.int 157], ∃ i : Int, x = .int i ∧ 0 ≤ i ∧ i < 63001 := by
      intro x hx
      rcases List.mem_append.mp hx with h | h
      · exact ha x h
      · exact ⟨157, by simpa using h, by decide, by decide⟩
    repeat walk_at "w"
    refine x_cat rfl rfl (sze (by simp; omega)) ?_
    repeat walk_at "w"
    obtain ⟨is, his, hib⟩ : ∃ is : List Int, acc ++ [D.int 157] = is.map D.int ∧ ∀ i ∈ is, 0 ≤ i ∧ i < 63001 := by
      clear hQ hz hl ha
      generalize acc ++ [D.int 157] = l at hc ⊢
      induction l with
      | nil => exact ⟨[], rfl, by simp⟩
      | cons x l ih =>
        obtain ⟨is, e, h⟩ := ih fun y hy => hc y (List.mem_cons_of_mem _ hy)
        obtain ⟨i, rfl, i0, i1⟩ := hc _ List.mem_cons_self
        exact ⟨i :: is, by rw [e]; rfl, by
          intro j hj
          rcases List.mem_cons.mp hj with rfl | hj
          · exact ⟨i0, i1⟩
          · exact h j hj⟩
    have hne : acc ++ [D.int 157] ≠ [] := by simp
    generalize acc ++ [D.int 157] = cells at *
    subst his
    refine for_inv D.int (fun xs δ M => M = [] ∧ (∀ i ∈ xs, 0 ≤ i ∧ i < 63001) ∧ ∃ (x0 x3 : Option U) (s : Int), δ = [x0, some (.d (.lst (is.map D.int))), some (.d (.int s)), x3] ∧ 0 ≤ s ∧ s < 63001) ?_ ?_ is _ _ ⟨rfl, hib, _, _, _, rfl, by decide, by decide⟩
    · rintro δ M ⟨rfl, _, x0, x3, s, rfl, s0, s1⟩
      repeat walk_at "w"
      exact hQ _ ⟨s, 0, _, rfl, s0, s1, by decide, by decide, hne, hc⟩
    · rintro x xs δ M Kn ⟨rfl, hx, x0, x3, s, rfl, s0, s1⟩ hK
      obtain ⟨b0, b1⟩ := hx x List.mem_cons_self
      repeat walk_at "w"
      exact trm_l (hK _ _ ⟨rfl, fun i hi => hx i (List.mem_cons_of_mem _ hi), _, _, _, rfl, Int.emod_nonneg _ (by decide), Int.emod_lt_of_pos _ (by decide)⟩)
  · rintro x xs acc M Kn ⟨rfl, hl, ha⟩ hK
    have hl : acc.length + (xs.length + 1) ≤ 63 := hl
    show _
    unfold CT.set
    repeat walk_at "w"
    refine ⟨_, rfl, sz (by omega), hK _ _ ⟨rfl, by simp; omega, ?_⟩⟩
    intro y hy
    rcases List.mem_append.mp hy with h | h
    · exact ha y h
    · have : y = .int (x % 63001) := by simpa using h
      exact ⟨_, this, Int.emod_nonneg _ (by decide), Int.emod_lt_of_pos _ (by decide)⟩
def m_sill : Spec := fun us M Q _ => ∃ (many : Int) (c : Nat), us = [.r 0, .d (.int many)] ∧ many ≤ 1000000 ∧ c ≤ 1000000 ∧ Por c M ∧ ∀ (v : Int) M', 0 ≤ v → v < max 1 many → Por (c + 1) M' → Q (.d (.int v)) M'
theorem m_sill_w : ∀ us M Q, m_sill us M Q (fun _ _ => False) → W_law_sill (fnEnds 1 1 Q (fun _ _ => False)) (slots N_law_sill us) M := by
  rintro us M Q ⟨many, c, rfl, hm, hc, ⟨s, n, cells, rfl, s0, s1, n0, n1, ce, ch⟩, hQ⟩
  have hl : 0 < cells.length := List.length_pos_iff.mpr ce
  have i0 : 0 ≤ (n + 1) % (cells.length : Int) := Int.emod_nonneg _ (by omega)
  have i1 : (n + 1) % (cells.length : Int) < cells.length := Int.emod_lt_of_pos _ (by omega)
  obtain ⟨x, hx, hx2⟩ := atI_nn (xs := cells) i0 i1
  obtain ⟨y, rfl, y0, y1⟩ := ch x (List.mem_of_getElem? hx2)
  have p1 : (0 : Int) < if many > 1 then many else 1 := by split <;> omega
  unfold W_law_sill
  repeat walk_at "w"
  refine x_ixL hx ?_
  repeat walk_at "w"
  refine hQ _ _ (Int.emod_nonneg _ (by omega)) ?_ ?_
  · refine Int.lt_of_lt_of_le (Int.emod_lt_of_pos _ p1) ?_
    split <;> omega
  · exact ⟨_, _, _, rfl, Int.emod_nonneg _ (by decide), Int.emod_lt_of_pos _ (by decide), by omega, by omega, ce, ch⟩
/-- one of a row -/
def m_one : Spec := fun us M Q _ => ∃ (row : U) (ds : List D) (c : Nat), us = [.r 0, row] ∧ dataSeq row = some ds ∧ ds ≠ [] ∧ ds.length ≤ 1000000 ∧ c ≤ 1000000 ∧ Por c M ∧ ∀ d M', d ∈ ds → Por (c + 1) M' → Q (.d d) M'
theorem seq_items {M : List MO} {row : U} {ds : List D} (h : dataSeq row = some ds) : itemsOf M row = some (ds.map .d) ∧ (∀ s, row ≠ .d (.str s)) ∧ ∀ Q : UK, Q (.d (.int ds.length)) M → fLen [row] M Q := by
  cases row with
  | r n => cases h
  | d x =>
    cases x with
    | tup es => cases h; exact ⟨rfl, nofun, fun Q q => x_lenT q⟩
    | lst es => cases h; exact ⟨rfl, nofun, fun Q q => x_lenL q⟩
    | scr es => cases h; exact ⟨rfl, nofun, fun Q q => x_lenC q⟩
    | _ => cases h
theorem seq_closed {row : U} {ds : List D} (h : dataSeq row = some ds) : closedU 1 row = true := by
  cases row with
  | r n => cases h
  | d x => rfl
theorem m_one_w : ∀ us M Q, m_one us M Q (fun _ _ => False) → W_law_one m_sill (fnEnds 1 1 Q (fun _ _ => False)) (slots N_law_one us) M := by
  rintro us M Q ⟨row, ds, c, rfl, hd, hne, hz, hc, hp, hQ⟩
  have hl : 0 < ds.length := List.length_pos_iff.mpr hne
  unfold W_law_one
  repeat walk_at "w"
  refine (seq_items hd).2.2 _ ?_
  have hp' := hp
  obtain ⟨s, n, cells, rfl, r⟩ := hp
  repeat walk_at "w"
  refine ⟨_, c, rfl, by omega, hc, ⟨s, n, cells, rfl, r⟩, fun v M' v0 v1 hp1 => ?_⟩
  obtain ⟨x, hx, hx2⟩ := atI_nn (xs := ds) v0 (by omega)
  have hp2 := hp1
  obtain ⟨s', n', cells', rfl, r'⟩ := hp1
  refine x_ixD (seq_items (M := []) hd).2.1 ((seq_items hd).1) hx ?_
  repeat walk_at "w"
  exact hQ _ _ (List.mem_of_getElem? hx2) hp2
/-! ### the same -/
mutual
def okD : D → Bool
  | .int _ => true
  | .str _ => true
  | .tup ds => okDs ds
  | _ => false
def okDs : List D → Bool
  | [] => true
  | d :: ds => okD d && okDs ds
end
mutual
def szD : D → Nat
  | .tup ds => 1 + szDs ds
  | _ => 1
def szDs : List D → Nat
  | [] => 0
  | d :: ds => szD d + szDs ds
end
theorem szD_pos (d : D) : 0 < szD d := by cases d <;> (unfold szD; omega)
theorem okDs_all : ∀ {ds : List D}, okDs ds = true → ∀ d ∈ ds, okD d = true
  | [], _, d, h => by cases h
  | x :: ds, h, d, hd => by
    unfold okDs at h
    rw [Bool.and_eq_true] at h
    rcases List.mem_cons.mp hd with rfl | hd
    · exact h.1
    · exact okDs_all h.2 d hd
theorem szDs_app : ∀ (a b : List D), szDs (a ++ b) = szDs a + szDs b
  | [], b => by show szDs b = szDs [] + szDs b; unfold szDs; omega
  | x :: a, b => by
    show szDs (x :: (a ++ b)) = _
    rw [szDs, szDs_app a b, szDs]; omega
theorem szDs_len : ∀ a : List D, a.length ≤ szDs a
  | [] => by simp
  | x :: a => by
    have := szDs_len a
    have := szD_pos x
    rw [szDs, List.length_cons]; omega
abbrev pr2 (x : D) : D := .tup [x, x]
def m_same : Spec := fun us M Q _ => ∃ x : D, us = [.d x, .d x] ∧ okD x = true ∧ szD x ≤ 1000000 ∧ M = [] ∧ Q (.d (.bl true)) []
theorem m_same_w : ∀ us M Q, m_same us M Q (fun _ _ => False) → W_law_same (fnEnds 0 0 Q (fun _ _ => False)) (slots N_law_same us) M := by
  rintro us M Q ⟨t, rfl, hok, hsz, rfl, hQ⟩
  unfold W_law_same
  repeat walk_at "w"
  refine while_inv (fun n δ M => ∃ (x3 x4 x5 : Option U) (xs : List D), δ = [some (.d t), some (.d t), some (.r 0), x3, x4, x5] ∧ M = [.lst (xs.map pr2)] ∧ (∀ x ∈ xs, okD x = true) ∧ szDs xs ≤ n ∧ n ≤ 1000000) ?_ 1000000 _ _ ⟨_, _, _, [t], rfl, rfl, by simpa using hok, by simp [szDs]; exact hsz, by decide⟩
  rintro n δ M Kn ⟨x3, x4, x5, xs, rfl, rfl, hx, hn, hb⟩ hK
  repeat walk_at "w"
  rcases List.eq_nil_or_concat xs with rfl | ⟨ys, x, rfl⟩
  · refine cndF rfl ?_
    repeat walk_at "w"
    exact hQ
  · rw [List.concat_eq_append] at hx hn ⊢
    have hox : okD x = true := hx x (by simp)
    have hys : ∀ y ∈ ys, okD y = true := fun y hy => hx y (by simp [hy])
    rw [szDs_app] at hn
    have hsx : szDs [x] = szD x := by simp [szDs]
    refine cndT (by simp) ?_
    repeat walk_at "w"
    refine x_pop rfl (p := (.d (pr2 x), .lst (ys.map pr2))) ?_ ?_
    · show (((ys ++ [x]).map pr2)[((ys ++ [x]).map pr2).length - 1]?).map _ = _
      simp
    repeat walk_at "w"
    cases x with
    | tup ds =>
      have hds : okDs ds = true := by unfold okD at hox; exact hox
      have hsd : szD (.tup ds) = 1 + szDs ds := by rw [szD]
      have hl := szDs_len ds
      have hl2 := szDs_len ys
      refine x_isi rfl rfl ?_
      repeat walk_at "w"
      refine cndT rfl ?_
      repeat walk_at "w"
      refine x_isi rfl rfl ?_
      repeat walk_at "w"
      refine cndF rfl ?_
      repeat walk_at "w"
      refine cndF (by simp [eqD]) ?_
      repeat walk_at "w"
      refine lc_rng (fun i acc M => M = [.lst (ys.map pr2)] ∧ acc = (ds.take i).map pr2) ?_ ?_ [] _ ⟨rfl, rfl⟩
      · rintro acc M ⟨rfl, rfl⟩
        have e : ds.take ((ds.length : Int).toNat) = ds := by simp
        rw [e]
        repeat walk_at "w"
        refine trm_l (hK (szDs (ys ++ ds)) _ _ ?_ ⟨_, _, _, ys ++ ds, rfl, ?_, ?_, Nat.le_refl _, ?_⟩)
        · rw [szDs_app]; omega
        · rw [List.map_append]; rfl
        · intro y hy
          rcases List.mem_append.mp hy with h | h
          · exact hys y h
          · exact okDs_all hds y h
        · rw [szDs_app]; omega
      · rintro i acc M Kn' hi ⟨rfl, rfl⟩ hK'
        have hi : i < ds.length := by simpa using hi
        have e1 : atI ds (i : Int) = some ds[i] := by
          unfold atI ixN
          rw [if_pos (by omega), if_pos (by omega)]
          simp
        unfold CT.set
        repeat walk_at "w"
        refine x_ixT e1 ?_
        repeat walk_at "w"
        refine x_ixT e1 ?_
        repeat walk_at "w"
        refine ⟨_, rfl, sz (by simp; omega), hK' _ _ ⟨rfl, ?_⟩⟩
        rw [List.take_succ, List.map_append, List.getElem?_eq_getElem hi]
        rfl
    | str s =>
      have hs1 : szD (.str s) = 1 := by rw [szD]; intro _ h; cases h
      refine x_isi rfl rfl ?_
      repeat walk_at "w"
      refine cndF rfl ?_
      repeat walk_at "w"
      refine x_isi rfl rfl ?_
      repeat walk_at "w"
      refine cndT rfl ?_
      repeat walk_at "w"
      refine x_isi rfl rfl ?_
      repeat walk_at "w"
      refine cndF rfl ?_
      repeat walk_at "w"
      refine cndF (by simp [eqD]) ?_
      repeat walk_at "w"
      exact trm_l (hK (szDs ys) _ _ (by omega) ⟨_, _, _, ys, rfl, rfl, hys, Nat.le_refl _, by omega⟩)
    | int i =>
      have hs1 : szD (.int i) = 1 := by rw [szD]; intro _ h; cases h
      refine x_isi rfl rfl ?_
      repeat walk_at "w"
      refine cndF rfl ?_
      repeat walk_at "w"
      refine x_isi rfl rfl ?_
      repeat walk_at "w"
      refine cndF rfl ?_
      repeat walk_at "w"
      refine x_isi rfl rfl ?_
      repeat walk_at "w"
      refine cndF rfl ?_
      repeat walk_at "w"
      refine x_isi rfl rfl ?_
      repeat walk_at "w"
      refine cndF rfl ?_
      repeat walk_at "w"
      refine cndF (by simp [eqD]) ?_
      repeat walk_at "w"
      exact trm_l (hK (szDs ys) _ _ (by omega) ⟨_, _, _, ys, rfl, rfl, hys, Nat.le_refl _, by omega⟩)
    | _ => unfold okD at hox; cases hox
/-! ### tables by place -/
abbrev Ky := List Nat × List Nat
abbrev Tb := List (Ky × Int)
def encK (k : Ky) : D := .tup [.str k.1, .str k.2]
def encPr (p : Ky × Int) : D := .tup [encK p.1, .int p.2]
def encT (t : Tb) : List (D × D) := t.map fun p => (encK p.1, .int p.2)
theorem eqD_encK (a b : Ky) : eqD (encK a) (encK b) = decide (a = b) := by
  obtain ⟨a1, a2⟩ := a
  obtain ⟨b1, b2⟩ := b
  unfold encK
  simp only [eqD, eqDs, Bool.and_true, Prod.mk.injEq, Bool.decide_and]
  by_cases h1 : a1 = b1 <;> by_cases h2 : a2 = b2 <;> simp [h1, h2]
def getT (t : Tb) (k : Ky) : Option Int := (t.find? fun p => decide (p.1 = k)).map (·.2)
def putT (t : Tb) (k : Ky) (v : Int) : Tb := if t.any (fun p => decide (p.1 = k)) then t.map (fun p => if p.1 = k then (p.1, v) else p) else t ++ [(k, v)]
def addT (t : Tb) (p : Ky × Int) : Tb := putT t p.1 ((getT t p.1).getD 0 + p.2)
theorem asc_enc (t : Tb) (k : Ky) : asc (encT t) (encK k) = (getT t k).map .int := by
  unfold asc getT encT
  rw [List.find?_map]
  have : ((fun p : D × D => eqD p.1 (encK k)) ∘ fun p : Ky × Int => (encK p.1, D.int p.2)) = fun p : Ky × Int => decide (p.1 = k) := by
    funext p; exact eqD_encK p.1 k
  rw [this]
  cases t.find? fun p => decide (p.1 = k) <;> rfl
theorem put_enc (t : Tb) (k : Ky) (v : Int) : putA (encT t) (encK k) (.int v) = encT (putT t k v) := by
  unfold putA putT
  have : (encT t).any (fun p => eqD p.1 (encK k)) = t.any (fun p => decide (p.1 = k)) := by
    unfold encT; rw [List.any_map]; congr 1; funext p; exact eqD_encK p.1 k
  rw [this]
  split
  · unfold encT
    rw [List.map_map, List.map_map]
    congr 1
    funext p
    show (if eqD (encK p.1) (encK k) = true then (encK p.1, D.int v) else (encK p.1, D.int p.2)) = _
    rw [eqD_encK]
    by_cases h : p.1 = k
    · simp [h]
    · simp [h]
  · unfold encT; rw [List.map_append]; rfl
theorem putT_len (t : Tb) (k : Ky) (v : Int) : (putT t k v).length ≤ t.length + 1 := by
  unfold putT
  split
  · simp
  · simp
theorem encT_len (t : Tb) : (encT t).length = t.length := List.length_map _
def keysT (t : Tb) : List D := t.map fun p => encK p.1
theorem encT_keys (t : Tb) : (encT t).map (·.1) = keysT t := by unfold encT keysT; rw [List.map_map]; rfl
def sideD (t : Tb) : D := .tup ((sortD (keysT t)).map fun k => .tup [k, (asc (encT t) k).getD .non])
theorem key_asc {t : Tb} {k : D} (h : k ∈ keysT t) : ∃ (y : Ky) (v : Int), k = encK y ∧ asc (encT t) k = some (.int v) := by
  unfold keysT at h
  obtain ⟨p, hp, rfl⟩ := List.mem_map.mp h
  refine ⟨p.1, ?_⟩
  rw [asc_enc]
  unfold getT
  cases q : t.find? (fun p' => decide (p'.1 = p.1)) with
  | none =>
    have := List.find?_eq_none.mp q p hp
    simp at this
  | some z => exact ⟨z.2, rfl, rfl⟩
theorem mem_sortD {ds : List D} {k : D} : k ∈ sortD ds ↔ k ∈ ds := List.mem_mergeSort
theorem len_sortD (ds : List D) : (sortD ds).length = ds.length := List.length_mergeSort ds
theorem sortOk_keys (t : Tb) : SortOk (keysT t) := by
  have key : ∀ d ∈ keysT t, ∃ y : Ky, d = encK y := fun d hd => by
    obtain ⟨p, _, rfl⟩ := List.mem_map.mp hd
    exact ⟨p.1, rfl⟩
  refine ⟨?_, .inl ?_, ?_⟩
  · intro d hd d' hd'
    obtain ⟨x, hx, rfl⟩ := List.mem_map.mp hd
    obtain ⟨y, hy, rfl⟩ := List.mem_map.mp hd'
    obtain ⟨a, rfl⟩ := key x hx
    obtain ⟨b, rfl⟩ := key y hy
    rfl
  · intro d hd
    obtain ⟨x, hx, rfl⟩ := List.mem_map.mp hd
    obtain ⟨a, rfl⟩ := key x hx
    exact ⟨_, _, rfl⟩
  · rw [List.all_eq_true]
    intro d hd
    obtain ⟨a, rfl⟩ := key d hd
    rfl
theorem okDs_of {ds : List D} (h : ∀ d ∈ ds, okD d = true) : okDs ds = true := by
  induction ds with
  | nil => unfold okDs; rfl
  | cons d ds ih =>
    unfold okDs
    rw [h d List.mem_cons_self, ih fun x hx => h x (List.mem_cons_of_mem _ hx)]
    rfl
theorem szDs_of {ds : List D} {n : Nat} (h : ∀ d ∈ ds, szD d ≤ n) : szDs ds ≤ n * ds.length := by
  induction ds with
  | nil => unfold szDs; omega
  | cons d ds ih =>
    have a := h d List.mem_cons_self
    have b := ih fun x hx => h x (List.mem_cons_of_mem _ hx)
    rw [szDs, List.length_cons, Nat.mul_succ]; omega
theorem szD_encK (k : Ky) : szD (encK k) = 3 := by simp [encK, szD, szDs]
theorem okD_encK (k : Ky) : okD (encK k) = true := by simp [encK, okD, okDs]
theorem side_ok (t : Tb) : okD (sideD t) = true ∧ szD (sideD t) ≤ 1 + 5 * t.length := by
  have each : ∀ d ∈ (sortD (keysT t)).map (fun k => D.tup [k, (asc (encT t) k).getD .non]), okD d = true ∧ szD d ≤ 5 := by
    intro d hd
    obtain ⟨k, hk, rfl⟩ := List.mem_map.mp hd
    obtain ⟨y, v, rfl, e⟩ := key_asc (mem_sortD.mp hk)
    rw [e]
    constructor
    · simp [okD, okDs, okD_encK]
    · simp [szD, szDs, szD_encK]
  constructor
  · unfold sideD okD
    exact okDs_of fun d hd => (each d hd).1
  · have := szDs_of fun d hd => (each d hd).2
    rw [List.length_map, len_sortD] at this
    unfold sideD
    rw [szD]
    have e : (keysT t).length = t.length := List.length_map _
    omega
def m_put : Spec := fun us M Q _ => ∃ (t : Tb) (k : Ky) (n : Int), us = [.r 0, .d (encK k), .d (.int n)] ∧ M = [.dct true (encT t)] ∧ t.length ≤ 1000000 ∧ Q (.d .non) [.dct true (encT (addT t (k, n)))]
theorem keyOk_encK (k : Ky) : keyOk true (encK k) = true := rfl
theorem m_put_w : ∀ us M Q, m_put us M Q (fun _ _ => False) → W_law_put (fnEnds 1 1 Q (fun _ _ => False)) (slots N_law_put us) M := by
  rintro us M Q ⟨t, k, n, rfl, rfl, hz, hQ⟩
  unfold W_law_put
  repeat walk_at "w"
  refine ⟨true, _, _, rfl, rfl, keyOk_encK k, ?_⟩
  repeat walk_at "w"
  have fin : ∀ v : Int, v = (getT t k).getD 0 + n → Q (.d .non) [.dct true (putA (encT t) (encK k) (.int v))] := by
    intro v e
    rw [put_enc, e]; exact hQ
  rw [asc_enc]
  cases q : getT t k with
  | none =>
    refine cndF rfl ?_
    repeat walk_at "w"
    refine ⟨0, true, _, _, _, rfl, rfl, rfl, rfl, keyOk_encK k, sz (by rw [encT_len]; exact hz), ?_⟩
    repeat walk_at "w"
    exact fin _ (by rw [q]; rfl)
  | some v =>
    refine cndT rfl ?_
    repeat walk_at "w"
    refine ⟨true, _, _, .int v, rfl, rfl, keyOk_encK k, by rw [asc_enc, q]; rfl, ?_⟩
    repeat walk_at "w"
    refine ⟨0, true, _, _, _, rfl, rfl, rfl, rfl, keyOk_encK k, sz (by rw [encT_len]; exact hz), ?_⟩
    repeat walk_at "w"
    exact fin _ (by rw [q]; rfl)
def m_side : Spec := fun us M Q _ => ∃ (t : Tb), us = [.r 0] ∧ M = [.dct true (encT t)] ∧ t.length ≤ 1000000 ∧ Q (.d (sideD t)) M
theorem srt_of {M : List MO} {n : Nat} {t : Tb} (h : M[n]? = some (.dct true (encT t))) : srtOf M (.r n) = some (keysT t) := by
  unfold srtOf
  have e1 : lstOf M (.r n) = none := by show mlst M[n]? = _; rw [h]; rfl
  have e2 : dctOf M (.r n) = some (true, encT t) := by show mdct M[n]? = _; rw [h]; rfl
  rw [e1]
  show (match dctOf M (.r n) with | some (true, kv) => some (kv.map fun p : D × D => p.1) | _ => none) = _
  rw [e2]
  exact congrArg some (encT_keys t)
theorem m_side_w : ∀ us M Q, m_side us M Q (fun _ _ => False) → W_law_side (fnEnds 1 1 Q (fun _ _ => False)) (slots N_law_side us) M := by
  rintro us M Q ⟨t, rfl, rfl, hz, hQ⟩
  unfold W_law_side
  repeat walk_at "w"
  refine x_sorted (srt_of rfl) (sortOk_keys t) ?_
  repeat walk_at "w"
  have hl : (sortD (keysT t)).length ≤ 1000000 := by rw [len_sortD]; unfold keysT; rw [List.length_map]; exact hz
  rw [← List.map_id (sortD (keysT t))]
  refine lc_inv id (fun xs acc M => M = [.dct true (encT t)] ∧ (∀ k ∈ xs, k ∈ keysT t) ∧ acc.length + xs.length ≤ 1000000 ∧ acc ++ xs.map (fun k => .tup [k, (asc (encT t) k).getD .non]) = (sortD (keysT t)).map fun k => .tup [k, (asc (encT t) k).getD .non]) ?_ ?_ (sortD (keysT t)) [] _ ⟨rfl, fun k hk => mem_sortD.mp hk, by simpa using hl, rfl⟩
  · rintro acc M ⟨rfl, _, _, e⟩
    have e : acc = _ := (List.append_nil acc).symm.trans e
    subst e
    repeat walk_at "w"
    exact hQ
  · rintro x xs acc M Kn ⟨rfl, hx, hl, e⟩ hK
    have hl : acc.length + (xs.length + 1) ≤ 1000000 := hl
    obtain ⟨y, v, rfl, ea⟩ := key_asc (hx x List.mem_cons_self)
    unfold CT.set
    repeat walk_at "w"
    refine ⟨true, _, _, .int v, rfl, rfl, keyOk_encK y, ea, ?_⟩
    repeat walk_at "w"
    refine ⟨_, rfl, sz (by omega), hK _ _ ⟨rfl, fun k hk => hx k (List.mem_cons_of_mem _ hk), by simp; omega, ?_⟩⟩
    rw [← e, List.append_assoc]
    have e5 : (D.tup [encK y, (asc (encT t) (encK y)).getD D.non]) = .tup [encK y, .int v] := by rw [ea]; rfl
    show acc ++ ([D.tup [encK y, .int v]] ++ _) = acc ++ (D.tup [encK y, (asc (encT t) (encK y)).getD D.non] :: _)
    rw [e5]; rfl
/-! ### passes and deeds -/
abbrev Mem := Int × List Nat × List Nat
abbrev Ex := List Nat × Int × List Nat
def encM (m : Mem) : D := .tup [.int m.1, .str m.2.1, .str m.2.2]
def encX (x : Ex) : D := .tup [.str x.1, .int x.2.1, .str x.2.2]
def memOf (zone : List Nat) (turned : Bool) (m : Mem) : Ky × Int := ((if turned && !eqD (.str m.2.2) (.str (sg "")) then m.2.2 else m.2.1, zone), m.1)
def memAt (ms : List Mem) (zone : List Nat) (turned : Bool) : List (Ky × Int) := if eqD (.str zone) (.str (sg "street")) then [] else ms.map (memOf zone turned)
def extOf (word first last : List Nat) (x : Ex) : List (Ky × Int) :=
  if eqD (.str x.1) (.str word) then [((x.2.2, sg ""), x.2.1)] else if eqD (.str x.1) (.str (sg "here")) then [((x.2.2, first), x.2.1)] else if eqD (.str x.1) (.str (sg "there")) then [((x.2.2, last), x.2.1)] else []
def extAt (xs : List Ex) (word first last : List Nat) : List (Ky × Int) := xs.flatMap (extOf word first last)
def m_members : Spec := fun us M Q _ => ∃ (ms : List Mem) (zone : List Nat) (turned : Bool), us = [.d (.tup (ms.map encM)), .d (.str zone), .d (.bl turned)] ∧ ms.length ≤ 1000 ∧ M = [] ∧ Q (.d (.lst ((memAt ms zone turned).map encPr))) []
theorem m_members_w : ∀ us M Q, m_members us M Q (fun _ _ => False) → W_members_at (fnEnds 0 0 Q (fun _ _ => False)) (slots N_members_at us) M := by
  rintro us M Q ⟨ms, zone, turned, rfl, hl, rfl, hQ⟩
  unfold W_members_at
  unfold memAt at hQ
  repeat walk_at "w"
  cases hz : eqD (.str zone) (.str (sg "street")) with
  | true =>
    rw [hz] at hQ
    repeat walk_at "w"
    exact hQ
  | false =>
    rw [hz] at hQ
    repeat walk_at "w"
    refine for_inv encM (fun xs δ M => ∃ (x4 x5 x6 x7 : Option U) (acc : List D), δ = [some (.d (.tup (ms.map encM))), some (.d (.str zone)), some (.d (.bl turned)), some (.r 0), x4, x5, x6, x7] ∧ M = [.lst acc] ∧ acc.length + xs.length ≤ 1000 ∧ acc ++ (xs.map (memOf zone turned)).map encPr = (ms.map (memOf zone turned)).map encPr) ?_ ?_ ms _ _ ⟨_, _, _, _, [], rfl, rfl, by simpa using hl, rfl⟩
    · rintro δ M ⟨x4, x5, x6, x7, acc, rfl, rfl, _, e⟩
      have e : acc = _ := (List.append_nil acc).symm.trans e
      subst e
      repeat walk_at "w"
      exact hQ
    · rintro x xs δ M Kn ⟨x4, x5, x6, x7, acc, rfl, rfl, hl, e⟩ hK
      have hl : acc.length + (xs.length + 1) ≤ 1000 := hl
      obtain ⟨n, kd, ot⟩ := x
      have fin : ∀ (x4 x5 x6 x7 : Option U) (own : List Nat), own = (if turned && !eqD (.str ot) (.str (sg "")) then ot else kd) → Kn [some (.d (.tup (ms.map encM))), some (.d (.str zone)), some (.d (.bl turned)), some (.r 0), x4, x5, x6, x7] [.lst (acc ++ [.tup [.tup [.str own, .str zone], .int n]])] := by
        intro x4 x5 x6 x7 own ho
        refine hK _ _ ⟨_, _, _, _, _, rfl, rfl, by simp; omega, ?_⟩
        rw [← e, ho, List.append_assoc]
        rfl
      repeat walk_at "w"
      obtain ht | ht : turned = false ∨ turned = true := by cases turned <;> simp
      · subst ht
        repeat walk_at "w"
        exact trm_l (fin _ _ _ _ _ rfl)
      · subst ht
        repeat walk_at "w"
        cases hq : eqD (.str ot) (.str (sg "")) with
        | false =>
          refine cndT rfl ?_
          repeat walk_at "w"
          exact trm_l (fin _ _ _ _ _ (by rw [hq]; rfl))
        | true =>
          refine cndF rfl ?_
          repeat walk_at "w"
          exact trm_l (fin _ _ _ _ _ (by rw [hq]; rfl))
def m_extras : Spec := fun us M Q _ => ∃ (xs : List Ex) (word first last : List Nat), us = [.d (.tup (xs.map encX)), .d (.str word), .d (.str first), .d (.str last)] ∧ xs.length ≤ 1000 ∧ M = [] ∧ Q (.d (.lst ((extAt xs word first last).map encPr))) []
theorem m_extras_w : ∀ us M Q, m_extras us M Q (fun _ _ => False) → W_extras_at (fnEnds 0 0 Q (fun _ _ => False)) (slots N_extras_at us) M := by
  rintro us M Q ⟨ms, word, first, last, rfl, hl, rfl, hQ⟩
  unfold W_extras_at
  unfold extAt at hQ
  repeat walk_at "w"
  refine for_inv encX (fun xs δ M => ∃ (x5 x6 x7 : Option U) (acc : List D), δ = [some (.d (.tup (ms.map encX))), some (.d (.str word)), some (.d (.str first)), some (.d (.str last)), some (.r 0), x5, x6, x7] ∧ M = [.lst acc] ∧ acc.length + xs.length ≤ 1000 ∧ acc ++ (xs.flatMap (extOf word first last)).map encPr = (ms.flatMap (extOf word first last)).map encPr) ?_ ?_ ms _ _ ⟨_, _, _, [], rfl, rfl, by simpa using hl, rfl⟩
  · rintro δ M ⟨x5, x6, x7, acc, rfl, rfl, _, e⟩
    have e : acc = _ := (List.append_nil acc).symm.trans e
    subst e
    repeat walk_at "w"
    exact hQ
  · rintro x xs δ M Kn ⟨x5, x6, x7, acc, rfl, rfl, hl, e⟩ hK
    have hl : acc.length + (xs.length + 1) ≤ 1000 := hl
    obtain ⟨w, n, nm⟩ := x
    rw [List.flatMap_cons, List.map_append, ← List.append_assoc] at e
    have fin : ∀ (x5 x6 x7 : Option U) (one : List D), one = (extOf word first last (w, n, nm)).map encPr → one.length ≤ 1 → Kn [some (.d (.tup (ms.map encX))), some (.d (.str word)), some (.d (.str first)), some (.d (.str last)), some (.r 0), x5, x6, x7] [.lst (acc ++ one)] := by
      intro x5 x6 x7 one ho h1
      subst ho
      exact hK _ _ ⟨_, _, _, _, rfl, rfl, by rw [List.length_append]; omega, e⟩
    unfold extOf at fin
    repeat walk_at "w"
    cases h1 : eqD (.str w) (.str word) with
    | true =>
      rw [h1] at fin
      repeat walk_at "w"
      exact trm_l (fin _ _ _ _ rfl (by simp))
    | false =>
      rw [h1] at fin
      repeat walk_at "w"
      cases h2 : eqD (.str w) (.str (sg "here")) with
      | true =>
        rw [h2] at fin
        repeat walk_at "w"
        exact trm_l (fin _ _ _ _ rfl (by simp))
      | false =>
        rw [h2] at fin
        repeat walk_at "w"
        cases h3 : eqD (.str w) (.str (sg "there")) with
        | true =>
          rw [h3] at fin
          repeat walk_at "w"
          exact trm_l (fin _ _ _ _ rfl (by simp))
        | false =>
          rw [h3] at fin
          repeat walk_at "w"
          have := fin (some (.d (.str w))) (some (.d (.int n))) (some (.d (.str nm))) [] rfl (by decide)
          rw [List.append_nil] at this
          exact trm_l this
def sumT (ps : List (Ky × Int)) : Tb := ps.foldl addT []
theorem addT_len (t : Tb) (p : Ky × Int) : (addT t p).length ≤ t.length + 1 := putT_len _ _ _
theorem fold_len : ∀ (ps : List (Ky × Int)) (t : Tb), (ps.foldl addT t).length ≤ t.length + ps.length
  | [], t => Nat.le_refl _
  | p :: ps, t => by
    have := fold_len ps (addT t p)
    have := addT_len t p
    rw [List.foldl_cons, List.length_cons]; omega
def m_summed : Spec := fun us M Q _ => ∃ (ps : List (Ky × Int)), us = [.d (.lst (ps.map encPr))] ∧ ps.length ≤ 10000 ∧ M = [] ∧ Q (.d (sideD (sumT ps))) []
theorem m_summed_w : ∀ us M Q, m_summed us M Q (fun _ _ => False) → W_summed (fnEnds 0 0 Q (fun _ _ => False)) (slots N_summed us) M := by
  rintro us M Q ⟨ps, rfl, hl, rfl, hQ⟩
  unfold W_summed
  repeat walk_at "w"
  refine for_inv encPr (fun xs δ M => ∃ (x2 x3 : Option U) (t : Tb), δ = [some (.d (.lst (ps.map encPr))), some (.r 0), x2, x3] ∧ M = [.dct true (encT t)] ∧ t.length + xs.length ≤ 10000 ∧ xs.foldl addT t = sumT ps) ?_ ?_ ps _ _ ⟨_, _, [], rfl, rfl, by simpa using hl, rfl⟩
  · rintro δ M ⟨x2, x3, t, rfl, rfl, hz, e⟩
    have e : t = sumT ps := e
    rw [← e] at hQ
    have hz : t.length ≤ 10000 := hz
    repeat walk_at "w"
    refine x_sorted (srt_of rfl) (sortOk_keys t) ?_
    repeat walk_at "w"
    have hl : (sortD (keysT t)).length ≤ 1000000 := by rw [len_sortD]; unfold keysT; rw [List.length_map]; omega
    rw [← List.map_id (sortD (keysT t))]
    refine lc_inv id (fun xs acc M => M = [.dct true (encT t)] ∧ (∀ k ∈ xs, k ∈ keysT t) ∧ acc.length + xs.length ≤ 1000000 ∧ acc ++ xs.map (fun k => .tup [k, (asc (encT t) k).getD .non]) = (sortD (keysT t)).map fun k => .tup [k, (asc (encT t) k).getD .non]) ?_ ?_ (sortD (keysT t)) [] _ ⟨rfl, fun k hk => mem_sortD.mp hk, by simpa using hl, rfl⟩
    · rintro acc M ⟨rfl, _, _, e⟩
      have e : acc = _ := (List.append_nil acc).symm.trans e
      subst e
      repeat walk_at "w"
      exact hQ
    · rintro x xs acc M Kn ⟨rfl, hx, hl, e⟩ hK
      have hl : acc.length + (xs.length + 1) ≤ 1000000 := hl
      obtain ⟨y, v, rfl, ea⟩ := key_asc (hx x List.mem_cons_self)
      unfold CT.set
      repeat walk_at "w"
      refine ⟨true, _, _, .int v, rfl, rfl, keyOk_encK y, ea, ?_⟩
      repeat walk_at "w"
      refine ⟨_, rfl, sz (by omega), hK _ _ ⟨rfl, fun k hk => hx k (List.mem_cons_of_mem _ hk), by simp; omega, ?_⟩⟩
      rw [← e, List.append_assoc]
      have e5 : (D.tup [encK y, (asc (encT t) (encK y)).getD D.non]) = .tup [encK y, .int v] := by rw [ea]; rfl
      show acc ++ ([D.tup [encK y, .int v]] ++ _) = acc ++ (D.tup [encK y, (asc (encT t) (encK y)).getD D.non] :: _)
      rw [e5]; rfl
  · rintro ⟨k, n⟩ xs δ M Kn ⟨x2, x3, t, rfl, rfl, hz, e⟩ hK
    have hz : t.length + (xs.length + 1) ≤ 10000 := hz
    repeat walk_at "w"
    refine ⟨⟨_, rfl⟩, ?_⟩
    repeat walk_at "w"
    refine ⟨true, _, _, _, rfl, rfl, rfl, keyOk_encK k, ?_⟩
    rw [asc_enc]
    have e7 : ((getT t k).map D.int).getD (.int 0) = .int ((getT t k).getD 0) := by cases getT t k <;> rfl
    rw [e7]
    repeat walk_at "w"
    refine ⟨0, true, _, _, _, rfl, rfl, rfl, rfl, keyOk_encK k, sz (by rw [encT_len]; omega), ?_⟩
    rw [put_enc]
    have hz2 := addT_len t (k, n)
    exact trm_l (hK _ _ ⟨_, _, addT t (k, n), rfl, rfl, by omega, e⟩)
structure Stm where
  word : List Nat
  line : Int
  name : List Nat
  first : List Nat
  last : List Nat
  hours : List (List Nat)
  passes : List (List Mem × List Ex)
abbrev Pa := List Mem × List Ex
def encP (p : Pa) : D := .tup [.tup (p.1.map encM), .tup (p.2.map encX)]
def hoursD (s : Stm) : D := .tup (s.hours.map .str)
def encS (s : Stm) : D := .tup [.str s.word, .int s.line, .str s.name, .str s.first, .str s.last, hoursD s, .tup (s.passes.map encP)]
def okX (w : List Nat) : Prop := w = sg "less" ∨ w = sg "more" ∨ w = sg "here" ∨ w = sg "there"
structure OkS (s : Stm) : Prop where
  word : s.word = sg "door" ∨ s.word = sg "way"
  name : s.name.length ≤ 1000
  hours : s.hours.length ≤ 100
  passes : s.passes.length ≤ 100
  each : ∀ p ∈ s.passes, p.1.length ≤ 100 ∧ p.2.length ≤ 100 ∧ ∀ x ∈ p.2, okX x.1
def foreD (s : Stm) (p : Pa) : D := sideD (sumT (memAt p.1 s.first false ++ extAt p.2 (sg "less") s.first s.last))
def backD (s : Stm) (p : Pa) : D := sideD (sumT (memAt p.1 s.last true ++ extAt p.2 (sg "more") s.first s.last))
def nameAt (s : Stm) (i : Nat) : List Nat := s.name ++ numS (i + 1)
def rowsAt (s : Stm) (i : Nat) (p : Pa) : List D :=
  if eqD (.str s.word) (.str (sg "door")) then [.tup [.str (nameAt s i), hoursD s, foreD s p, backD s p]]
  else [.tup [.str (nameAt s i ++ sg "f"), hoursD s, foreD s p, backD s p], .tup [.str (nameAt s i ++ sg "b"), hoursD s, backD s p, foreD s p]]
def rowsFrom (s : Stm) : Nat → List Pa → List D
  | _, [] => []
  | i, p :: ps => rowsAt s i p ++ rowsFrom s (i + 1) ps
def deedsD (s : Stm) : D := .tup (rowsFrom s 0 s.passes)
theorem rowsAt_len (s : Stm) (i : Nat) (p : Pa) : (rowsAt s i p).length ≤ 2 := by unfold rowsAt; split <;> simp
theorem rowsFrom_drop (s : Stm) {i : Nat} (h : i < s.passes.length) : rowsFrom s i (s.passes.drop i) = rowsAt s i s.passes[i] ++ rowsFrom s (i + 1) (s.passes.drop (i + 1)) := by
  rw [List.drop_eq_getElem_cons h, rowsFrom]
theorem memAt_len (ms : List Mem) (z : List Nat) (t : Bool) : (memAt ms z t).length ≤ ms.length := by unfold memAt; split <;> simp
theorem extAt_len (w f l : List Nat) : ∀ xs : List Ex, (extAt xs w f l).length ≤ xs.length
  | [] => by simp [extAt]
  | x :: xs => by
    have := extAt_len w f l xs
    unfold extAt at this ⊢
    rw [List.flatMap_cons, List.length_append, List.length_cons]
    have h1 : (extOf w f l x).length ≤ 1 := by
      unfold extOf
      split
      · simp
      · split
        · simp
        · split <;> simp
    omega
def m_pass : Spec := fun us M Q _ => ∃ s : Stm, us = [.d (encS s)] ∧ OkS s ∧ M = [] ∧ Q (.d (deedsD s)) []
theorem at_map {α : Type} {f : α → D} {l : List α} {i : Nat} (h : i < l.length) : atI (l.map f) (i : Int) = some (f l[i]) := by
  rw [atI_map]
  unfold atI ixN
  rw [if_pos (by omega), if_pos (by omega)]
  simp [h]
theorem m_pass_w : ∀ us M Q, m_pass us M Q (fun _ _ => False) → W_pass_deeds m_members m_extras m_summed (fnEnds 0 0 Q (fun _ _ => False)) (slots N_pass_deeds us) M := by
  rintro us M Q ⟨s, rfl, hs, rfl, hQ⟩
  have hp := hs.passes
  unfold W_pass_deeds
  repeat walk_at "w"
  refine x_r1 (by omega) (by simp; omega) ?_
  have en : (((s.passes.map encP).length : Nat) : Int).toNat = s.passes.length := by simp
  rw [en]
  refine for_rng (fun i δ M => ∃ (x9 x10 x11 x12 x13 x14 : Option U) (acc : List D), δ = [some (.d (encS s)), some (.d (.str s.word)), some (.d (.int s.line)), some (.d (.str s.name)), some (.d (.str s.first)), some (.d (.str s.last)), some (.d (hoursD s)), some (.d (.tup (s.passes.map encP))), some (.r 0), x9, x10, x11, x12, x13, x14] ∧ M = [.lst acc] ∧ acc.length ≤ 2 * i ∧ i ≤ s.passes.length ∧ acc ++ rowsFrom s i (s.passes.drop i) = rowsFrom s 0 s.passes) ?_ ?_ _ _ ⟨_, _, _, _, _, _, [], rfl, rfl, by simp, by omega, rfl⟩
  · rintro δ M ⟨x9, x10, x11, x12, x13, x14, acc, rfl, rfl, _, _, e⟩
    rw [List.drop_of_length_le (Nat.le_refl _)] at e
    have e : acc = _ := (List.append_nil acc).symm.trans e
    subst e
    repeat walk_at "w"
    exact hQ
  · rintro i δ M Kn hi ⟨x9, x10, x11, x12, x13, x14, acc, rfl, rfl, hl, _, e⟩ hK
    rw [rowsFrom_drop s hi, ← List.append_assoc] at e
    obtain ⟨p1, p2, px⟩ := hs.each _ (List.getElem_mem hi)
    have fin : ∀ (x9 x10 x11 x12 x13 x14 : Option U) (one : List D), one = rowsAt s i s.passes[i] → Kn [some (.d (encS s)), some (.d (.str s.word)), some (.d (.int s.line)), some (.d (.str s.name)), some (.d (.str s.first)), some (.d (.str s.last)), some (.d (hoursD s)), some (.d (.tup (s.passes.map encP))), some (.r 0), x9, x10, x11, x12, x13, x14] [.lst (acc ++ one)] := by
      intro x9 x10 x11 x12 x13 x14 one ho
      subst ho
      have := rowsAt_len s i s.passes[i]
      exact hK _ _ ⟨_, _, _, _, _, _, _, rfl, rfl, by rw [List.length_append]; omega, by omega, e⟩
    have fin2 : ∀ (x9 x10 x11 x12 x13 x14 : Option U) (r1 r2 : D), [r1, r2] = rowsAt s i s.passes[i] → Kn [some (.d (encS s)), some (.d (.str s.word)), some (.d (.int s.line)), some (.d (.str s.name)), some (.d (.str s.first)), some (.d (.str s.last)), some (.d (hoursD s)), some (.d (.tup (s.passes.map encP))), some (.r 0), x9, x10, x11, x12, x13, x14] [.lst (acc ++ [r1] ++ [r2])] := by
      intro x9 x10 x11 x12 x13 x14 r1 r2 ho
      have := fin x9 x10 x11 x12 x13 x14 _ ho
      rw [List.append_assoc]
      exact this
    unfold rowsAt at fin fin2
    have hf : (sg "f").length = 1 := rfl
    have hb : (sg "b").length = 1 := rfl
    have hn := hs.name
    have hns : (numS (i + 1)).length ≤ 500 := numS_len (by omega)
    have ei : ((i : Int) + 1).toNat = i + 1 := by omega
    have l1 := memAt_len s.passes[i].1 s.first false
    have l2 := memAt_len s.passes[i].1 s.last true
    have l3 := extAt_len (sg "less") s.first s.last s.passes[i].2
    have l4 := extAt_len (sg "more") s.first s.last s.passes[i].2
    repeat walk_at "w"
    refine x_ixT (at_map hi) ?_
    repeat walk_at "w"
    refine ⟨_, _, _, rfl, by omega, rfl, ?_⟩
    repeat walk_at "w"
    refine ⟨_, _, _, _, rfl, by omega, rfl, ?_⟩
    repeat walk_at "w"
    refine x_cat rfl rfl (sze (by simp only [List.length_map]; omega)) ?_
    repeat walk_at "w"
    refine ⟨_, _, _, rfl, by omega, rfl, ?_⟩
    repeat walk_at "w"
    refine ⟨_, _, _, _, rfl, by omega, rfl, ?_⟩
    repeat walk_at "w"
    refine x_cat rfl rfl (sze (by simp only [List.length_map]; omega)) ?_
    repeat walk_at "w"
    rw [← List.map_append, ← List.map_append]
    cases hd : eqD (.str s.word) (.str (sg "door")) with
    | true =>
      rw [hd] at fin
      repeat walk_at "w"
      refine ⟨_, rfl, by rw [List.length_append]; omega, rfl, ?_⟩
      repeat walk_at "w"
      refine ⟨_, rfl, by rw [List.length_append]; omega, rfl, ?_⟩
      repeat walk_at "w"
      exact trm_l (fin _ _ _ _ _ _ _ rfl)
    | false =>
      rw [hd] at fin2
      repeat walk_at "w"
      refine ⟨_, rfl, by rw [List.length_append]; omega, rfl, ?_⟩
      repeat walk_at "w"
      refine ⟨_, rfl, by rw [List.length_append]; omega, rfl, ?_⟩
      repeat walk_at "w"
      refine ⟨_, _, _, rfl, by omega, rfl, ?_⟩
      repeat walk_at "w"
      refine ⟨_, _, _, _, rfl, by omega, rfl, ?_⟩
      repeat walk_at "w"
      refine x_cat rfl rfl (sze (by simp only [List.length_map]; omega)) ?_
      repeat walk_at "w"
      refine ⟨_, _, _, rfl, by omega, rfl, ?_⟩
      repeat walk_at "w"
      refine ⟨_, _, _, _, rfl, by omega, rfl, ?_⟩
      repeat walk_at "w"
      refine x_cat rfl rfl (sze (by simp only [List.length_map]; omega)) ?_
      repeat walk_at "w"
      rw [← List.map_append, ← List.map_append]
      refine ⟨_, rfl, by rw [List.length_append]; omega, rfl, ?_⟩
      repeat walk_at "w"
      refine ⟨_, rfl, by rw [List.length_append]; omega, rfl, ?_⟩
      repeat walk_at "w"
      exact trm_l (fin2 _ _ _ _ _ _ _ _ rfl)
def othOf (m : Mem) : List Nat := if eqD (.str m.2.2) (.str (sg "")) then m.2.1 else m.2.2
def stepM (s : Stm) (back : Bool) (tg : Tb × Tb) (m : Mem) : Tb × Tb :=
  let tg1 := if !eqD (.str s.first) (.str (sg "street")) then (if back then (tg.1, addT tg.2 ((m.2.1, s.first), m.1)) else (addT tg.1 ((m.2.1, s.first), m.1), tg.2)) else tg
  if !eqD (.str s.last) (.str (sg "street")) then (if back then (addT tg1.1 ((othOf m, s.last), m.1), tg1.2) else (tg1.1, addT tg1.2 ((othOf m, s.last), m.1))) else tg1
def wh (s : Stm) (x : Ex) : List Nat := if eqD (.str x.1) (.str (sg "here")) then s.first else s.last
def stepX (s : Stm) (back : Bool) (tg : Tb × Tb) (x : Ex) : Tb × Tb :=
  if inD (.str x.1) [.str (sg "less"), .str (sg "more")] then
    (if !eqD (.bl (eqD (.str x.1) (.str (sg "less")))) (.bl back) then (addT tg.1 ((x.2.2, sg ""), x.2.1), tg.2) else (tg.1, addT tg.2 ((x.2.2, sg ""), x.2.1)))
  else (addT tg.1 ((x.2.2, wh s x), x.2.1), addT tg.2 ((x.2.2, wh s x), x.2.1))
theorem memAt_cons (m : Mem) (ms : List Mem) (z : List Nat) (t : Bool) : memAt (m :: ms) z t = (if eqD (.str z) (.str (sg "street")) then [] else [memOf z t m]) ++ memAt ms z t := by
  unfold memAt; split <;> rfl
theorem extAt_cons (x : Ex) (xs : List Ex) (w f l : List Nat) : extAt (x :: xs) w f l = extOf w f l x ++ extAt xs w f l := by unfold extAt; rw [List.flatMap_cons]
theorem memOf_oth (z : List Nat) (m : Mem) : memOf z true m = ((othOf m, z), m.1) := by
  unfold memOf othOf
  cases h : eqD (.str m.2.2) (.str (sg "")) <;> simp
theorem memOf_kind (z : List Nat) (m : Mem) : memOf z false m = ((m.2.1, z), m.1) := rfl
theorem foldM (s : Stm) (back : Bool) : ∀ (ms : List Mem) (t g : Tb), ms.foldl (stepM s back) (t, g) = (if back then ((memAt ms s.last true).foldl addT t, (memAt ms s.first false).foldl addT g) else ((memAt ms s.first false).foldl addT t, (memAt ms s.last true).foldl addT g))
  | [], t, g => by
    have e : ∀ (z : List Nat) (tu : Bool), memAt [] z tu = [] := fun z tu => by unfold memAt; split <;> rfl
    rw [e, e]; cases back <;> rfl
  | m :: ms, t, g => by
    rw [List.foldl_cons, memAt_cons, memAt_cons, List.foldl_append, List.foldl_append]
    have e : stepM s back (t, g) m = ((stepM s back (t, g) m).1, (stepM s back (t, g) m).2) := rfl
    rw [e, foldM s back ms]
    unfold stepM
    rw [memOf_oth, memOf_kind]
    cases back <;> cases h1 : eqD (.str s.first) (.str (sg "street")) <;> cases h2 : eqD (.str s.last) (.str (sg "street")) <;> simp
theorem inD2 (w : List Nat) : inD (.str w) [.str (sg "less"), .str (sg "more")] = (eqD (.str (sg "less")) (.str w) || eqD (.str (sg "more")) (.str w)) := by
  unfold inD
  simp
theorem foldX (s : Stm) (back : Bool) : ∀ (xs : List Ex) (t g : Tb), (∀ x ∈ xs, okX x.1) → xs.foldl (stepX s back) (t, g) = (if back then ((extAt xs (sg "more") s.first s.last).foldl addT t, (extAt xs (sg "less") s.first s.last).foldl addT g) else ((extAt xs (sg "less") s.first s.last).foldl addT t, (extAt xs (sg "more") s.first s.last).foldl addT g))
  | [], t, g, _ => by cases back <;> rfl
  | x :: xs, t, g, h => by
    rw [List.foldl_cons, extAt_cons, extAt_cons, List.foldl_append, List.foldl_append]
    have e : stepX s back (t, g) x = ((stepX s back (t, g) x).1, (stepX s back (t, g) x).2) := rfl
    rw [e, foldX s back xs _ _ fun y hy => h y (List.mem_cons_of_mem _ hy)]
    obtain ⟨w, n, th⟩ := x
    rcases h _ List.mem_cons_self with hw | hw | hw | hw
    all_goals
      have hw : w = _ := hw
      subst hw
      cases back <;> rfl
def foreT (s : Stm) (p : Pa) : Tb := sumT (memAt p.1 s.first false ++ extAt p.2 (sg "less") s.first s.last)
def backT (s : Stm) (p : Pa) : Tb := sumT (memAt p.1 s.last true ++ extAt p.2 (sg "more") s.first s.last)
theorem fold2 (s : Stm) (back : Bool) (p : Pa) (h : ∀ x ∈ p.2, okX x.1) : p.2.foldl (stepX s back) (p.1.foldl (stepM s back) ([], [])) = if back then (backT s p, foreT s p) else (foreT s p, backT s p) := by
  rw [foldM]
  unfold backT foreT sumT
  rw [List.foldl_append, List.foldl_append]
  cases back
  · exact foldX s false p.2 _ _ h
  · exact foldX s true p.2 _ _ h
def sfx (s : Stm) (back : Bool) : List Nat := if eqD (.str s.word) (.str (sg "door")) then sg "" else if back then sg "b" else sg "f"
def rowB (s : Stm) (i : Nat) (p : Pa) (back : Bool) : D :=
  .tup [.str (nameAt s i ++ sfx s back), hoursD s, sideD (p.2.foldl (stepX s back) (p.1.foldl (stepM s back) ([], []))).1, sideD (p.2.foldl (stepX s back) (p.1.foldl (stepM s back) ([], []))).2]
def backs (s : Stm) : List Bool := if eqD (.str s.word) (.str (sg "way")) then [false, true] else [false]
theorem rows_back (s : Stm) (hs : OkS s) (i : Nat) (p : Pa) (hp : p ∈ s.passes) : (backs s).map (rowB s i p) = rowsAt s i p := by
  have hx := (hs.each p hp).2.2
  have e1 : rowB s i p false = .tup [.str (nameAt s i ++ sfx s false), hoursD s, foreD s p, backD s p] := by
    unfold rowB; rw [fold2 s false p hx]; rfl
  have e2 : rowB s i p true = .tup [.str (nameAt s i ++ sfx s true), hoursD s, backD s p, foreD s p] := by
    unfold rowB; rw [fold2 s true p hx]; rfl
  unfold backs rowsAt
  rcases hs.word with h | h
  · have a : eqD (.str s.word) (.str (sg "way")) = false := by rw [h]; rfl
    have b : eqD (.str s.word) (.str (sg "door")) = true := by rw [h]; rfl
    have c : sfx s false = [] := by unfold sfx; rw [b]; rfl
    rw [a, b]
    show [rowB s i p false] = _
    rw [e1, c, List.append_nil]; rfl
  · have a : eqD (.str s.word) (.str (sg "way")) = true := by rw [h]; rfl
    have b : eqD (.str s.word) (.str (sg "door")) = false := by rw [h]; rfl
    have c : sfx s false = sg "f" := by unfold sfx; rw [b]; rfl
    have d : sfx s true = sg "b" := by unfold sfx; rw [b]; rfl
    rw [a, b]
    show [rowB s i p false, rowB s i p true] = _
    rw [e1, e2, c, d]; rfl
theorem stepM_len (s : Stm) (back : Bool) (tg : Tb × Tb) (m : Mem) : (stepM s back tg m).1.length ≤ tg.1.length + 1 ∧ (stepM s back tg m).2.length ≤ tg.2.length + 1 := by
  unfold stepM
  have a := fun (t : Tb) (p : Ky × Int) => addT_len t p
  cases back <;> cases eqD (.str s.first) (.str (sg "street")) <;> cases eqD (.str s.last) (.str (sg "street")) <;> simp [a]
theorem stepX_len (s : Stm) (back : Bool) (tg : Tb × Tb) (x : Ex) : (stepX s back tg x).1.length ≤ tg.1.length + 1 ∧ (stepX s back tg x).2.length ≤ tg.2.length + 1 := by
  unfold stepX
  have a := fun (t : Tb) (p : Ky × Int) => addT_len t p
  split
  · split <;> simp [a]
  · simp [a]
def m_deeds : Spec := fun us M Q _ => ∃ s : Stm, us = [.d (encS s)] ∧ OkS s ∧ M = [] ∧ Q (.d (deedsD s)) []
abbrev dS (s : Stm) (r : List (Option U)) : Dl := some (.d (encS s)) :: some (.d (.str s.word)) :: some (.d (.int s.line)) :: some (.d (.str s.name)) :: some (.d (.str s.first)) :: some (.d (.str s.last)) :: some (.d (hoursD s)) :: some (.d (.tup (s.passes.map encP))) :: some (.r 0) :: r
set_option maxHeartbeats 4000000 in
theorem m_deeds_w : ∀ us M Q, m_deeds us M Q (fun _ _ => False) → W_law_deeds m_put m_side (fnEnds 0 0 Q (fun _ _ => False)) (slots N_law_deeds us) M := by
  rintro us M Q ⟨s, rfl, hs, rfl, hQ⟩
  have hp := hs.passes
  unfold W_law_deeds
  repeat walk_at "w"
  refine x_r1 (by omega) (by simp; omega) ?_
  have en : (((s.passes.map encP).length : Nat) : Int).toNat = s.passes.length := by simp
  rw [en]
  refine for_rng (fun i δ M => ∃ (x9 x10 x11 x12 x13 x14 x15 x16 x17 x18 x19 : Option U) (acc : List D), δ = dS s [x9, x10, x11, x12, x13, x14, x15, x16, x17, x18, x19] ∧ M = [.lst acc] ∧ acc.length ≤ 2 * i ∧ i ≤ s.passes.length ∧ acc ++ rowsFrom s i (s.passes.drop i) = rowsFrom s 0 s.passes) ?_ ?_ _ _ ⟨_, _, _, _, _, _, _, _, _, _, _, [], rfl, rfl, by simp, by omega, rfl⟩
  · rintro δ M ⟨x9, x10, x11, x12, x13, x14, x15, x16, x17, x18, x19, acc, rfl, rfl, _, _, e⟩
    rw [List.drop_of_length_le (Nat.le_refl _)] at e
    have e : acc = _ := (List.append_nil acc).symm.trans e
    subst e
    repeat walk_at "w"
    exact hQ
  · rintro i δ M Kn hi ⟨x9, x10, x11, x12, x13, x14, x15, x16, x17, x18, x19, acc, rfl, rfl, hl, _, e⟩ hK
    rw [rowsFrom_drop s hi, ← List.append_assoc] at e
    have hmem := List.getElem_mem hi
    obtain ⟨p1, p2, px⟩ := hs.each _ hmem
    have hrl := rowsAt_len s i s.passes[i]
    generalize hpp : s.passes[i] = p at *
    have hrb := rows_back s hs i p hmem
    have hix : atI (s.passes.map encP) (i : Int) = some (encP p) := by rw [at_map hi, hpp]
    repeat walk_at "w"
    refine x_ixT hix ?_
    repeat walk_at "w"
    have items : cutL [D.bl false, D.bl true] none (some (1 + (if eqD (.str s.word) (.str (sg "way")) then 1 else 0))) = (backs s).map D.bl := by
      unfold backs
      cases eqD (.str s.word) (.str (sg "way")) <;> rfl
    rw [items]
    refine for_inv D.bl (fun bs δ M => ∃ (x12 x13 x14 x15 x16 x17 x18 x19 : Option U) (ac : List D), δ = dS s [some (.d (.int i)), some (.d (.tup (p.1.map encM))), some (.d (.tup (p.2.map encX))), x12, x13, x14, x15, x16, x17, x18, x19] ∧ M = [.lst ac] ∧ ac.length + bs.length ≤ 2 * i + 2 ∧ ac ++ bs.map (rowB s i p) = acc ++ rowsAt s i p) ?_ ?_ (backs s) _ _ ⟨_, _, _, _, _, _, _, _, acc, rfl, rfl, ?_, by rw [hrb]⟩
    · rintro δ M ⟨x12, x13, x14, x15, x16, x17, x18, x19, ac, rfl, rfl, hl2, e2⟩
      have e2 : ac = _ := (List.append_nil ac).symm.trans e2
      subst e2
      exact trm_l (hK _ _ ⟨_, _, _, _, _, _, _, _, _, _, _, _, rfl, rfl, by rw [List.length_append]; omega, by omega, e⟩)
    · rintro b bs δ M Kb ⟨x12, x13, x14, x15, x16, x17, x18, x19, ac, rfl, rfl, hl2, e2⟩ hKb
      have hl2 : ac.length + (bs.length + 1) ≤ 2 * i + 2 := hl2
      repeat walk_at "w"
      refine for_inv encM (fun ms δ M => ∃ (x15 x16 x17 x18 x19 : Option U) (t g : Tb), δ = dS s [some (.d (.int i)), some (.d (.tup (p.1.map encM))), some (.d (.tup (p.2.map encX))), some (.d (.bl b)), some (.r 1), some (.r 2), x15, x16, x17, x18, x19] ∧ M = [.lst ac, .dct true (encT t), .dct true (encT g)] ∧ t.length + ms.length ≤ 100 ∧ g.length + ms.length ≤ 100 ∧ ms.foldl (stepM s b) (t, g) = p.1.foldl (stepM s b) ([], [])) ?_ ?_ p.1 _ _ ⟨_, _, _, _, _, [], [], rfl, rfl, by simpa using p1, by simpa using p1, rfl⟩
      · rintro δ M ⟨x15, x16, x17, x18, x19, t, g, rfl, rfl, hz1, hz2, hf⟩
        have hz1 : t.length ≤ 100 := hz1
        have hz2 : g.length ≤ 100 := hz2
        have hf : (t, g) = _ := hf
        repeat walk_at "w"
        refine for_inv encX (fun xs δ M => ∃ (x15 x16 x17 x18 x19 : Option U) (t g : Tb), δ = dS s [some (.d (.int i)), some (.d (.tup (p.1.map encM))), some (.d (.tup (p.2.map encX))), some (.d (.bl b)), some (.r 1), some (.r 2), x15, x16, x17, x18, x19] ∧ M = [.lst ac, .dct true (encT t), .dct true (encT g)] ∧ t.length + xs.length ≤ 200 ∧ g.length + xs.length ≤ 200 ∧ (∀ x ∈ xs, okX x.1) ∧ xs.foldl (stepX s b) (t, g) = p.2.foldl (stepX s b) (p.1.foldl (stepM s b) ([], []))) ?_ ?_ p.2 _ _ ⟨_, _, _, _, _, t, g, rfl, rfl, by omega, by omega, px, by rw [hf]⟩
        · rintro δ M ⟨x15, x16, x17, x18, x19, t, g, rfl, rfl, hz1, hz2, _, hf⟩
          have hz1 : t.length ≤ 200 := hz1
          have hz2 : g.length ≤ 200 := hz2
          have hf : (t, g) = _ := hf
          have fin : ∀ (x15 x16 x17 x18 x19 : Option U) (nm : List Nat), nm = nameAt s i ++ sfx s b → Kb (dS s [some (.d (.int i)), some (.d (.tup (p.1.map encM))), some (.d (.tup (p.2.map encX))), some (.d (.bl b)), none, none, x15, x16, x17, x18, x19]) [.lst (ac ++ [.tup [.str nm, hoursD s, sideD t, sideD g]])] := by
            intro x15 x16 x17 x18 x19 nm hnm
            refine hKb _ _ ⟨_, _, _, _, _, _, _, _, _, rfl, rfl, by simp; omega, ?_⟩
            rw [← e2, List.append_assoc, hnm]
            show _ = ac ++ (rowB s i p b :: _)
            unfold rowB
            rw [← hf]
            rfl
          have hns : (numS (i + 1)).length ≤ 500 := numS_len (by omega)
          have ei : ((i : Int) + 1).toNat = i + 1 := by omega
          have hnl := hs.name
          have k1 : (sg "").length = 0 := rfl
          have k2 : (sg "b").length = 1 := rfl
          have k3 : (sg "f").length = 1 := rfl
          unfold sfx at fin
          repeat walk_at "w"
          rw [ei]
          repeat walk_at "w"
          cases hd : eqD (.str s.word) (.str (sg "door")) with
          | true =>
            rw [hd] at fin
            repeat walk_at "w"
            refine ⟨t, rfl, rfl, by omega, _, _, rfl, rfl, rfl, ?_⟩
            repeat walk_at "w"
            refine ⟨g, rfl, rfl, by omega, _, _, rfl, rfl, rfl, ?_⟩
            repeat walk_at "w"
            exact trm_r rfl (fin _ _ _ _ _ _ rfl)
          | false =>
            rw [hd] at fin
            cases b with
            | false =>
              repeat walk_at "w"
              refine ⟨t, rfl, rfl, by omega, _, _, rfl, rfl, rfl, ?_⟩
              repeat walk_at "w"
              refine ⟨g, rfl, rfl, by omega, _, _, rfl, rfl, rfl, ?_⟩
              repeat walk_at "w"
              exact trm_r rfl (fin _ _ _ _ _ _ rfl)
            | true =>
              repeat walk_at "w"
              refine ⟨t, rfl, rfl, by omega, _, _, rfl, rfl, rfl, ?_⟩
              repeat walk_at "w"
              refine ⟨g, rfl, rfl, by omega, _, _, rfl, rfl, rfl, ?_⟩
              repeat walk_at "w"
              exact trm_r rfl (fin _ _ _ _ _ _ rfl)
        · rintro ⟨w, n, th⟩ xs δ M Kn ⟨x15, x16, x17, x18, x19, t, g, rfl, rfl, hz1, hz2, hw, hf⟩ hKn
          have hz1 : t.length + (xs.length + 1) ≤ 200 := hz1
          have hz2 : g.length + (xs.length + 1) ≤ 200 := hz2
          have hl := stepX_len s b (t, g) (w, n, th)
          have fin : ∀ (x15 x16 x17 x18 x19 : Option U) (t' g' : Tb), (t', g') = stepX s b (t, g) (w, n, th) → Kn (dS s [some (.d (.int i)), some (.d (.tup (p.1.map encM))), some (.d (.tup (p.2.map encX))), some (.d (.bl b)), some (.r 1), some (.r 2), x15, x16, x17, x18, x19]) [.lst ac, .dct true (encT t'), .dct true (encT g')] := by
            intro x15 x16 x17 x18 x19 t' g' h
            rw [← h] at hl
            refine hKn _ _ ⟨_, _, _, _, _, t', g', rfl, rfl, ?_, ?_, fun x hx => hw x (List.mem_cons_of_mem _ hx), ?_⟩
            · have := hl.1; show t'.length + xs.length ≤ 200; have h3 : t'.length ≤ t.length + 1 := this; omega
            · have := hl.2; show g'.length + xs.length ≤ 200; have h3 : g'.length ≤ g.length + 1 := this; omega
            · rw [h]; exact hf
          have q3 : t.length ≤ 1000000 := by omega
          have q4 : g.length ≤ 1000000 := by omega
          rcases hw _ List.mem_cons_self with hw | hw | hw | hw
          all_goals
            have hw : w = _ := hw
            subst hw
            cases b
            all_goals
              repeat walk_at "w"
              first | refine cndT rfl ?_ | refine cndF rfl ?_
              repeat walk_at "w"
              first | refine cndT rfl ?_ | refine cndF rfl ?_
              repeat walk_at "w"
              refine ⟨_, (th, _), n, rfl, rfl, by first | exact q3 | exact q4, _, _, rfl, rfl, rfl, ?_⟩
              repeat walk_at "w"
              first
                | exact trm_l (fin _ _ _ _ _ _ _ rfl)
                | (first | refine cndT rfl ?_ | refine cndF rfl ?_)
                  repeat walk_at "w"
                  refine ⟨_, (th, _), n, rfl, rfl, by first | exact q3 | exact q4, _, _, rfl, rfl, rfl, ?_⟩
                  repeat walk_at "w"
                  exact trm_l (fin _ _ _ _ _ _ _ rfl)
      · rintro ⟨n, kd, ot⟩ ms δ M Kn ⟨x15, x16, x17, x18, x19, t, g, rfl, rfl, hz1, hz2, hf⟩ hKn
        have hz1 : t.length + (ms.length + 1) ≤ 100 := hz1
        have hz2 : g.length + (ms.length + 1) ≤ 100 := hz2
        have hl := stepM_len s b (t, g) (n, kd, ot)
        have fin : ∀ (x15 x16 x17 x18 x19 : Option U) (t' g' : Tb), (t', g') = stepM s b (t, g) (n, kd, ot) → Kn (dS s [some (.d (.int i)), some (.d (.tup (p.1.map encM))), some (.d (.tup (p.2.map encX))), some (.d (.bl b)), some (.r 1), some (.r 2), x15, x16, x17, x18, x19]) [.lst ac, .dct true (encT t'), .dct true (encT g')] := by
          intro x15 x16 x17 x18 x19 t' g' h
          rw [← h] at hl
          refine hKn _ _ ⟨_, _, _, _, _, t', g', rfl, rfl, ?_, ?_, ?_⟩
          · have := hl.1; show t'.length + ms.length ≤ 100; have h3 : t'.length ≤ t.length + 1 := this; omega
          · have := hl.2; show g'.length + ms.length ≤ 100; have h3 : g'.length ≤ g.length + 1 := this; omega
          · rw [h]; exact hf
        have q1 : ∀ p : Ky × Int, (addT t p).length ≤ 1000000 := fun p => by have := addT_len t p; omega
        have q2 : ∀ p : Ky × Int, (addT g p).length ≤ 1000000 := fun p => by have := addT_len g p; omega
        have q3 : t.length ≤ 1000000 := by omega
        have q4 : g.length ≤ 1000000 := by omega
        unfold stepM othOf at fin
        clear hKn hl hf
        repeat walk_at "w"
        cases h0 : eqD (.str ot) (.str (sg ""))
        all_goals
          first | refine cndT rfl ?_ | refine cndF rfl ?_
          repeat walk_at "w"
          cases h1 : eqD (.str s.first) (.str (sg "street"))
          all_goals
            first | refine cndT rfl ?_ | refine cndF rfl ?_
            cases b
            all_goals
              repeat walk_at "w"
              try refine ⟨_, (kd, s.first), n, rfl, rfl, by first | exact q3 | exact q4, _, _, rfl, rfl, rfl, ?_⟩
              repeat walk_at "w"
              cases h2 : eqD (.str s.last) (.str (sg "street"))
              all_goals
                first | refine cndT rfl ?_ | refine cndF rfl ?_
                repeat walk_at "w"
                try refine ⟨_, (_, s.last), n, rfl, rfl, by first | exact q3 | exact q4 | exact q1 _ | exact q2 _, _, _, rfl, rfl, rfl, ?_⟩
                repeat walk_at "w"
                refine trm_l (fin _ _ _ _ _ _ _ ?_)
                rw [h0, h1, h2]
                rfl
    · rw [← List.length_map (f := rowB s i p), hrb]; omega
theorem Por.lst {c : Nat} {M : List MO} (h : Por c M) : ∃ ps, M = [.lst ps] ∧ Por c [.lst ps] := by
  have h' := h
  obtain ⟨s, n, cells, rfl, r⟩ := h
  exact ⟨_, rfl, h'⟩
def m_stm : Spec := fun us M Q _ => ∃ c : Nat, us = [.r 0] ∧ c ≤ 500000 ∧ Por c M ∧ ∀ s M', OkS s → Por (c + 1000) M' → Q (.d (encS s)) M'
theorem strs_of {l : List D} (h : ∀ d ∈ l, ∃ s : List Nat, d = .str s) : ∃ ss : List (List Nat), l = ss.map .str := by
  induction l with
  | nil => exact ⟨[], rfl⟩
  | cons d l ih =>
    obtain ⟨s, rfl⟩ := h _ List.mem_cons_self
    obtain ⟨ss, rfl⟩ := ih fun x hx => h x (List.mem_cons_of_mem _ hx)
    exact ⟨s :: ss, rfl⟩
theorem mem_strs {ss : List (List Nat)} {d : D} (h : d ∈ ss.map D.str) : ∃ s, d = .str s := by
  obtain ⟨s, _, rfl⟩ := List.mem_map.mp h
  exact ⟨s, rfl⟩
set_option maxHeartbeats 4000000 in
theorem m_stm_w : ∀ us M Q, m_stm us M Q (fun _ _ => False) → W_law_statement m_one m_sill (fnEnds 1 1 Q (fun _ _ => False)) (slots N_law_statement us) M := by
  rintro us M Q ⟨c, rfl, hc, hP, hQ⟩
  obtain ⟨ps, rfl, hP⟩ := hP.lst
  have l1 : (sg "x").length = 1 := rfl
  have l2 : (sg "y").length = 1 := rfl
  unfold W_law_statement
  repeat walk_at "w"
  refine ⟨_, _, _, rfl, rfl, by simp, by decide, by omega, hP, fun lead M' hlead hM => ?_⟩
  obtain ⟨ps, rfl, hP⟩ := hM.lst
  clear hM
  obtain ⟨ld, rfl, hld⟩ : ∃ s : List Nat, lead = .str s ∧ s.length ≤ 11 := by
    have : lead = .str (sg "") ∨ lead = .str (sg "elevensigns") := by simpa using hlead
    rcases this with h | h
    · exact ⟨_, h, by decide⟩
    · exact ⟨_, h, by decide⟩
  clear hlead
  repeat walk_at "w"
  refine lc_inv (fun c => D.str [c]) (fun xs acc M => M = [.lst ps] ∧ acc.length + xs.length = 3 ∧ ∃ ss : List (List Nat), acc = ss.map .str) ?_ ?_ (sg "kmn") [] _ ⟨rfl, rfl, [], rfl⟩
  rotate_left
  · rintro x xs acc M Kn ⟨rfl, hl, ss, rfl⟩ hK
    have hl : (ss.map D.str).length + (xs.length + 1) = 3 := hl
    have lx : [x].length = 1 := rfl
    unfold CT.set
    repeat walk_at "w"
    exact ⟨_, rfl, sz (by omega), hK _ _ ⟨rfl, by rw [List.length_append]; show _ + 1 + _ = _; omega, ss ++ [ld ++ [x]], by rw [List.map_append]; rfl⟩⟩
  rintro acc M ⟨rfl, hkl, kinds, rfl⟩
  have hkl : kinds.length = 3 := by simpa using hkl
  have hkne : kinds ≠ [] := by intro h; rw [h] at hkl; cases hkl
  repeat walk_at "w"
  refine lc_inv (fun c => D.str [c]) (fun xs acc M => M = [.lst ps] ∧ acc.length + xs.length = 2 ∧ ∃ ss : List (List Nat), acc = ss.map .str) ?_ ?_ (sg "bc") [] _ ⟨rfl, rfl, [], rfl⟩
  rotate_left
  · rintro x xs acc M Kn ⟨rfl, hl, ss, rfl⟩ hK
    have hl : (ss.map D.str).length + (xs.length + 1) = 2 := hl
    have lx : [x].length = 1 := rfl
    unfold CT.set
    repeat walk_at "w"
    exact ⟨_, rfl, sz (by omega), hK _ _ ⟨rfl, by rw [List.length_append]; show _ + 1 + _ = _; omega, ss ++ [ld ++ [x]], by rw [List.map_append]; rfl⟩⟩
  rintro acc M ⟨rfl, hbl, boards, rfl⟩
  have hbl : boards.length = 2 := by simpa using hbl
  have hbne : boards ≠ [] := by intro h; rw [h] at hbl; cases hbl
  repeat walk_at "w"
  refine ⟨_, _, rfl, by decide, by omega, hP, fun v M' v0 v1 hM => ?_⟩
  obtain ⟨ps, rfl, hP⟩ := hM.lst
  clear hM
  repeat walk_at "w"
  refine join_v (fun u M => ∃ (n : Int) (ps : List D), u = .d (.int n) ∧ 0 ≤ n ∧ n ≤ 20 ∧ M = [.lst ps, .lst []] ∧ Por (c + 1 + 1 + 1) [.lst ps]) ?_ ?_
  · intro K hK
    cases eqD (.int v) (.int 0)
    all_goals
      first | refine x_cT ?_ | refine x_cF ?_
      repeat walk_at "w"
      refine ⟨_, _, rfl, by decide, by omega, hP, fun v2 M' v0 v1 hM => ?_⟩
      obtain ⟨ps, rfl, hP⟩ := hM.lst
      clear hM
      repeat walk_at "w"
      exact hK _ _ ⟨_, _, rfl, by omega, by omega, rfl, hP⟩
  clear hP v0 v1
  rintro u M ⟨n, ps, rfl, hn0, hn1, rfl, hP⟩
  repeat walk_at "w"
  refine for_rng (fun i δ M => ∃ (x6 x7 x8 x9 x10 x11 x12 x13 x14 : Option U) (ps : List D) (k : Nat) (ts : List Pa), δ = [some (.r 0), some (.d (.str ld)), some (.d (.lst (kinds.map .str))), some (.d (.lst (boards.map .str))), some (.d (.lst [.str (ld ++ sg "x"), .str (ld ++ sg "y")])), some (.r 1), x6, x7, x8, x9, x10, x11, x12, x13, x14] ∧ M = [.lst ps, .lst (ts.map encP)] ∧ ts.length = i ∧ (∀ p ∈ ts, p.1.length ≤ 100 ∧ p.2.length ≤ 100 ∧ ∀ x ∈ p.2, okX x.1) ∧ Por k [.lst ps] ∧ k ≤ c + 3 + 30 * i) ?_ ?_ _ _ ⟨_, _, _, _, _, _, _, _, _, ps, _, [], rfl, rfl, rfl, by simp, hP, by omega⟩
  rotate_left
  · clear hP
    rintro i δ M Kn hi ⟨x6, x7, x8, x9, x10, x11, x12, x13, x14, ps, k, ts, rfl, rfl, htl, hts, hP, hk⟩ hKn
    have hi : i < 20 := by omega
    repeat walk_at "w"
    refine ⟨_, _, rfl, by decide, by omega, hP, fun v M' v0 v1 hM => ?_⟩
    obtain ⟨ps, rfl, hP⟩ := hM.lst
    clear hM
    repeat walk_at "w"
    repeat walk_at "w"
    refine for_rng (fun j δ M => ∃ (x8 x9 x10 x11 x12 x13 x14 : Option U) (ps : List D) (k : Nat) (ms : List Mem), δ = [some (.r 0), some (.d (.str ld)), some (.d (.lst (kinds.map .str))), some (.d (.lst (boards.map .str))), some (.d (.lst [.str (ld ++ sg "x"), .str (ld ++ sg "y")])), some (.r 1), some (.d (.int i)), some (.r 2), x8, x9, x10, x11, x12, x13, x14] ∧ M = [.lst ps, .lst (ts.map encP), .lst (ms.map encM)] ∧ ms.length = j ∧ Por k [.lst ps] ∧ k ≤ c + 3 + 30 * i + 1 + 3 * j) ?_ ?_ _ _ ⟨_, _, _, _, _, _, _, ps, _, [], rfl, rfl, rfl, hP, by omega⟩
    rotate_left
    · clear hP
      rintro j δ M Km hj ⟨x8, x9, x10, x11, x12, x13, x14, ps, k', ms, rfl, rfl, hml, hP, hk'⟩ hKm
      have hj : j < 4 := by omega
      clear hKn
      repeat walk_at "w"
      refine ⟨_, _, rfl, by decide, by omega, hP, fun v M' v0 v1 hM => ?_⟩
      obtain ⟨ps, rfl, hP⟩ := hM.lst
      clear hM
      obtain ⟨z, hz, hz2⟩ := atI_nn (xs := [D.int 1, .int 1, .int 2, .int 999999999]) v0 (by show v < 4; omega)
      obtain ⟨n, rfl⟩ : ∃ n, z = .int n := by
        have := List.mem_of_getElem? hz2
        have : z = .int 1 ∨ z = .int 2 ∨ z = .int 999999999 := by simpa using this
        rcases this with h | h | h <;> exact ⟨_, h⟩
      refine x_ixT hz ?_
      repeat walk_at "w"
      refine ⟨_, _, _, rfl, rfl, by simpa using hkne, by simp; omega, by omega, hP, fun d1 M' hd1 hM => ?_⟩
      obtain ⟨ps, rfl, hP⟩ := hM.lst
      clear hM
      obtain ⟨k1, rfl⟩ := mem_strs hd1
      repeat walk_at "w"
      refine x_cat rfl rfl (sze (by simp; omega)) ?_
      repeat walk_at "w"
      refine ⟨_, _, _, rfl, rfl, by simp, by simp; omega, by omega, hP, fun d2 M' hd2 hM => ?_⟩
      obtain ⟨ps, rfl, hP⟩ := hM.lst
      clear hM
      obtain ⟨k2, rfl⟩ : ∃ s, d2 = .str s := by
        rcases List.mem_append.mp hd2 with h | h
        · exact mem_strs h
        · exact ⟨sg "", by simpa using h⟩
      repeat walk_at "w"
      refine trm_l (hKm _ _ ⟨_, _, _, _, _, _, _, ps, _, ms ++ [(n, k1, k2)], rfl, ?_, by simp [hml], hP, by omega⟩)
      rw [List.map_append]; rfl
    clear hP
    rintro δ M ⟨x8, x9, x10, x11, x12, x13, x14, ps, k', ms, rfl, rfl, hml, hP, hk'⟩
    have hml : ms.length ≤ 4 := by omega
    clear v0 v1
    repeat walk_at "w"
    refine ⟨_, _, rfl, by decide, by omega, hP, fun v M' v0 v1 hM => ?_⟩
    obtain ⟨ps, rfl, hP⟩ := hM.lst
    clear hM
    repeat walk_at "w"
    repeat walk_at "w"
    refine for_rng (fun j δ M => ∃ (x8 x10 x11 x12 x13 x14 : Option U) (ps : List D) (k : Nat) (xs : List Ex), δ = [some (.r 0), some (.d (.str ld)), some (.d (.lst (kinds.map .str))), some (.d (.lst (boards.map .str))), some (.d (.lst [.str (ld ++ sg "x"), .str (ld ++ sg "y")])), some (.r 1), some (.d (.int i)), some (.r 2), x8, some (.r 3), x10, x11, x12, x13, x14] ∧ M = [.lst ps, .lst (ts.map encP), .lst (ms.map encM), .lst (xs.map encX)] ∧ xs.length = j ∧ (∀ x ∈ xs, okX x.1) ∧ Por k [.lst ps] ∧ k ≤ c + 3 + 30 * i + 13 + 1 + 3 * j) ?_ ?_ _ _ ⟨_, _, _, _, _, _, ps, _, [], rfl, rfl, rfl, by simp, hP, by omega⟩
    rotate_left
    · clear hP
      rintro j δ M Km hj ⟨x8, x10, x11, x12, x13, x14, ps, k', xs, rfl, rfl, hxl, hxs, hP, hk'⟩ hKm
      have hj : j < 4 := by omega
      clear hKn
      repeat walk_at "w"
      refine ⟨_, _, _, rfl, rfl, by simp, by decide, by omega, hP, fun d1 M' hd1 hM => ?_⟩
      obtain ⟨ps, rfl, hP⟩ := hM.lst
      clear hM
      obtain ⟨wd, rfl, hwd⟩ : ∃ w, d1 = .str w ∧ okX w := by
        have : d1 = .str (sg "less") ∨ d1 = .str (sg "more") ∨ d1 = .str (sg "here") ∨ d1 = .str (sg "there") := by simpa using hd1
        rcases this with h | h | h | h
        · exact ⟨_, h, .inl rfl⟩
        · exact ⟨_, h, .inr (.inl rfl)⟩
        · exact ⟨_, h, .inr (.inr (.inl rfl))⟩
        · exact ⟨_, h, .inr (.inr (.inr rfl))⟩
      repeat walk_at "w"
      refine ⟨_, _, rfl, by decide, by omega, hP, fun v M' v0 v1 hM => ?_⟩
      obtain ⟨ps, rfl, hP⟩ := hM.lst
      clear hM
      repeat walk_at "w"
      repeat walk_at "w"
      refine join_v (fun u M => ∃ ss : List (List Nat), u = .d (.lst (ss.map .str)) ∧ ss ≠ [] ∧ ss.length ≤ 3 ∧ M = [.lst ps, .lst (ts.map encP), .lst (ms.map encM), .lst (xs.map encX)]) ?_ ?_
      · intro K hK
        cases inD (.str wd) [.str (sg "less"), .str (sg "more")]
        · refine x_cF ?_
          repeat walk_at "w"
          exact hK _ _ ⟨kinds, rfl, hkne, by omega, rfl⟩
        · refine x_cT ?_
          repeat walk_at "w"
          exact hK _ _ ⟨boards, rfl, hbne, by omega, rfl⟩
      rintro u M ⟨ss, rfl, hss, hsl, rfl⟩
      repeat walk_at "w"
      refine ⟨_, _, _, rfl, rfl, by simpa using hss, by simp; omega, by omega, hP, fun d2 M' hd2 hM => ?_⟩
      obtain ⟨ps, rfl, hP⟩ := hM.lst
      clear hM
      obtain ⟨k2, rfl⟩ := mem_strs hd2
      repeat walk_at "w"
      refine trm_l (hKm _ _ ⟨_, _, _, _, _, _, ps, _, xs ++ [(wd, 1 + v, k2)], rfl, ?_, by simp [hxl], ?_, hP, by omega⟩)
      · rw [List.map_append]; rfl
      · intro x hx
        rcases List.mem_append.mp hx with h | h
        · exact hxs x h
        · have : x = (wd, 1 + v, k2) := by simpa using h
          rw [this]; exact hwd
    clear hP
    rintro δ M ⟨x8, x10, x11, x12, x13, x14, ps, k', xs, rfl, rfl, hxl, hxs, hP, hk'⟩
    have hxl : xs.length ≤ 4 := by omega
    repeat walk_at "w"
    refine trm_r rfl (hKn _ _ ⟨_, _, _, _, _, _, _, _, _, ps, _, ts ++ [(ms, xs)], rfl, ?_, by simp [htl], ?_, hP, by omega⟩)
    · rw [List.map_append]; rfl
    · intro p hp
      rcases List.mem_append.mp hp with h | h
      · exact hts p h
      · have : p = (ms, xs) := by simpa using h
        rw [this]; exact ⟨by show ms.length ≤ 100; omega, by show xs.length ≤ 100; omega, hxs⟩
  clear hP
  rintro δ M ⟨x6, x7, x8, x9, x10, x11, x12, x13, x14, ps, k, ts, rfl, rfl, htl, hts, hP, hk⟩
  have htl : ts.length ≤ 20 := by omega
  have hk : k ≤ c + 603 := by omega
  clear hkl hbl
  repeat walk_at "w"
  refine lc_rng (fun i acc M => ∃ (ps : List D) (k : Nat) (ss : List (List Nat)), M = [.lst ps, .lst (ts.map encP)] ∧ acc = ss.map .str ∧ ss.length = i ∧ Por k [.lst ps] ∧ k ≤ c + 603 + i) ?_ ?_ [] _ ⟨ps, _, [], rfl, rfl, rfl, hP, hk⟩
  rotate_left
  · clear hP
    rintro i acc M Kn hi ⟨ps, k, ss, rfl, rfl, hsl, hP, hk⟩ hKn
    have hi : i < 2 := hi
    unfold CT.set
    repeat walk_at "w"
    refine x_cat rfl rfl (sze (by simp)) ?_
    repeat walk_at "w"
    refine ⟨_, _, _, rfl, rfl, by simp, by simp, by omega, hP, fun d1 M' hd1 hM => ?_⟩
    obtain ⟨ps, rfl, hP⟩ := hM.lst
    clear hM
    obtain ⟨z, rfl⟩ : ∃ s, d1 = .str s := by
      have : d1 = .str (ld ++ sg "x") ∨ d1 = .str (ld ++ sg "y") ∨ d1 = .str (sg "street") := by simpa using hd1
      rcases this with h | h | h <;> exact ⟨_, h⟩
    refine ⟨_, rfl, sz (by rw [List.length_map]; omega), hKn _ _ ⟨ps, _, ss ++ [z], rfl, by rw [List.map_append]; rfl, by simp [hsl], hP, by omega⟩⟩
  clear hP hk
  rintro acc M ⟨ps, k, ss, rfl, rfl, hsl, hP, hk⟩
  have hsl : ss.length = 2 := hsl
  obtain ⟨z1, z2, rfl⟩ : ∃ a b, ss = [a, b] := by
    match ss, hsl with
    | [a, b], _ => exact ⟨a, b, rfl⟩
  have hk : k ≤ c + 605 := hk
  repeat walk_at "w"
  refine ⟨_, _, rfl, by decide, by omega, hP, fun v M' v0 v1 hM => ?_⟩
  obtain ⟨ps, rfl, hP⟩ := hM.lst
  clear hM
  repeat walk_at "w"
  repeat walk_at "w"
  refine lc_rng (fun i acc M => ∃ (ps : List D) (k : Nat) (ss : List (List Nat)), M = [.lst ps, .lst (ts.map encP)] ∧ acc = ss.map .str ∧ ss.length = i ∧ Por k [.lst ps] ∧ k ≤ c + 606 + i) ?_ ?_ [] _ ⟨ps, _, [], rfl, rfl, rfl, hP, by omega⟩
  rotate_left
  · clear hP
    rintro i acc M Kn hi ⟨ps, k, ss, rfl, rfl, hsl, hP, hk⟩ hKn
    have hi : i < 3 := by omega
    unfold CT.set
    repeat walk_at "w"
    refine ⟨_, _, _, rfl, rfl, by simp, by decide, by omega, hP, fun d1 M' hd1 hM => ?_⟩
    obtain ⟨ps, rfl, hP⟩ := hM.lst
    clear hM
    obtain ⟨z, rfl⟩ : ∃ s, d1 = .str s := by
      have : d1 = .str (sg "h") ∨ d1 = .str (sg "day") := by simpa using hd1
      rcases this with h | h <;> exact ⟨_, h⟩
    refine ⟨_, rfl, sz (by rw [List.length_map]; omega), hKn _ _ ⟨ps, _, ss ++ [z], rfl, by rw [List.map_append]; rfl, by simp [hsl], hP, by omega⟩⟩
  clear hP hk
  rintro acc M ⟨ps, k, hs, rfl, rfl, hhl, hP, hk⟩
  have hhl : hs.length ≤ 3 := by omega
  have hk : k ≤ c + 610 := by omega
  clear v0 v1
  repeat walk_at "w"
  refine ⟨_, _, rfl, by decide, by omega, hP, fun v M' v0 v1 hM => ?_⟩
  obtain ⟨ps, rfl, hP⟩ := hM.lst
  clear hM
  obtain ⟨wd, hwd, hwd2⟩ := atI_nn (xs := [D.str (sg "door"), .str (sg "way")]) v0 (by show v < 2; omega)
  obtain ⟨w, rfl, hw⟩ : ∃ w, wd = .str w ∧ (w = sg "door" ∨ w = sg "way") := by
    have := List.mem_of_getElem? hwd2
    have : wd = .str (sg "door") ∨ wd = .str (sg "way") := by simpa using this
    rcases this with h | h
    · exact ⟨_, h, .inl rfl⟩
    · exact ⟨_, h, .inr rfl⟩
  refine x_ixT hwd ?_
  repeat walk_at "w"
  refine ⟨_, _, rfl, by decide, by omega, hP, fun v M' v0 v1 hM => ?_⟩
  obtain ⟨ps, rfl, hP⟩ := hM.lst
  clear hM
  repeat walk_at "w"
  refine ⟨_, _, _, rfl, rfl, by simp, by decide, by omega, hP, fun d1 M' hd1 hM => ?_⟩
  obtain ⟨ps, rfl, hP⟩ := hM.lst
  clear hM
  obtain ⟨nm, rfl, hnm⟩ : ∃ s : List Nat, d1 = .str s ∧ s.length ≤ 20 := by
    have : d1 = .str (sg "d") ∨ d1 = .str (sg "w") ∨ d1 = .str (sg "elevensigns") := by simpa using hd1
    rcases this with h | h | h
    · exact ⟨_, h, by decide⟩
    · exact ⟨_, h, by decide⟩
    · exact ⟨_, h, by decide⟩
  repeat walk_at "w"
  exact hQ ⟨w, 1 + v, nm, z1, z2, hs, ts⟩ _ ⟨hw, by show nm.length ≤ 1000; omega, by show hs.length ≤ 100; omega, by show ts.length ≤ 100; omega, hts⟩ (hP.up (by omega))
theorem rowsAt_ok (s : Stm) (hs : OkS s) (i : Nat) (p : Pa) (hp : p ∈ s.passes) : ∀ d ∈ rowsAt s i p, okD d = true ∧ szD d ≤ 2500 := by
  obtain ⟨p1, p2, _⟩ := hs.each p hp
  have hh := hs.hours
  have ho : okD (hoursD s) = true ∧ szD (hoursD s) ≤ 101 := by
    constructor
    · unfold hoursD okD
      refine okDs_of fun d hd => ?_
      obtain ⟨z, rfl⟩ := mem_strs hd
      unfold okD; rfl
    · unfold hoursD
      rw [szD]
      have := szDs_of (ds := s.hours.map D.str) (n := 1) fun d hd => by
        obtain ⟨z, rfl⟩ := mem_strs hd
        rw [szD]
        · exact Nat.le_refl _
        · intro _ h; cases h
      rw [List.length_map] at this
      omega
  have f : okD (foreD s p) = true ∧ szD (foreD s p) ≤ 1001 := by
    have a := side_ok (sumT (memAt p.1 s.first false ++ extAt p.2 (sg "less") s.first s.last))
    have b := fold_len (memAt p.1 s.first false ++ extAt p.2 (sg "less") s.first s.last) []
    have c := memAt_len p.1 s.first false
    have d := extAt_len (sg "less") s.first s.last p.2
    rw [List.length_append] at b
    have e : (sumT (memAt p.1 s.first false ++ extAt p.2 (sg "less") s.first s.last)).length ≤ 200 := by
      show (List.foldl addT [] _).length ≤ 200
      have z : ([] : Tb).length = 0 := rfl
      omega
    exact ⟨a.1, by have := a.2; unfold foreD; omega⟩
  have g : okD (backD s p) = true ∧ szD (backD s p) ≤ 1001 := by
    have a := side_ok (sumT (memAt p.1 s.last true ++ extAt p.2 (sg "more") s.first s.last))
    have b := fold_len (memAt p.1 s.last true ++ extAt p.2 (sg "more") s.first s.last) []
    have c := memAt_len p.1 s.last true
    have d := extAt_len (sg "more") s.first s.last p.2
    rw [List.length_append] at b
    have e : (sumT (memAt p.1 s.last true ++ extAt p.2 (sg "more") s.first s.last)).length ≤ 200 := by
      show (List.foldl addT [] _).length ≤ 200
      have z : ([] : Tb).length = 0 := rfl
      omega
    exact ⟨a.1, by have := a.2; unfold backD; omega⟩
  have row : ∀ (n : List Nat) (a b : D), okD a = true ∧ szD a ≤ 1001 → okD b = true ∧ szD b ≤ 1001 → okD (.tup [.str n, hoursD s, a, b]) = true ∧ szD (.tup [.str n, hoursD s, a, b]) ≤ 2500 := by
    intro n a b ha hb
    constructor
    · simp [okD, okDs, ho.1, ha.1, hb.1]
    · have := ho.2; have := ha.2; have := hb.2
      simp only [szD, szDs]; omega
  intro d hd
  unfold rowsAt at hd
  split at hd
  · rcases List.mem_cons.mp hd with rfl | hd
    · exact row _ _ _ f g
    · cases hd
  · rcases List.mem_cons.mp hd with rfl | hd
    · exact row _ _ _ f g
    · rcases List.mem_cons.mp hd with rfl | hd
      · exact row _ _ _ g f
      · cases hd
theorem deeds_ok (s : Stm) (hs : OkS s) : okD (deedsD s) = true ∧ szD (deedsD s) ≤ 1000000 := by
  have go : ∀ (ps : List Pa) (i : Nat), (∀ p ∈ ps, p ∈ s.passes) → (∀ d ∈ rowsFrom s i ps, okD d = true ∧ szD d ≤ 2500) ∧ (rowsFrom s i ps).length ≤ 2 * ps.length := by
    intro ps
    induction ps with
    | nil => intro i _; exact ⟨(fun d hd => by cases hd), by simp [rowsFrom]⟩
    | cons p ps ih =>
      intro i h
      obtain ⟨a, b⟩ := ih (i + 1) fun q hq => h q (List.mem_cons_of_mem _ hq)
      have c := rowsAt_ok s hs i p (h p List.mem_cons_self)
      have d := rowsAt_len s i p
      refine ⟨fun z hz => ?_, ?_⟩
      · rw [rowsFrom] at hz
        rcases List.mem_append.mp hz with hz | hz
        · exact c z hz
        · exact a z hz
      · rw [rowsFrom, List.length_append, List.length_cons]; omega
  obtain ⟨a, b⟩ := go s.passes 0 fun p hp => hp
  have hp := hs.passes
  constructor
  · unfold deedsD okD
    exact okDs_of fun d hd => (a d hd).1
  · have := szDs_of fun d hd => (a d hd).2
    unfold deedsD
    rw [szD]
    omega
def s1 : Stm := ⟨sg "door", 4, sg "d", sg "x", sg "y", [sg "h"], [([(2, sg "a", sg ""), (1, sg "a", sg "b")], [(sg "here", 1, sg "a"), (sg "less", 1, sg "r"), (sg "more", 2, sg "r")])]⟩
def s2 : Stm := ⟨sg "way", 4, sg "d", sg "street", sg "y", [], [([(2, sg "a", sg ""), (1, sg "a", sg "b")], [])]⟩
def s3 : Stm := ⟨sg "way", 4, sg "d", sg "street", sg "street", [], [([(1, sg "a", sg "")], [(sg "more", 3, sg "r")]), ([(1, sg "a", sg "")], [])]⟩
abbrev kv (a b : String) (n : Int) : D := .tup [.tup [.str (sg a), .str (sg b)], .int n]
def e1 : D := .tup [.tup [.str (sg "d1"), .tup [.str (sg "h")], .tup [kv "a" "x" 4, kv "r" "" 1], .tup [kv "a" "x" 1, kv "a" "y" 2, kv "b" "y" 1, kv "r" "" 2]]]
def e2 : D := .tup [.tup [.str (sg "d1f"), .tup [], .tup [], .tup [kv "a" "y" 2, kv "b" "y" 1]], .tup [.str (sg "d1b"), .tup [], .tup [kv "a" "y" 2, kv "b" "y" 1], .tup []]]
def e3 : D := .tup [.tup [.str (sg "d1f"), .tup [], .tup [], .tup [kv "r" "" 3]], .tup [.str (sg "d1b"), .tup [], .tup [kv "r" "" 3], .tup []], .tup [.str (sg "d2f"), .tup [], .tup [], .tup []], .tup [.str (sg "d2b"), .tup [], .tup [], .tup []]]
theorem ok1 : OkS s1 := ⟨.inl rfl, by decide, by decide, by decide, by
  intro p hp
  rcases List.mem_cons.mp hp with rfl | hp
  · refine ⟨by decide, by decide, fun x hx => ?_⟩
    rcases List.mem_cons.mp hx with rfl | hx
    · exact .inr (.inr (.inl rfl))
    rcases List.mem_cons.mp hx with rfl | hx
    · exact .inl rfl
    rcases List.mem_cons.mp hx with rfl | hx
    · exact .inr (.inl rfl)
    cases hx
  · cases hp⟩
theorem ok2 : OkS s2 := ⟨.inr rfl, by decide, by decide, by decide, by
  intro p hp
  rcases List.mem_cons.mp hp with rfl | hp
  · exact ⟨by decide, by decide, fun x hx => by cases hx⟩
  · cases hp⟩
theorem ok3 : OkS s3 := ⟨.inr rfl, by decide, by decide, by decide, by
  intro p hp
  rcases List.mem_cons.mp hp with rfl | hp
  · refine ⟨by decide, by decide, fun x hx => ?_⟩
    rcases List.mem_cons.mp hx with rfl | hx
    · exact .inr (.inl rfl)
    cases hx
  rcases List.mem_cons.mp hp with rfl | hp
  · exact ⟨by decide, by decide, fun x hx => by cases hx⟩
  cases hp⟩
theorem srt2 {a b : D} (h1 : leD a b = true) : sortD [a, b] = [a, b] := by
  unfold sortD
  simp [List.mergeSort, List.MergeSort.Internal.splitInTwo, List.merge, h1]
theorem srt4 {a b c d : D} (h1 : leD a b = true) (h2 : leD c d = true) (h3 : leD a c = false) (h4 : leD a d = true) (h5 : leD b d = true): sortD [a, b, c, d] = [c, a, b, d] := by
  unfold sortD
  simp [List.mergeSort, List.MergeSort.Internal.splitInTwo, List.merge, h1, h2, h3, h4, h5]
theorem srt0 : sortD [] = [] := by unfold sortD; simp [List.mergeSort]
def q1 : Pa := ([(2, sg "a", sg ""), (1, sg "a", sg "b")], [(sg "here", 1, sg "a"), (sg "less", 1, sg "r"), (sg "more", 2, sg "r")])
def q2 : Pa := ([(2, sg "a", sg ""), (1, sg "a", sg "b")], [])
theorem sideD_of {ps : List (Ky × Int)} {t : Tb} {ks : List D} {r : D} (h1 : sumT ps = t) (h2 : sortD (keysT t) = ks) (h3 : D.tup (ks.map fun k => .tup [k, (asc (encT t) k).getD .non]) = r) : sideD (sumT ps) = r := by
  rw [h1]; unfold sideD; rw [h2, h3]
theorem fore1 : foreD s1 q1 = .tup [kv "a" "x" 4, kv "r" "" 1] :=
  sideD_of (t := [((sg "a", sg "x"), 4), ((sg "r", sg ""), 1)]) (by decide +kernel) (srt2 (by decide +kernel)) rfl
theorem back1 : backD s1 q1 = .tup [kv "a" "x" 1, kv "a" "y" 2, kv "b" "y" 1, kv "r" "" 2] :=
  sideD_of (t := [((sg "a", sg "y"), 2), ((sg "b", sg "y"), 1), ((sg "a", sg "x"), 1), ((sg "r", sg ""), 2)]) (by decide +kernel) (srt4 (by decide +kernel) (by decide +kernel) (by decide +kernel) (by decide +kernel) (by decide +kernel)) rfl
theorem fore2 : foreD s2 q2 = .tup [] := sideD_of (t := []) (by decide +kernel) srt0 rfl
theorem back2 : backD s2 q2 = .tup [kv "a" "y" 2, kv "b" "y" 1] :=
  sideD_of (t := [((sg "a", sg "y"), 2), ((sg "b", sg "y"), 1)]) (by decide +kernel) (srt2 (by decide +kernel)) rfl
theorem deeds1 : deedsD s1 = e1 := by
  have e : deedsD s1 = .tup [.tup [.str (nameAt s1 0), hoursD s1, foreD s1 q1, backD s1 q1]] := rfl
  have n : nameAt s1 0 = sg "d1" := by decide +kernel
  rw [e, fore1, back1, n]; rfl
theorem deeds2 : deedsD s2 = e2 := by
  have e : deedsD s2 = .tup [.tup [.str (nameAt s2 0 ++ sg "f"), hoursD s2, foreD s2 q2, backD s2 q2], .tup [.str (nameAt s2 0 ++ sg "b"), hoursD s2, backD s2 q2, foreD s2 q2]] := rfl
  have n : nameAt s2 0 ++ sg "f" = sg "d1f" := by decide +kernel
  have m : nameAt s2 0 ++ sg "b" = sg "d1b" := by decide +kernel
  rw [e, fore2, back2, n, m]; rfl
theorem deeds3 : deedsD s3 = e3 := by with_unfolding_all rfl
/-! ### the law -/
set_option maxHeartbeats 4000000 in
theorem m_law_w : ∀ us M Q, m_law us M Q (fun _ _ => False) → W_law m_porch m_stm m_same m_deeds m_pass (fnEnds 0 0 Q (fun _ _ => False)) (slots N_law us) M := by
  rintro us M Q ⟨ns, rfl, hn, rfl, hQ⟩
  unfold W_law
  repeat walk_at "w"
  refine x_ok' rfl rfl ?_
  refine ⟨ns, rfl, hn, rfl, fun M' hM => ?_⟩
  obtain ⟨ps, rfl, hP⟩ := hM.lst
  clear hM
  repeat walk_at "w"
  refine for_rng (fun i δ M => ∃ (x2 x3 x4 x5 x6 : Option U) (ps : List D) (k : Nat), δ = [some (.d (.scr (ns.map .int))), some (.r 0), x2, x3, x4, x5, x6] ∧ M = [.lst ps] ∧ Por k [.lst ps] ∧ k ≤ 1000 * i) ?_ ?_ _ _ ⟨_, _, _, _, _, ps, _, rfl, rfl, hP, by decide⟩
  rotate_left
  · clear hP
    rintro i δ M Kn hi ⟨x2, x3, x4, x5, x6, ps, k, rfl, rfl, hP, hk⟩ hKn
    have hi : i < 6 := hi
    repeat walk_at "w"
    refine ⟨_, rfl, by omega, hP, fun s M' hs hM => ?_⟩
    obtain ⟨ps, rfl, hP⟩ := hM.lst
    clear hM
    have hd := deeds_ok s hs
    repeat walk_at "w"
    refine ⟨s, rfl, hs, rfl, ?_⟩
    repeat walk_at "w"
    refine ⟨s, rfl, hs, rfl, ?_⟩
    repeat walk_at "w"
    refine ⟨_, rfl, hd.1, hd.2, rfl, ?_⟩
    repeat walk_at "w"
    refine cndF rfl ?_
    repeat walk_at "w"
    exact trm_l (hKn _ _ ⟨_, _, _, _, _, ps, _, rfl, rfl, hP, by omega⟩)
  clear hP
  rintro δ M ⟨x2, x3, x4, x5, x6, ps, k, rfl, rfl, hP, hk⟩
  repeat walk_at "w"
  refine ⟨s1, rfl, ok1, rfl, ?_⟩
  rw [deeds1]
  repeat walk_at "w"
  refine ⟨e1, rfl, by decide +kernel, by decide +kernel, rfl, ?_⟩
  repeat walk_at "w"
  refine cndF rfl ?_
  repeat walk_at "w"
  refine ⟨s2, rfl, ok2, rfl, ?_⟩
  rw [deeds2]
  repeat walk_at "w"
  refine ⟨e2, rfl, by decide +kernel, by decide +kernel, rfl, ?_⟩
  repeat walk_at "w"
  refine cndF rfl ?_
  repeat walk_at "w"
  refine ⟨s3, rfl, ok3, rfl, ?_⟩
  rw [deeds3]
  repeat walk_at "w"
  refine ⟨e3, rfl, by decide +kernel, by decide +kernel, rfl, ?_⟩
  repeat walk_at "w"
  exact hQ
theorem so_porch : SpecOk m_porch := ⟨by rintro us M Q Q' E E' hq he ⟨ns, a, b, c, h⟩; exact ⟨ns, a, b, c, fun M' p => hq _ _ (h M' p)⟩⟩
theorem so_sill : SpecOk m_sill := ⟨by rintro us M Q Q' E E' hq he ⟨n, c, a, b, d, e, h⟩; exact ⟨n, c, a, b, d, e, fun v M' x y z => hq _ _ (h v M' x y z)⟩⟩
theorem so_one : SpecOk m_one := ⟨by rintro us M Q Q' E E' hq he ⟨r, ds, c, a, b, d, e, f, g, h⟩; exact ⟨r, ds, c, a, b, d, e, f, g, fun v M' x y => hq _ _ (h v M' x y)⟩⟩
theorem so_same : SpecOk m_same := ⟨by rintro us M Q Q' E E' hq he ⟨x, a, b, c, d, h⟩; exact ⟨x, a, b, c, d, hq _ _ h⟩⟩
theorem so_put : SpecOk m_put := ⟨by rintro us M Q Q' E E' hq he ⟨t, k, n, a, b, c, h⟩; exact ⟨t, k, n, a, b, c, hq _ _ h⟩⟩
theorem so_side : SpecOk m_side := ⟨by rintro us M Q Q' E E' hq he ⟨t, a, b, c, h⟩; exact ⟨t, a, b, c, hq _ _ h⟩⟩
theorem so_members : SpecOk m_members := ⟨by rintro us M Q Q' E E' hq he ⟨ms, z, t, a, b, c, h⟩; exact ⟨ms, z, t, a, b, c, hq _ _ h⟩⟩
theorem so_extras : SpecOk m_extras := ⟨by rintro us M Q Q' E E' hq he ⟨ms, z, t, u, a, b, c, h⟩; exact ⟨ms, z, t, u, a, b, c, hq _ _ h⟩⟩
theorem so_summed : SpecOk m_summed := ⟨by rintro us M Q Q' E E' hq he ⟨ps, a, b, c, h⟩; exact ⟨ps, a, b, c, hq _ _ h⟩⟩
theorem so_pass : SpecOk m_pass := ⟨by rintro us M Q Q' E E' hq he ⟨s, a, b, c, h⟩; exact ⟨s, a, b, c, hq _ _ h⟩⟩
theorem so_deeds : SpecOk m_deeds := ⟨by rintro us M Q Q' E E' hq he ⟨s, a, b, c, h⟩; exact ⟨s, a, b, c, hq _ _ h⟩⟩
theorem so_stm : SpecOk m_stm := ⟨by rintro us M Q Q' E E' hq he ⟨c, a, b, d, h⟩; exact ⟨c, a, b, d, fun s M' x y => hq _ _ (h s M' x y)⟩⟩
theorem all_mk {l : PySem.W.OpenLaw} {w : World} {K : PySem.W.Frag} {h : Heap} {mg : Str → Option Value} {fa f_pass_deeds f_members_at f_extras_at f_summed f_law_porch f_law_sill f_law_one f_law_same f_law_statement f_law_put f_law_side f_law_deeds f_law : Addr} (X : K.In h) (G : h.Ns mainGlobals mg) (hfa : mg "law" = some (.ref fa))
    {od_pass_deeds od_members_at od_extras_at od_summed od_law_porch od_law_sill od_law_one od_law_same od_law_statement od_law_put od_law_side od_law_deeds od_law an_pass_deeds an_members_at an_extras_at an_summed an_law_porch an_law_sill an_law_one an_law_same an_law_statement an_law_put an_law_side an_law_deeds an_law : Option Addr} {sl_pass_deeds sl_members_at sl_extras_at sl_summed sl_law_porch sl_law_sill sl_law_one sl_law_same sl_law_statement sl_law_put sl_law_side sl_law_deeds sl_law : Array (Option Value)} {oc_pass_deeds oc_members_at oc_extras_at oc_summed oc_law_porch oc_law_sill oc_law_one oc_law_same oc_law_statement oc_law_put oc_law_side oc_law_deeds oc_law kV_pass_deeds kV_members_at kV_extras_at kV_summed kV_law_porch kV_law_sill kV_law_one kV_law_same kV_law_statement kV_law_put kV_law_side kV_law_deeds kV_law dc_pass_deeds dc_members_at dc_extras_at dc_summed dc_law_porch dc_law_sill dc_law_one dc_law_same dc_law_statement dc_law_put dc_law_side dc_law_deeds dc_law pm_pass_deeds pm_members_at pm_extras_at pm_summed pm_law_porch pm_law_sill pm_law_one pm_law_same pm_law_statement pm_law_put pm_law_side pm_law_deeds pm_law cd_pass_deeds cd_members_at cd_extras_at cd_summed cd_law_porch cd_law_sill cd_law_one cd_law_same cd_law_statement cd_law_put cd_law_side cd_law_deeds cd_law ct_pass_deeds ct_members_at ct_extras_at ct_summed ct_law_porch ct_law_sill ct_law_one ct_law_same ct_law_statement ct_law_put ct_law_side ct_law_deeds ct_law : Value}
    (a_pass_deeds : PySem.W.nsIn K mainGlobals "pass_deeds" = some (some (.ref f_pass_deeds))) (l_pass_deeds : K.lookup f_pass_deeds = some ⟨oc_pass_deeds, od_pass_deeds, .func (PySem.W.fnOf "pass_deeds" "pass_deeds" (defArgs s_pass_deeds) (defBody s_pass_deeds) (defScope s_pass_deeds) .none kV_pass_deeds dc_pass_deeds pm_pass_deeds an_pass_deeds cd_pass_deeds ct_pass_deeds), sl_pass_deeds⟩) (c_pass_deeds : PySem.W.codeIn K cd_pass_deeds "pass_deeds" = true) (k_pass_deeds : PySem.W.keepIn K (.ref f_pass_deeds) = true)
    (a_members_at : PySem.W.nsIn K mainGlobals "members_at" = some (some (.ref f_members_at))) (l_members_at : K.lookup f_members_at = some ⟨oc_members_at, od_members_at, .func (PySem.W.fnOf "members_at" "members_at" (defArgs s_members_at) (defBody s_members_at) (defScope s_members_at) .none kV_members_at dc_members_at pm_members_at an_members_at cd_members_at ct_members_at), sl_members_at⟩) (c_members_at : PySem.W.codeIn K cd_members_at "members_at" = true) (k_members_at : PySem.W.keepIn K (.ref f_members_at) = true)
    (a_extras_at : PySem.W.nsIn K mainGlobals "extras_at" = some (some (.ref f_extras_at))) (l_extras_at : K.lookup f_extras_at = some ⟨oc_extras_at, od_extras_at, .func (PySem.W.fnOf "extras_at" "extras_at" (defArgs s_extras_at) (defBody s_extras_at) (defScope s_extras_at) .none kV_extras_at dc_extras_at pm_extras_at an_extras_at cd_extras_at ct_extras_at), sl_extras_at⟩) (c_extras_at : PySem.W.codeIn K cd_extras_at "extras_at" = true) (k_extras_at : PySem.W.keepIn K (.ref f_extras_at) = true)
    (a_summed : PySem.W.nsIn K mainGlobals "summed" = some (some (.ref f_summed))) (l_summed : K.lookup f_summed = some ⟨oc_summed, od_summed, .func (PySem.W.fnOf "summed" "summed" (defArgs s_summed) (defBody s_summed) (defScope s_summed) .none kV_summed dc_summed pm_summed an_summed cd_summed ct_summed), sl_summed⟩) (c_summed : PySem.W.codeIn K cd_summed "summed" = true) (k_summed : PySem.W.keepIn K (.ref f_summed) = true)
    (a_law_porch : PySem.W.nsIn K mainGlobals "_law_porch" = some (some (.ref f_law_porch))) (l_law_porch : K.lookup f_law_porch = some ⟨oc_law_porch, od_law_porch, .func (PySem.W.fnOf "_law_porch" "_law_porch" (defArgs s_law_porch) (defBody s_law_porch) (defScope s_law_porch) .none kV_law_porch dc_law_porch pm_law_porch an_law_porch cd_law_porch ct_law_porch), sl_law_porch⟩) (c_law_porch : PySem.W.codeIn K cd_law_porch "_law_porch" = true) (k_law_porch : PySem.W.keepIn K (.ref f_law_porch) = true)
    (a_law_sill : PySem.W.nsIn K mainGlobals "_law_sill" = some (some (.ref f_law_sill))) (l_law_sill : K.lookup f_law_sill = some ⟨oc_law_sill, od_law_sill, .func (PySem.W.fnOf "_law_sill" "_law_sill" (defArgs s_law_sill) (defBody s_law_sill) (defScope s_law_sill) .none kV_law_sill dc_law_sill pm_law_sill an_law_sill cd_law_sill ct_law_sill), sl_law_sill⟩) (c_law_sill : PySem.W.codeIn K cd_law_sill "_law_sill" = true) (k_law_sill : PySem.W.keepIn K (.ref f_law_sill) = true)
    (a_law_one : PySem.W.nsIn K mainGlobals "_law_one" = some (some (.ref f_law_one))) (l_law_one : K.lookup f_law_one = some ⟨oc_law_one, od_law_one, .func (PySem.W.fnOf "_law_one" "_law_one" (defArgs s_law_one) (defBody s_law_one) (defScope s_law_one) .none kV_law_one dc_law_one pm_law_one an_law_one cd_law_one ct_law_one), sl_law_one⟩) (c_law_one : PySem.W.codeIn K cd_law_one "_law_one" = true) (k_law_one : PySem.W.keepIn K (.ref f_law_one) = true)
    (a_law_same : PySem.W.nsIn K mainGlobals "_law_same" = some (some (.ref f_law_same))) (l_law_same : K.lookup f_law_same = some ⟨oc_law_same, od_law_same, .func (PySem.W.fnOf "_law_same" "_law_same" (defArgs s_law_same) (defBody s_law_same) (defScope s_law_same) .none kV_law_same dc_law_same pm_law_same an_law_same cd_law_same ct_law_same), sl_law_same⟩) (c_law_same : PySem.W.codeIn K cd_law_same "_law_same" = true) (k_law_same : PySem.W.keepIn K (.ref f_law_same) = true)
    (a_law_statement : PySem.W.nsIn K mainGlobals "_law_statement" = some (some (.ref f_law_statement))) (l_law_statement : K.lookup f_law_statement = some ⟨oc_law_statement, od_law_statement, .func (PySem.W.fnOf "_law_statement" "_law_statement" (defArgs s_law_statement) (defBody s_law_statement) (defScope s_law_statement) .none kV_law_statement dc_law_statement pm_law_statement an_law_statement cd_law_statement ct_law_statement), sl_law_statement⟩) (c_law_statement : PySem.W.codeIn K cd_law_statement "_law_statement" = true) (k_law_statement : PySem.W.keepIn K (.ref f_law_statement) = true)
    (a_law_put : PySem.W.nsIn K mainGlobals "_law_put" = some (some (.ref f_law_put))) (l_law_put : K.lookup f_law_put = some ⟨oc_law_put, od_law_put, .func (PySem.W.fnOf "_law_put" "_law_put" (defArgs s_law_put) (defBody s_law_put) (defScope s_law_put) .none kV_law_put dc_law_put pm_law_put an_law_put cd_law_put ct_law_put), sl_law_put⟩) (c_law_put : PySem.W.codeIn K cd_law_put "_law_put" = true) (k_law_put : PySem.W.keepIn K (.ref f_law_put) = true)
    (a_law_side : PySem.W.nsIn K mainGlobals "_law_side" = some (some (.ref f_law_side))) (l_law_side : K.lookup f_law_side = some ⟨oc_law_side, od_law_side, .func (PySem.W.fnOf "_law_side" "_law_side" (defArgs s_law_side) (defBody s_law_side) (defScope s_law_side) .none kV_law_side dc_law_side pm_law_side an_law_side cd_law_side ct_law_side), sl_law_side⟩) (c_law_side : PySem.W.codeIn K cd_law_side "_law_side" = true) (k_law_side : PySem.W.keepIn K (.ref f_law_side) = true)
    (a_law_deeds : PySem.W.nsIn K mainGlobals "_law_deeds" = some (some (.ref f_law_deeds))) (l_law_deeds : K.lookup f_law_deeds = some ⟨oc_law_deeds, od_law_deeds, .func (PySem.W.fnOf "_law_deeds" "_law_deeds" (defArgs s_law_deeds) (defBody s_law_deeds) (defScope s_law_deeds) .none kV_law_deeds dc_law_deeds pm_law_deeds an_law_deeds cd_law_deeds ct_law_deeds), sl_law_deeds⟩) (c_law_deeds : PySem.W.codeIn K cd_law_deeds "_law_deeds" = true) (k_law_deeds : PySem.W.keepIn K (.ref f_law_deeds) = true)
    (a_law : PySem.W.nsIn K mainGlobals "law" = some (some (.ref f_law))) (l_law : K.lookup f_law = some ⟨oc_law, od_law, .func (PySem.W.fnOf "law" "law" (defArgs s_law) (defBody s_law) (defScope s_law) .none kV_law dc_law pm_law an_law cd_law ct_law), sl_law⟩) (c_law : PySem.W.codeIn K cd_law "law" = true) (k_law : PySem.W.keepIn K (.ref f_law) = true)
    (z_bool : PySem.W.nsIn K mainGlobals "bool" = some none)
    (z_int : PySem.W.nsIn K mainGlobals "int" = some none)
    (z_isinstance : PySem.W.nsIn K mainGlobals "isinstance" = some none)
    (z_len : PySem.W.nsIn K mainGlobals "len" = some none)
    (z_max : PySem.W.nsIn K mainGlobals "max" = some none)
    (z_range : PySem.W.nsIn K mainGlobals "range" = some none)
    (z_sorted : PySem.W.nsIn K mainGlobals "sorted" = some none)
    (z_str : PySem.W.nsIn K mainGlobals "str" = some none)
    (z_tuple : PySem.W.nsIn K mainGlobals "tuple" = some none) :
    ∃ fd : FuncData, (∀ (s : Shared) (v : Value), BindsTo s fd ⟨[v], []⟩ [("script", v)]) ∧ ∀ base : Heap, K.In base → base.Ns mainGlobals mg → FnOk l.prog w K mg base CX0 4 fa fd ["script"] (spLaw K) := by
  have e := hfa.symm.trans (PySem.W.mg_of X G a_law)
  cases e
  have T : Tx mg := ⟨PySem.W.mg_none_of X G z_bool, PySem.W.mg_none_of X G z_int, PySem.W.mg_none_of X G z_isinstance, PySem.W.mg_none_of X G z_len, PySem.W.mg_none_of X G z_max, PySem.W.mg_none_of X G z_range, PySem.W.mg_none_of X G z_sorted, PySem.W.mg_none_of X G z_str, PySem.W.mg_none_of X G z_tuple⟩
  have F_pass_deeds := fun_mk (st := s_pass_deeds) l_pass_deeds c_pass_deeds k_pass_deeds
  have F_members_at := fun_mk (st := s_members_at) l_members_at c_members_at k_members_at
  have F_extras_at := fun_mk (st := s_extras_at) l_extras_at c_extras_at k_extras_at
  have F_summed := fun_mk (st := s_summed) l_summed c_summed k_summed
  have F_law_porch := fun_mk (st := s_law_porch) l_law_porch c_law_porch k_law_porch
  have F_law_sill := fun_mk (st := s_law_sill) l_law_sill c_law_sill k_law_sill
  have F_law_one := fun_mk (st := s_law_one) l_law_one c_law_one k_law_one
  have F_law_same := fun_mk (st := s_law_same) l_law_same c_law_same k_law_same
  have F_law_statement := fun_mk (st := s_law_statement) l_law_statement c_law_statement k_law_statement
  have F_law_put := fun_mk (st := s_law_put) l_law_put c_law_put k_law_put
  have F_law_side := fun_mk (st := s_law_side) l_law_side c_law_side k_law_side
  have F_law_deeds := fun_mk (st := s_law_deeds) l_law_deeds c_law_deeds k_law_deeds
  have F_law := fun_mk (st := s_law) l_law c_law k_law
  refine ⟨PySem.W.fnOf "law" "law" (defArgs s_law) (defBody s_law) (defScope s_law) .none kV_law dc_law pm_law an_law cd_law ct_law, fun s v => .of_eq rfl, fun base _ _ => ?_⟩
  have C_law_porch := cal_law_porch (P := l.prog) (w := w) (base := base) F_law_porch (PySem.W.mg_of X G a_law_porch) T so_porch (by rintro us M Q E ⟨_, rfl, _⟩; rfl) m_porch_w
  have C_law_sill := cal_law_sill (P := l.prog) (w := w) (base := base) F_law_sill (PySem.W.mg_of X G a_law_sill) T so_sill (by rintro us M Q E ⟨_, _, rfl, _⟩; rfl) m_sill_w
  have C_law_one := cal_law_one (P := l.prog) (w := w) (base := base) F_law_one (PySem.W.mg_of X G a_law_one) T C_law_sill so_one (by rintro us M Q E ⟨_, _, _, rfl, _⟩; rfl) m_one_w
  have C_law_statement := cal_law_statement (P := l.prog) (w := w) (base := base) F_law_statement (PySem.W.mg_of X G a_law_statement) T C_law_one C_law_sill so_stm (by rintro us M Q E ⟨_, rfl, _⟩; rfl) m_stm_w
  have C_law_same := cal_law_same (P := l.prog) (w := w) (base := base) F_law_same (PySem.W.mg_of X G a_law_same) T so_same (by rintro us M Q E ⟨_, rfl, _⟩; rfl) m_same_w
  have C_law_put := cal_law_put (P := l.prog) (w := w) (base := base) F_law_put (PySem.W.mg_of X G a_law_put) T so_put (by rintro us M Q E ⟨_, _, _, rfl, _⟩; rfl) m_put_w
  have C_law_side := cal_law_side (P := l.prog) (w := w) (base := base) F_law_side (PySem.W.mg_of X G a_law_side) T so_side (by rintro us M Q E ⟨_, rfl, _⟩; rfl) m_side_w
  have C_law_deeds := cal_law_deeds (P := l.prog) (w := w) (base := base) F_law_deeds (PySem.W.mg_of X G a_law_deeds) T C_law_put C_law_side so_deeds (by rintro us M Q E ⟨_, rfl, _⟩; rfl) m_deeds_w
  have C_members_at := cal_members_at (P := l.prog) (w := w) (base := base) F_members_at (PySem.W.mg_of X G a_members_at) T so_members (by rintro us M Q E ⟨_, _, _, rfl, _⟩; rfl) m_members_w
  have C_extras_at := cal_extras_at (P := l.prog) (w := w) (base := base) F_extras_at (PySem.W.mg_of X G a_extras_at) T so_extras (by rintro us M Q E ⟨_, _, _, _, rfl, _⟩; rfl) m_extras_w
  have C_summed := cal_summed (P := l.prog) (w := w) (base := base) F_summed (PySem.W.mg_of X G a_summed) T so_summed (by rintro us M Q E ⟨_, rfl, _⟩; rfl) m_summed_w
  have C_pass_deeds := cal_pass_deeds (P := l.prog) (w := w) (base := base) F_pass_deeds (PySem.W.mg_of X G a_pass_deeds) T C_members_at C_extras_at C_summed so_pass (by rintro us M Q E ⟨_, rfl, _⟩; rfl) m_pass_w
  exact (fn_ok F_law sc_law (m := m_law) (by rintro us M Q E ⟨_, rfl, _⟩; rfl) (by decide) (fun _ _ _ _ _ _ hr => d_law T C_law_porch C_law_statement C_law_same C_law_deeds C_pass_deeds hr) m_law_w fun _ _ _ _ h => h).imp law_in
end DL
open PySem PySem.W PyProof.Rows
set_option maxHeartbeats 0 in
theorem PySem.Challenge.cw_whoeverwithin_k07_passes_holds : PySem.Challenge.rw_whoeverwithin_k07_passes.Holds := by
  w_on; o_law; k_head; (case hw => w_witness2)
  k_fill
  refine L2.walk_of (l := PySem.Challenge.rw_whoeverwithin_k07_passes) (n := 63) (k := 4) (x := "script") (CX := fun _ => L2.CX0) (sp := fun w => DL.spLaw _) rfl (by decide) rfl ⟨rfl, by decide, by decide⟩ (fun w h Y => PySem.W.kIn_of Y) ?F (fun _ _ a ns hl _ hS => ⟨a, ns, rfl, hS, hl, fun _ => rfl⟩) (fun _ _ _ _ _ h => h)
  case F =>
    intro w mg fa h KX G hmg
    refine' DL.all_mk KX G hmg ?a_pass_deeds ?l_pass_deeds ?c_pass_deeds ?k_pass_deeds ?a_members_at ?l_members_at ?c_members_at ?k_members_at ?a_extras_at ?l_extras_at ?c_extras_at ?k_extras_at ?a_summed ?l_summed ?c_summed ?k_summed ?a_law_porch ?l_law_porch ?c_law_porch ?k_law_porch ?a_law_sill ?l_law_sill ?c_law_sill ?k_law_sill ?a_law_one ?l_law_one ?c_law_one ?k_law_one ?a_law_same ?l_law_same ?c_law_same ?k_law_same ?a_law_statement ?l_law_statement ?c_law_statement ?k_law_statement ?a_law_put ?l_law_put ?c_law_put ?k_law_put ?a_law_side ?l_law_side ?c_law_side ?k_law_side ?a_law_deeds ?l_law_deeds ?c_law_deeds ?k_law_deeds ?a_law ?l_law ?c_law ?k_law ?z_bool ?z_int ?z_isinstance ?z_len ?z_max ?z_range ?z_sorted ?z_str ?z_tuple
    case a_pass_deeds => k_is
    case l_pass_deeds => k_is
    case c_pass_deeds => k_is
    case k_pass_deeds => k_is
    case a_members_at => k_is
    case l_members_at => k_is
    case c_members_at => k_is
    case k_members_at => k_is
    case a_extras_at => k_is
    case l_extras_at => k_is
    case c_extras_at => k_is
    case k_extras_at => k_is
    case a_summed => k_is
    case l_summed => k_is
    case c_summed => k_is
    case k_summed => k_is
    case a_law_porch => k_is
    case l_law_porch => k_is
    case c_law_porch => k_is
    case k_law_porch => k_is
    case a_law_sill => k_is
    case l_law_sill => k_is
    case c_law_sill => k_is
    case k_law_sill => k_is
    case a_law_one => k_is
    case l_law_one => k_is
    case c_law_one => k_is
    case k_law_one => k_is
    case a_law_same => k_is
    case l_law_same => k_is
    case c_law_same => k_is
    case k_law_same => k_is
    case a_law_statement => k_is
    case l_law_statement => k_is
    case c_law_statement => k_is
    case k_law_statement => k_is
    case a_law_put => k_is
    case l_law_put => k_is
    case c_law_put => k_is
    case k_law_put => k_is
    case a_law_side => k_is
    case l_law_side => k_is
    case c_law_side => k_is
    case k_law_side => k_is
    case a_law_deeds => k_is
    case l_law_deeds => k_is
    case c_law_deeds => k_is
    case k_law_deeds => k_is
    case a_law => k_is
    case l_law => k_is
    case c_law => k_is
    case k_law => k_is
    case z_bool => k_is
    case z_int => k_is
    case z_isinstance => k_is
    case z_len => k_is
    case z_max => k_is
    case z_range => k_is
    case z_sorted => k_is
    case z_str => k_is
    case z_tuple => k_is
