import PyProof.Rows.All
import Wide.All
import OpenK.AllK
import Wide.FinOn
import HandS.ForMost
import HandS.Walk
import HandS.IsInst
import HandS.Style
import HandS.OwnEq
import HandS.Codes
import KE.KExcSuper
import KE.KSuperObj
import HandS.ExcInit
import HandS.Nested
import HandS.WordsExc
import HandS.Ends
import PyProof.ReprRoads
import HandS.MakeKwOnly
import HandS.ExcIs
import HandS.ExcField
import KE.KExcIs
import HandS.WideBits
import PyProof.ReprLen
import PySem.Challenge.RW_curveheads_k07_curves
section
set_option Elab.async false
set_option linter.all false
set_option maxRecDepth 100000
set_option autoImplicit false
set_option maxHeartbeats 4000000
/-! data instead of heaps: what an expression is worth as data, what a statement makes of the data that the slots hold -/
namespace DL
open PySem PySem.Spec PyProof.Rows L2

/-- data -/
inductive Dt where
  | non | bl (b : Bool) | int (i : Int) | str (x : Str)
  | li (xs : List Int)
  | lst (ds : List Dt) | tup (ds : List Dt)
  | ins (C : Addr) (fs : List (Str × Dt))
  | ty (n : String) | kon (a : Addr)
  | scr (xs : List Int)

abbrev Gr := Addr → HO → Prop
mutual
inductive Dv (G : Gr) : V → Dt → Prop
  | non : Dv G .non .non
  | bl (b : Bool) : Dv G (.bl b) (.bl b)
  | int (i : Int) : Dv G (.int i) (.int i)
  | str (x : Str) : Dv G (.str x) (.str x)
  | ty (n : String) : Dv G (.ty n) (.ty n)
  | kon (a : Addr) : Dv G (.ref a) (.kon a)
  | scr {a : Addr} {o : Obj} {xs : List Int} : G a (.frz o (.lst (xs.map V.int))) → Dv G (.ref a) (.scr xs)
  | tup {a : Addr} {vs : List V} {ds : List Dt} : G a (.tup vs) → DvA G vs ds → Dv G (.ref a) (.tup ds)
  | cell {a : Addr} {o : HO} {d : Dt} : G a o → Cell G o d → Dv G (.ref a) d
inductive Cell (G : Gr) : HO → Dt → Prop
  | li (xs : List Int) : Cell G (.lst (xs.map V.int)) (.li xs)
  | lst {vs : List V} {ds : List Dt} : DvA G vs ds → Cell G (.lst vs) (.lst ds)
  | ins {C dx : Addr} {fs : List (Str × V)} {gs : List (Str × Dt)} : DvF G fs gs → Cell G (.ins C dx fs) (.ins C gs)
inductive DvA (G : Gr) : List V → List Dt → Prop
  | nil : DvA G [] []
  | cons {v : V} {vs : List V} {d : Dt} {ds : List Dt} : Dv G v d → DvA G vs ds → DvA G (v :: vs) (d :: ds)
inductive DvF (G : Gr) : List (Str × V) → List (Str × Dt) → Prop
  | nil : DvF G [] []
  | cons {f : Str} {v : V} {fs : List (Str × V)} {d : Dt} {gs : List (Str × Dt)} : Dv G v d → DvF G fs gs → DvF G ((f, v) :: fs) ((f, d) :: gs)
end

mutual
theorem Dv.mono {G G' : Gr} (e : ∀ a o, G a o → G' a o) : ∀ {v : V} {d : Dt}, Dv G v d → Dv G' v d
  | _, _, .non => .non
  | _, _, .bl b => .bl b
  | _, _, .int i => .int i
  | _, _, .str x => .str x
  | _, _, .ty n => .ty n
  | _, _, .kon a => .kon a
  | _, _, .scr h => .scr (e _ _ h)
  | _, _, .tup h k => .tup (e _ _ h) (DvA.mono e k)
  | _, _, .cell h k => .cell (e _ _ h) (Cell.mono e k)
theorem Cell.mono {G G' : Gr} (e : ∀ a o, G a o → G' a o) : ∀ {o : HO} {d : Dt}, Cell G o d → Cell G' o d
  | _, _, .li xs => .li xs
  | _, _, .lst k => .lst (DvA.mono e k)
  | _, _, .ins k => .ins (DvF.mono e k)
theorem DvA.mono {G G' : Gr} (e : ∀ a o, G a o → G' a o) : ∀ {vs : List V} {ds : List Dt}, DvA G vs ds → DvA G' vs ds
  | _, _, .nil => .nil
  | _, _, .cons h k => .cons (Dv.mono e h) (DvA.mono e k)
theorem DvF.mono {G G' : Gr} (e : ∀ a o, G a o → G' a o) : ∀ {vs : List (Str × V)} {ds : List (Str × Dt)}, DvF G vs ds → DvF G' vs ds
  | _, _, .nil => .nil
  | _, _, .cons h k => .cons (Dv.mono e h) (DvF.mono e k)
end
theorem DvA.length {G : Gr} : ∀ {vs : List V} {ds : List Dt}, DvA G vs ds → vs.length = ds.length
  | _, _, .nil => rfl
  | _, _, .cons _ k => by rw [List.length_cons, List.length_cons, DvA.length k]
theorem DvA.get {G : Gr} : ∀ {vs : List V} {ds : List Dt} {i : Nat} {d : Dt}, DvA G vs ds → ds[i]? = some d → ∃ v, vs[i]? = some v ∧ Dv G v d
  | _, _, _, _, .nil, e => by simp at e
  | _, _, 0, _, .cons h _, e => by simp at e; subst e; exact ⟨_, rfl, h⟩
  | _, _, i + 1, d, .cons _ k, e => by
    obtain ⟨v, h1, h2⟩ := DvA.get (i := i) (d := d) k (by simpa using e)
    exact ⟨v, by simpa using h1, h2⟩
theorem DvA.getV {G : Gr} : ∀ {vs : List V} {ds : List Dt} {i : Nat} {v : V}, DvA G vs ds → vs[i]? = some v → ∃ d, ds[i]? = some d ∧ Dv G v d
  | _, _, _, _, .nil, e => by simp at e
  | _, _, 0, _, .cons h _, e => by simp at e; subst e; exact ⟨_, rfl, h⟩
  | _, _, i + 1, d, .cons _ k, e => by
    obtain ⟨v, h1, h2⟩ := DvA.getV (i := i) (v := d) k (by simpa using e)
    exact ⟨v, by simpa using h1, h2⟩
theorem DvA.append {G : Gr} : ∀ {vs ws : List V} {ds es : List Dt}, DvA G vs ds → DvA G ws es → DvA G (vs ++ ws) (ds ++ es)
  | _, _, _, _, .nil, k => k
  | _, _, _, _, .cons h k, k' => .cons h (DvA.append k k')
theorem DvA.take {G : Gr} : ∀ {vs : List V} {ds : List Dt} (n : Nat), DvA G vs ds → DvA G (vs.take n) (ds.take n)
  | _, _, 0, _ => .nil
  | _, _, _ + 1, .nil => .nil
  | _, _, n + 1, .cons h k => .cons h (DvA.take n k)
theorem DvA.drop {G : Gr} : ∀ {vs : List V} {ds : List Dt} (n : Nat), DvA G vs ds → DvA G (vs.drop n) (ds.drop n)
  | _, _, 0, k => k
  | _, _, _ + 1, .nil => .nil
  | _, _, n + 1, .cons _ k => DvA.drop n k
theorem DvA.set {G : Gr} {v : V} {d : Dt} (h : Dv G v d) : ∀ {vs : List V} {ds : List Dt} (i : Nat), DvA G vs ds → DvA G (vs.set i v) (ds.set i d)
  | _, _, _, .nil => .nil
  | _, _, 0, .cons _ k => .cons h k
  | _, _, i + 1, .cons h' k => .cons h' (DvA.set h i k)
theorem DvF.look {G : Gr} {f : Str} : ∀ {vs : List (Str × V)} {ds : List (Str × Dt)} {d : Dt}, DvF G vs ds → ds.lookup f = some d → ∃ v, vs.lookup f = some v ∧ Dv G v d
  | _, _, _, .nil, e => by simp at e
  | (g, v) :: vs, (_, d') :: ds, d, .cons h k, e => by
    by_cases q : f = g
    · subst q
      simp [List.lookup] at e
      subst e
      exact ⟨v, by simp [List.lookup], h⟩
    · have q' : (f == g) = false := by simpa using q
      simp [List.lookup, q'] at e
      obtain ⟨w, h1, h2⟩ := DvF.look k e
      exact ⟨w, by simp [List.lookup, q', h1], h2⟩
/-- ints as data -/
theorem dva_ints {G : Gr} : ∀ xs : List Int, DvA G (xs.map V.int) (xs.map Dt.int)
  | [] => .nil
  | x :: r => .cons (.int x) (dva_ints r)
theorem dva_ints_inv {G : Gr} : ∀ {vs : List V} {xs : List Int}, DvA G vs (xs.map Dt.int) → vs = xs.map V.int
  | _, [], h => by cases h; rfl
  | _, x :: r, h => by
    cases h with
    | cons h k =>
      cases h with
      | int => rw [dva_ints_inv k]; rfl
      | cell _ k => cases k
/-- a list of ints, the one way or the other -/
theorem Cell.li_of {G : Gr} {o : HO} {xs : List Int} (h : Cell G o (.lst (xs.map Dt.int))) : Cell G o (.li xs) := by
  cases h with
  | lst k => rw [dva_ints_inv k]; exact .li xs
theorem Cell.of_li {G : Gr} {o : HO} {xs : List Int} (h : Cell G o (.li xs)) : Cell G o (.lst (xs.map Dt.int)) := by
  cases h with
  | li => exact .lst (dva_ints xs)

/-! ### slots -/
inductive Sl where
  | non | sh (d : Dt) | ow (d : Dt) | bo (a : Addr) (d : Dt)
def Sl.held : Sl → Prop
  | .ow _ => True
  | .bo _ _ => True
  | _ => False
/-- a held slot's content changed -/
def Sl.put (s : Sl) (d : Dt) : Sl := match s with
  | .bo a _ => .bo a d
  | _ => .ow d
/-- what is not hidden -/
def gr (O : Addr → Prop) (H : Hp) : Gr := fun a o => H a = some o ∧ ¬ O a
abbrev Le (O : Addr → Prop) (H : Hp) (O' : Addr → Prop) (H' : Hp) : Prop := ∀ a o, gr O H a o → gr O' H' a o
theorem Le.refl (O : Addr → Prop) (H : Hp) : Le O H O H := fun _ _ h => h
theorem Le.trans {O O1 O2 : Addr → Prop} {H H1 H2 : Hp} (e : Le O H O1 H1) (f : Le O1 H1 O2 H2) : Le O H O2 H2 := fun a o h => f a o (e a o h)
def SlOk (O : Addr → Prop) (H : Hp) (x : Option V) : Sl → Prop
  | .non => True
  | .sh d => ∃ v, x = some v ∧ Dv (gr O H) v d
  | .ow d => ∃ a o, x = some (V.ref a) ∧ O a ∧ H a = some o ∧ Cell (gr O H) o d
  | .bo a d => ∃ o, x = some (V.ref a) ∧ O a ∧ H a = some o ∧ Cell (gr O H) o d
/-- the state: F foreign hidden things that stand, O what is hidden -/
structure SR (F : Gr) (O : Addr → Prop) (σ : L2.St) (H : Hp) (ds : List Sl) : Prop where
  len : σ.length = ds.length
  sl : ∀ (i : Nat) (s : Sl) (x : Option V), ds[i]? = some s → σ[i]? = some x → SlOk O H x s
  inj : ∀ (i j : Nat) (s t : Sl) (a : Addr), i ≠ j → ds[i]? = some s → ds[j]? = some t → s.held → t.held → σ[i]? = some (some (V.ref a)) → σ[j]? = some (some (V.ref a)) → False
  frn : ∀ a o, F a o → O a ∧ H a = some o
  hf : ∀ (i : Nat) (s : Sl) (a : Addr) (o : HO), ds[i]? = some s → s.held → σ[i]? = some (some (V.ref a)) → ¬ F a o
  dom : ∀ a, O a → ∃ o, H a = some o
section
variable {F : Gr} {O O' : Addr → Prop} {σ : L2.St} {H H' : Hp} {ds : List Sl}
theorem SR.at (S : SR F O σ H ds) {i : Nat} {s : Sl} (h : ds[i]? = some s) : ∃ x, σ[i]? = some x ∧ SlOk O H x s := by
  have hi : i < σ.length := by
    rw [S.len]
    exact (List.getElem?_eq_some_iff.mp h).1
  exact ⟨σ[i], by simp [hi], S.sl i s _ h (by simp [hi])⟩
theorem SR.sh (S : SR F O σ H ds) {i : Nat} {d : Dt} (h : ds[i]? = some (.sh d)) : ∃ v, σ[i]? = some (some v) ∧ Dv (gr O H) v d := by
  obtain ⟨x, e, v, rfl, k⟩ := S.at h
  exact ⟨v, e, k⟩
theorem SR.ow (S : SR F O σ H ds) {i : Nat} {d : Dt} (h : ds[i]? = some (.ow d)) : ∃ a o, σ[i]? = some (some (V.ref a)) ∧ O a ∧ H a = some o ∧ Cell (gr O H) o d := by
  obtain ⟨x, e, a, o, rfl, k⟩ := S.at h
  exact ⟨a, o, e, k⟩
theorem SR.bo (S : SR F O σ H ds) {i : Nat} {a : Addr} {d : Dt} (h : ds[i]? = some (.bo a d)) : ∃ o, σ[i]? = some (some (V.ref a)) ∧ O a ∧ H a = some o ∧ Cell (gr O H) o d := by
  obtain ⟨x, e, o, rfl, k⟩ := S.at h
  exact ⟨o, e, k⟩
theorem SlOk.mono {x : Option V} {s : Sl} (h : SlOk O H x s) (e : Le O H O' H') (k : s.held → ∀ a o, x = some (V.ref a) → O a → H a = some o → O' a ∧ H' a = some o) : SlOk O' H' x s := by
  cases s with
  | non => trivial
  | sh d => obtain ⟨v, ev, q⟩ := h; exact ⟨v, ev, q.mono e⟩
  | ow d =>
    obtain ⟨a, o, ev, q1, q2, q3⟩ := h
    obtain ⟨r1, r2⟩ := k trivial a o ev q1 q2
    exact ⟨a, o, ev, r1, r2, q3.mono e⟩
  | bo a d =>
    obtain ⟨o, ev, q1, q2, q3⟩ := h
    obtain ⟨r1, r2⟩ := k trivial a o ev q1 q2
    exact ⟨o, ev, r1, r2, q3.mono e⟩
/-- nothing hidden is changed -/
theorem SR.keep (S : SR F O σ H ds) (e : Le O H O' H') (k : ∀ a o, O a → H a = some o → O' a ∧ H' a = some o) (hd : ∀ a, O' a → ∃ o, H' a = some o) : SR F O' σ H' ds where
  len := S.len
  sl := fun i s x h1 h2 => (S.sl i s x h1 h2).mono e fun _ a o _ q1 q2 => k a o q1 q2
  inj := S.inj
  frn := fun a o h => k a o (S.frn a o h).1 (S.frn a o h).2
  hf := S.hf
  dom := hd
/-- the heap has grown -/
theorem SR.grow (S : SR F O σ H ds) (e : ∀ a o, H a = some o → H' a = some o) : Le O H O H' ∧ SR F O σ H' ds := by
  have l : Le O H O H' := fun a o h => ⟨e a o h.1, h.2⟩
  exact ⟨l, S.keep l (fun a o h1 h2 => ⟨h1, e a o h2⟩) fun a h => let ⟨o, q⟩ := S.dom a h; ⟨o, e a o q⟩⟩
theorem SR.fresh (S : SR F O σ H ds) {p : Addr} (hp : H p = none) : ¬ O p := fun z => by
  obtain ⟨o, q⟩ := S.dom p z
  rw [hp] at q
  cases q
/-- a new object, hidden -/
theorem SR.new (S : SR F O σ H ds) {p : Addr} {o : HO} (hp : H p = none) :
    Le O H (fun a => O a ∨ a = p) (upd H p o) ∧ SR F (fun a => O a ∨ a = p) σ (upd H p o) ds := by
  have hn : ∀ a u, H a = some u → a ≠ p := fun a u h => ne_of_none h hp
  have l : Le O H (fun a => O a ∨ a = p) (upd H p o) := fun a u h => ⟨by rw [upd_ne (hn a u h.1)]; exact h.1, fun z => by
    rcases z with z | z
    · exact h.2 z
    · exact hn a u h.1 z⟩
  refine ⟨l, S.keep l (fun a u h1 h2 => ⟨.inl h1, by rw [upd_ne (hn a u h2)]; exact h2⟩) fun a h => ?_⟩
  by_cases e : a = p
  · exact ⟨o, by rw [e, upd_same]⟩
  · rcases h with h | h
    · obtain ⟨u, q⟩ := S.dom a h
      exact ⟨u, by rw [upd_ne e]; exact q⟩
    · exact absurd h e
/-- a hidden object that no slot holds and that is not foreign is shown -/
theorem SR.show (S : SR F O σ H ds) {p : Addr} (hh : ∀ (i : Nat) (s : Sl), ds[i]? = some s → s.held → σ[i]? ≠ some (some (V.ref p))) (hf : ∀ o, ¬ F p o) :
    Le O H (fun a => O a ∧ a ≠ p) H ∧ SR F (fun a => O a ∧ a ≠ p) σ H ds := by
  have l : Le O H (fun a => O a ∧ a ≠ p) H := fun a u h => ⟨h.1, fun z => h.2 z.1⟩
  refine ⟨l, ⟨S.len, fun i s x h1 h2 => (S.sl i s x h1 h2).mono l fun sh a o e q1 q2 => ⟨⟨q1, fun z => ?_⟩, q2⟩, S.inj, fun a o h => ⟨⟨(S.frn a o h).1, fun z => ?_⟩, (S.frn a o h).2⟩, S.hf, fun a h => S.dom a h.1⟩⟩
  · subst z; subst e; exact hh i s h1 sh h2
  · subst z; exact hf o h
/-- a slot gets a value that is shared, or none is told -/
theorem SR.setSh (S : SR F O σ H ds) {i : Nat} {v : V} {d : Dt} (h : Dv (gr O H) v d) : SR F O (σ.set i (some v)) H (ds.set i (.sh d)) where
  len := by rw [List.length_set, List.length_set, S.len]
  sl := fun j s x h1 h2 => by
    by_cases e : i = j
    · subst e
      have hi : i < ds.length := by
        have := (List.getElem?_eq_some_iff.mp h1).1
        simpa using this
      rw [List.getElem?_set_self hi] at h1
      rw [List.getElem?_set_self (by rw [S.len]; exact hi)] at h2
      cases h1; cases h2
      exact ⟨v, rfl, h⟩
    · rw [List.getElem?_set_ne e] at h1 h2
      exact S.sl j s x h1 h2
  inj := fun j k s t a hn h1 h2 h3 h4 h5 h6 => by
    by_cases e : i = j
    · subst e
      have hi : i < ds.length := by
        have := (List.getElem?_eq_some_iff.mp h1).1
        simpa using this
      rw [List.getElem?_set_self hi] at h1
      cases h1
      exact h3
    · by_cases e' : i = k
      · subst e'
        have hi : i < ds.length := by
          have := (List.getElem?_eq_some_iff.mp h2).1
          simpa using this
        rw [List.getElem?_set_self hi] at h2
        cases h2
        exact h4
      · rw [List.getElem?_set_ne e] at h1 h5
        rw [List.getElem?_set_ne e'] at h2 h6
        exact S.inj j k s t a hn h1 h2 h3 h4 h5 h6
  frn := S.frn
  hf := fun j s a o h1 h2 h3 => by
    by_cases e : i = j
    · subst e
      have hi : i < ds.length := by
        have := (List.getElem?_eq_some_iff.mp h1).1
        simpa using this
      rw [List.getElem?_set_self hi] at h1
      cases h1
      exact h2.elim
    · rw [List.getElem?_set_ne e] at h1 h3
      exact S.hf j s a o h1 h2 h3
  dom := S.dom
/-- a slot gets a new object of its own -/
theorem SR.setOw (S : SR F O σ H ds) {i : Nat} {p : Addr} {o : HO} {d : Dt} (hO : O p) (ho : H p = some o) (hc : Cell (gr O H) o d) (hh : ∀ (j : Nat) (s : Sl), ds[j]? = some s → s.held → σ[j]? ≠ some (some (V.ref p))) (hf : ∀ o, ¬ F p o) :
    SR F O (σ.set i (some (V.ref p))) H (ds.set i (.ow d)) where
  len := by rw [List.length_set, List.length_set, S.len]
  sl := fun j s x h1 h2 => by
    by_cases e : i = j
    · subst e
      have hi : i < ds.length := by
        have := (List.getElem?_eq_some_iff.mp h1).1
        simpa using this
      rw [List.getElem?_set_self hi] at h1
      rw [List.getElem?_set_self (by rw [S.len]; exact hi)] at h2
      cases h1; cases h2
      exact ⟨p, o, rfl, hO, ho, hc⟩
    · rw [List.getElem?_set_ne e] at h1 h2
      exact S.sl j s x h1 h2
  inj := fun j k s t a hn h1 h2 h3 h4 h5 h6 => by
    by_cases e : i = j
    · subst e
      have hi : i < σ.length := by
        have := (List.getElem?_eq_some_iff.mp h5).1
        simpa using this
      rw [List.getElem?_set_self hi] at h5
      cases h5
      rw [List.getElem?_set_ne hn] at h2 h6
      exact hh k t h2 h4 h6
    · by_cases e' : i = k
      · subst e'
        have hi : i < σ.length := by
          have := (List.getElem?_eq_some_iff.mp h6).1
          simpa using this
        rw [List.getElem?_set_self hi] at h6
        cases h6
        rw [List.getElem?_set_ne e] at h1 h5
        exact hh j s h1 h3 h5
      · rw [List.getElem?_set_ne e] at h1 h5
        rw [List.getElem?_set_ne e'] at h2 h6
        exact S.inj j k s t a hn h1 h2 h3 h4 h5 h6
  frn := S.frn
  hf := fun j s a u h1 h2 h3 => by
    by_cases e : i = j
    · subst e
      have hi : i < σ.length := by
        have := (List.getElem?_eq_some_iff.mp h3).1
        simpa using this
      rw [List.getElem?_set_self hi] at h3
      cases h3
      exact hf u
    · rw [List.getElem?_set_ne e] at h1 h3
      exact S.hf j s a u h1 h2 h3
  dom := S.dom
/-- a slot is forgotten -/
theorem SR.setNon (S : SR F O σ H ds) {i : Nat} {x : Option V} : SR F O (σ.set i x) H (ds.set i .non) where
  len := by rw [List.length_set, List.length_set, S.len]
  sl := fun j s y h1 h2 => by
    by_cases e : i = j
    · subst e
      have hi : i < ds.length := by
        have := (List.getElem?_eq_some_iff.mp h1).1
        simpa using this
      rw [List.getElem?_set_self hi] at h1
      cases h1
      trivial
    · rw [List.getElem?_set_ne e] at h1 h2
      exact S.sl j s y h1 h2
  inj := fun j k s t a hn h1 h2 h3 h4 h5 h6 => by
    by_cases e : i = j
    · subst e
      have hi : i < ds.length := by
        have := (List.getElem?_eq_some_iff.mp h1).1
        simpa using this
      rw [List.getElem?_set_self hi] at h1
      cases h1
      exact h3
    · by_cases e' : i = k
      · subst e'
        have hi : i < ds.length := by
          have := (List.getElem?_eq_some_iff.mp h2).1
          simpa using this
        rw [List.getElem?_set_self hi] at h2
        cases h2
        exact h4
      · rw [List.getElem?_set_ne e] at h1 h5
        rw [List.getElem?_set_ne e'] at h2 h6
        exact S.inj j k s t a hn h1 h2 h3 h4 h5 h6
  frn := S.frn
  hf := fun j s a o h1 h2 h3 => by
    by_cases e : i = j
    · subst e
      have hi : i < ds.length := by
        have := (List.getElem?_eq_some_iff.mp h1).1
        simpa using this
      rw [List.getElem?_set_self hi] at h1
      cases h1
      exact h2.elim
    · rw [List.getElem?_set_ne e] at h1 h3
      exact S.hf j s a o h1 h2 h3
  dom := S.dom
/-- what a slot is known to be may be forgotten -/
theorem SR.forget (S : SR F O σ H ds) {i : Nat} : SR F O σ H (ds.set i .non) := by
  by_cases hi : i < σ.length
  · have h := S.setNon (i := i) (x := σ[i])
    rw [List.set_getElem_self] at h
    exact h
  · have e : ds.set i .non = ds := List.set_eq_of_length_le (by rw [← S.len]; omega)
    rw [e]
    exact S
/-- the object that a slot holds alone is changed -/
theorem SR.writeOw (S : SR F O σ H ds) {i : Nat} {p : Addr} {u : HO} {d : Dt} {s : Sl} (hs : ds[i]? = some s) (hh : s.held) (hσ : σ[i]? = some (some (V.ref p))) (hO : O p) (hc : Cell (gr O H) u d) :
    Le O H O (upd H p u) ∧ SR F O σ (upd H p u) (ds.set i (s.put d)) := by
  have l : Le O H O (upd H p u) := fun a o h => ⟨by rw [upd_ne (fun z => h.2 (by rw [z]; exact hO))]; exact h.1, h.2⟩
  have hi : i < ds.length := (List.getElem?_eq_some_iff.mp hs).1
  have hi' : i < σ.length := by rw [S.len]; exact hi
  refine ⟨l, ⟨by rw [List.length_set, S.len], fun j t x h1 h2 => ?_, fun j k t t' a hn h1 h2 h3 h4 h5 h6 => ?_, fun a o h => ⟨(S.frn a o h).1, ?_⟩, fun j t a o h1 h2 h3 => ?_, fun a h => ?_⟩⟩
  · by_cases e : i = j
    · subst e
      rw [List.getElem?_set_self hi] at h1
      cases h1
      rw [hσ] at h2
      cases h2
      cases s with
      | non => exact hh.elim
      | sh _ => exact hh.elim
      | ow d' => exact ⟨p, u, rfl, hO, upd_same, hc.mono l⟩
      | bo a d' =>
        obtain ⟨o', e1, _⟩ := S.sl i _ _ hs hσ
        have e2 : a = p := by injection e1 with e1; injection e1 with e1; exact e1.symm
        subst e2
        exact ⟨u, rfl, hO, upd_same, hc.mono l⟩
    · rw [List.getElem?_set_ne e] at h1
      refine (S.sl j t x h1 h2).mono l fun th a o ex q1 q2 => ⟨q1, ?_⟩
      rw [upd_ne]
      · exact q2
      · intro z
        subst z
        subst ex
        exact S.inj i j s t a e hs h1 hh th hσ h2
  · have fix : ∀ m (r : Sl), (ds.set i (s.put d))[m]? = some r → r.held → ∃ r' : Sl, ds[m]? = some r' ∧ r'.held := fun m r hm hr => by
      by_cases e : i = m
      · subst e
        exact ⟨s, hs, hh⟩
      · rw [List.getElem?_set_ne e] at hm
        exact ⟨r, hm, hr⟩
    obtain ⟨r1, g1, g2⟩ := fix j t h1 h3
    obtain ⟨r2, g3, g4⟩ := fix k t' h2 h4
    exact S.inj j k r1 r2 a hn g1 g3 g2 g4 h5 h6
  · rw [upd_ne]
    · exact (S.frn a o h).2
    · intro z
      subst z
      exact S.hf i s a o hs hh hσ h
  · by_cases e : i = j
    · subst e
      exact S.hf i s a o hs hh h3
    · rw [List.getElem?_set_ne e] at h1
      exact S.hf j t a o h1 h2 h3
  · by_cases e : a = p
    · exact ⟨u, by rw [e, upd_same]⟩
    · obtain ⟨o, q⟩ := S.dom a h
      exact ⟨o, by rw [upd_ne e]; exact q⟩
/-- the object that a slot holds alone is shown: the slot is shared from now on -/
theorem SR.freeze (S : SR F O σ H ds) {i : Nat} {d : Dt} (hs : ds[i]? = some (.ow d)) : ∃ a o, σ[i]? = some (some (V.ref a)) ∧ O a ∧ H a = some o ∧ Cell (gr O H) o d ∧
    Le O H (fun b => O b ∧ b ≠ a) H ∧ SR F (fun b => O b ∧ b ≠ a) σ H (ds.set i (.sh d)) := by
  obtain ⟨a, o, hσ, hO, ho, hc⟩ := S.ow hs
  refine ⟨a, o, hσ, hO, ho, hc, ?_⟩
  have hi : i < ds.length := (List.getElem?_eq_some_iff.mp hs).1
  have S1 := S.forget (i := i)
  obtain ⟨l, S2⟩ := S1.show (p := a) (fun j s h1 h2 h3 => by
    by_cases e : i = j
    · subst e
      rw [List.getElem?_set_self hi] at h1
      cases h1
      exact h2
    · rw [List.getElem?_set_ne e] at h1
      exact S.inj i j _ s a e hs h1 trivial h2 hσ h3) (fun u => S.hf i _ a u hs trivial hσ)
  refine ⟨l, ?_⟩
  have S3 := S2.setSh (i := i) (v := .ref a) (d := d) (.cell ⟨ho, fun z => z.2 rfl⟩ (hc.mono l))
  rw [List.set_set] at S3
  have e : σ.set i (some (V.ref a)) = σ := by
    have hi' : i < σ.length := by rw [S.len]; exact hi
    have q : σ[i] = some (V.ref a) := by
      rw [List.getElem?_eq_getElem hi'] at hσ
      exact Option.some.inj hσ
    rw [← q, List.set_getElem_self]
  rw [e] at S3
  exact S3
end
end DL

end

section
set_option Elab.async false
set_option linter.all false
set_option maxRecDepth 100000
set_option autoImplicit false
set_option maxHeartbeats 4000000
namespace DL
open PySem PySem.Spec PyProof.Rows L2

/-! ### what readings make of data -/
def DE (te : TE) (ds : List Sl) (d : Dt) (ds' : List Sl) : Prop := ∀ (F : Gr) (O : Addr → Prop) (σ : L2.St) (H : Hp), SR F O σ H ds →
  ∀ Q : VK, (∀ (O' : Addr → Prop) (v : V) (H' : Hp), Le O H O' H' → SR F O' σ H' ds' → Dv (gr O' H') v d → Q v H') → te σ H Q
/-- p is nobody's -/
structure Lone (F : Gr) (σ : L2.St) (ds : List Sl) (p : Addr) : Prop where
  held : ∀ (i : Nat) (s : Sl), ds[i]? = some s → s.held → σ[i]? ≠ some (some (V.ref p))
  frn : ∀ o, ¬ F p o
/-- a new object, nobody's yet -/
def DN (te : TE) (ds : List Sl) (d : Dt) (ds' : List Sl) : Prop := ∀ (F : Gr) (O : Addr → Prop) (σ : L2.St) (H : Hp), SR F O σ H ds →
  ∀ Q : VK, (∀ (O' : Addr → Prop) (p : Addr) (o : HO) (H' : Hp), Le O H O' H' → SR F O' σ H' ds' → O' p → H' p = some o → Cell (gr O' H') o d → Lone F σ ds' p → Q (.ref p) H') → te σ H Q
def DT (tt : TT) (ds : List Sl) (b : Bool) (ds' : List Sl) : Prop := ∀ (F : Gr) (O : Addr → Prop) (σ : L2.St) (H : Hp), SR F O σ H ds →
  ∀ Q : Bool → Hp → Prop, (∀ (O' : Addr → Prop) (H' : Hp), Le O H O' H' → SR F O' σ H' ds' → Q b H') → tt σ H Q
def DA (ta : TA) (ds : List Sl) (xs : List Dt) (ds' : List Sl) : Prop := ∀ (F : Gr) (O : Addr → Prop) (σ : L2.St) (H : Hp), SR F O σ H ds →
  ∀ Q : List V → Hp → Prop, (∀ (O' : Addr → Prop) (vs : List V) (H' : Hp), Le O H O' H' → SR F O' σ H' ds' → DvA (gr O' H') vs xs → Q vs H') → ta σ H Q
def DO (to : TO) (ds : List Sl) (x : Option Int) (ds' : List Sl) : Prop := ∀ (F : Gr) (O : Addr → Prop) (σ : L2.St) (H : Hp), SR F O σ H ds →
  ∀ Q : Option Int → Hp → Prop, (∀ (O' : Addr → Prop) (H' : Hp), Le O H O' H' → SR F O' σ H' ds' → Q x H') → to σ H Q
/-- how a statement ends -/
inductive Out where
  | nx (ds : List Sl) | bk (ds : List Sl) | ct (ds : List Sl) | rt (d : Dt) (ds : List Sl) | rn (d : Dt) (ds : List Sl)
def Kont (F : Gr) (O : Addr → Prop) (H : Hp) (D : Ends) : Out → Prop
  | .nx ds => ∀ (O' : Addr → Prop) (σ' : L2.St) (H' : Hp), Le O H O' H' → SR F O' σ' H' ds → D.nx σ' H'
  | .bk ds => ∀ (O' : Addr → Prop) (σ' : L2.St) (H' : Hp), Le O H O' H' → SR F O' σ' H' ds → D.bk σ' H'
  | .ct ds => ∀ (O' : Addr → Prop) (σ' : L2.St) (H' : Hp), Le O H O' H' → SR F O' σ' H' ds → D.ct σ' H'
  | .rt d ds => ∀ (O' : Addr → Prop) (σ' : L2.St) (H' : Hp) (v : V), Le O H O' H' → SR F O' σ' H' ds → Dv (gr O' H') v d → D.rt v H'
  | .rn d ds => ∀ (O' : Addr → Prop) (σ' : L2.St) (H' : Hp) (p : Addr) (o : HO), Le O H O' H' → SR F O' σ' H' ds → O' p → H' p = some o → Cell (gr O' H') o d → Lone F σ' ds p → D.rt (.ref p) H'
def DS (t : TS) (ds : List Sl) (o : Out) : Prop := ∀ (F : Gr) (O : Addr → Prop) (σ : L2.St) (H : Hp), SR F O σ H ds → ∀ D : Ends, Kont F O H D o → t D σ H
/-- a target gets a value -/
def DG (g : TG) (d : Dt) (ds ds' : List Sl) : Prop := ∀ (F : Gr) (O : Addr → Prop) (σ : L2.St) (H : Hp) (v : V), SR F O σ H ds → Dv (gr O H) v d →
  ∀ Q : L2.St → Hp → Prop, (∀ (O' : Addr → Prop) (σ' : L2.St) (H' : Hp), Le O H O' H' → SR F O' σ' H' ds' → Q σ' H') → g v σ H Q
def DGs (g : TGs) (xs : List Dt) (ds ds' : List Sl) : Prop := ∀ (F : Gr) (O : Addr → Prop) (σ : L2.St) (H : Hp) (vs : List V), SR F O σ H ds → DvA (gr O H) vs xs →
  ∀ Q : L2.St → Hp → Prop, (∀ (O' : Addr → Prop) (σ' : L2.St) (H' : Hp), Le O H O' H' → SR F O' σ' H' ds' → Q σ' H') → g vs σ H Q
/-- operations by values: pure ones; such as give a new object -/
def RD (r : R2) (x y z : Dt) : Prop := ∀ (G : Gr) (H : Hp) (v w : V), (∀ a o, G a o → H a = some o) → Dv G v x → Dv G w y → ∀ Q : VK, (∀ u, Dv G u z → Q u H) → r v w H Q
def RN (r : R2) (x y d : Dt) : Prop := ∀ (G : Gr) (H : Hp) (v w : V), (∀ a o, G a o → H a = some o) → Dv G v x → Dv G w y → ∀ Q : VK, (∀ p o, H p = none → Cell G o d → Q (.ref p) (upd H p o)) → r v w H Q
def UD (r : V → Hp → VK → Prop) (x z : Dt) : Prop := ∀ (G : Gr) (H : Hp) (v : V), (∀ a o, G a o → H a = some o) → Dv G v x → ∀ Q : VK, (∀ u, Dv G u z → Q u H) → r v H Q
def CD (r : List V → Hp → VK → Prop) (xs : List Dt) (z : Dt) : Prop := ∀ (G : Gr) (H : Hp) (vs : List V), (∀ a o, G a o → H a = some o) → DvA G vs xs → ∀ Q : VK, (∀ u, Dv G u z → Q u H) → r vs H Q
def CN (r : List V → Hp → VK → Prop) (xs : List Dt) (d : Dt) : Prop := ∀ (G : Gr) (H : Hp) (vs : List V), (∀ a o, G a o → H a = some o) → DvA G vs xs → ∀ Q : VK, (∀ p o, H p = none → Cell G o d → Q (.ref p) (upd H p o)) → r vs H Q

section
variable {F : Gr} {O : Addr → Prop} {σ : L2.St} {H : Hp} {ds ds1 ds2 ds' : List Sl} {te ta tb tc : TE} {tt tu : TT} {x y z d : Dt} {r : R2} {Q : VK}
theorem gr_get {O : Addr → Prop} {H : Hp} : ∀ a o, gr O H a o → H a = some o := fun _ _ h => h.1
/-- a new object's making -/
theorem made_new (S : SR F O σ H ds) {p : Addr} {o : HO} (hp : H p = none) (hc : Cell (gr O H) o d)
    (k : ∀ (O' : Addr → Prop) (p : Addr) (o : HO) (H' : Hp), Le O H O' H' → SR F O' σ H' ds → O' p → H' p = some o → Cell (gr O' H') o d → Lone F σ ds p → Q (.ref p) H') : Q (.ref p) (upd H p o) := by
  obtain ⟨l, S'⟩ := S.new (o := o) hp
  refine k _ p o _ l S' (.inr rfl) upd_same (hc.mono l) ⟨fun i s h1 h2 h3 => ?_, fun u h => ?_⟩
  · cases s with
    | non => exact h2
    | sh _ => exact h2
    | ow d' =>
      obtain ⟨a, o', e1, _, e2, _⟩ := S.ow h1
      rw [h3] at e1
      injection e1 with e1; injection e1 with e1; injection e1 with e1
      rw [← e1, hp] at e2
      cases e2
    | bo a d' =>
      obtain ⟨o', e1, _, e2, _⟩ := S.bo h1
      rw [h3] at e1
      injection e1 with e1; injection e1 with e1; injection e1 with e1
      rw [← e1, hp] at e2
      cases e2
  · have := (S.frn p u h).2
    rw [hp] at this
    cases this
theorem DE.ofN (h : DN te ds d ds') : DE te ds d ds' := fun F O σ H S Q k => h F O σ H S Q fun O' p o H' l S' hO ho hc hl => by
  obtain ⟨l2, S2⟩ := S'.show hl.held hl.frn
  exact k _ _ H' (l.trans l2) S2 (.cell ⟨ho, fun z => z.2 rfl⟩ (hc.mono l2))
/-! ### names, constants -/
theorem de_var {i : Nat} (h : ds[i]? = some (.sh d)) : DE (tVar i) ds d ds := fun F O σ H S Q k => by
  obtain ⟨v, e, q⟩ := S.sh h
  exact ⟨v, e, k O v H (Le.refl O H) S q⟩
/-- a slot's own object is handed on: from now on it is shared | it is the slot's no more -/
theorem de_varF {i : Nat} (h : ds[i]? = some (.ow d)) : DE (tVar i) ds d (ds.set i (.sh d)) := fun F O σ H S Q k => by
  obtain ⟨a, o, e, hO, ho, hc, l, S'⟩ := S.freeze h
  exact ⟨_, e, k _ _ H l S' (.cell ⟨ho, fun z => z.2 rfl⟩ (hc.mono l))⟩
theorem dn_varM {i : Nat} (h : ds[i]? = some (.ow d)) : DN (tVar i) ds d (ds.set i .non) := fun F O σ H S Q k => by
  obtain ⟨a, o, e, hO, ho, hc⟩ := S.ow h
  have hi : i < ds.length := (List.getElem?_eq_some_iff.mp h).1
  refine ⟨_, e, k O a o H (Le.refl O H) S.forget hO ho hc ⟨fun j s h1 h2 h3 => ?_, fun u => S.hf i _ a u h trivial e⟩⟩
  by_cases q : i = j
  · subst q
    rw [List.getElem?_set_self hi] at h1
    cases h1
    exact h2
  · rw [List.getElem?_set_ne q] at h1
    exact S.inj i j _ s a q h h1 trivial h2 e h3
theorem de_int {i : Int} : DE (tC (.int i)) ds (.int i) ds := fun _ O _ H S _ k => k O _ H (Le.refl O H) S (.int i)
theorem de_bl {b : Bool} : DE (tC (.bl b)) ds (.bl b) ds := fun _ O _ H S _ k => k O _ H (Le.refl O H) S (.bl b)
theorem de_non : DE (tC .non) ds .non ds := fun _ O _ H S _ k => k O _ H (Le.refl O H) S .non
theorem de_str {x : Str} : DE (tC (.str x)) ds (.str x) ds := fun _ O _ H S _ k => k O _ H (Le.refl O H) S (.str x)
theorem DE.eq {d' : Dt} (h : DE te ds d ds') (e : d = d') : DE te ds d' ds' := e ▸ h
theorem DN.eq {d' : Dt} (h : DN te ds d ds') (e : d = d') : DN te ds d' ds' := e ▸ h
theorem DT.eq {b b' : Bool} (h : DT tt ds b ds') (e : b = b') : DT tt ds b' ds' := e ▸ h
theorem DE.li_of {xs : List Int} (h : DE te ds (.lst (xs.map Dt.int)) ds') : DE te ds (.li xs) ds' := fun F O σ H S Q k => h F O σ H S Q fun O' v H' l S' hv => k O' v H' l S' (by
  cases hv with
  | cell g c => exact .cell g c.li_of)
theorem DE.of_li {xs : List Int} (h : DE te ds (.li xs) ds') : DE te ds (.lst (xs.map Dt.int)) ds' := fun F O σ H S Q k => h F O σ H S Q fun O' v H' l S' hv => k O' v H' l S' (by
  cases hv with
  | cell g c => exact .cell g c.of_li)
theorem DN.li_of {xs : List Int} (h : DN te ds (.lst (xs.map Dt.int)) ds') : DN te ds (.li xs) ds' := fun F O σ H S Q k => h F O σ H S Q fun O' p o H' l S' h1 h2 h3 h4 => k O' p o H' l S' h1 h2 h3.li_of h4
theorem DN.of_li {xs : List Int} (h : DN te ds (.li xs) ds') : DN te ds (.lst (xs.map Dt.int)) ds' := fun F O σ H S Q k => h F O σ H S Q fun O' p o H' l S' h1 h2 h3 h4 => k O' p o H' l S' h1 h2 h3.of_li h4

/-! ### operations -/
theorem de_op (ha : DE ta ds x ds1) (hb : DE tb ds1 y ds2) (hr : RD r x y z) : DE (tOp r ta tb) ds z ds2 := fun F O σ H S Q k =>
  ha F O σ H S _ fun O1 v H1 l1 S1 hv => hb F O1 σ H1 S1 _ fun O2 w H2 l2 S2 hw => hr (gr O2 H2) H2 v w gr_get (hv.mono l2) hw Q fun u hu => k O2 u H2 (l1.trans l2) S2 hu
theorem dn_op (ha : DE ta ds x ds1) (hb : DE tb ds1 y ds2) (hr : RN r x y z) : DN (tOp r ta tb) ds z ds2 := fun F O σ H S Q k =>
  ha F O σ H S _ fun O1 v H1 l1 S1 hv => hb F O1 σ H1 S1 _ fun O2 w H2 l2 S2 hw => hr (gr O2 H2) H2 v w gr_get (hv.mono l2) hw Q fun p o hp hc =>
    made_new S2 hp hc fun O' p o H' l S' h1 h2 h3 h4 => k O' p o H' ((l1.trans l2).trans l) S' h1 h2 h3 h4
theorem de_un {r : V → Hp → VK → Prop} (ha : DE ta ds x ds1) (hr : UD r x z) : DE (tUn r ta) ds z ds1 := fun F O σ H S Q k =>
  ha F O σ H S _ fun O1 v H1 l1 S1 hv => hr (gr O1 H1) H1 v gr_get hv Q fun u hu => k O1 u H1 l1 S1 hu
theorem da_nil : DA tNil ds [] ds := fun _ O _ H S _ k => k O [] H (Le.refl O H) S .nil
theorem da_cons {tr : TA} {xs : List Dt} (ha : DE ta ds x ds1) (hr : DA tr ds1 xs ds2) : DA (tCons ta tr) ds (x :: xs) ds2 := fun F O σ H S Q k =>
  ha F O σ H S _ fun O1 v H1 l1 S1 hv => hr F O1 σ H1 S1 _ fun O2 vs H2 l2 S2 hvs => k O2 (v :: vs) H2 (l1.trans l2) S2 (.cons (hv.mono l2) hvs)
theorem de_cb {r : List V → Hp → VK → Prop} {ta : TA} {xs : List Dt} (ha : DA ta ds xs ds1) (hr : CD r xs z) : DE (tCB r ta) ds z ds1 := fun F O σ H S Q k =>
  ha F O σ H S _ fun O1 vs H1 l1 S1 hvs => hr (gr O1 H1) H1 vs gr_get hvs Q fun u hu => k O1 u H1 l1 S1 hu
theorem dn_cb {r : List V → Hp → VK → Prop} {ta : TA} {xs : List Dt} (ha : DA ta ds xs ds1) (hr : CN r xs z) : DN (tCB r ta) ds z ds1 := fun F O σ H S Q k =>
  ha F O σ H S _ fun O1 vs H1 l1 S1 hvs => hr (gr O1 H1) H1 vs gr_get hvs Q fun p o hp hc => made_new S1 hp hc fun O' p o H' l S' h1 h2 h3 h4 => k O' p o H' (l1.trans l) S' h1 h2 h3 h4
theorem de_tup {ta : TA} {xs : List Dt} (ha : DA ta ds xs ds1) (hl : xs.length ≤ 1000) : DE (tTup ta) ds (.tup xs) ds1 := fun F O σ H S Q k =>
  ha F O σ H S _ fun O1 vs H1 l1 S1 hvs => ⟨by rw [hvs.length]; exact Nat.le_of_lt (small1000 hl), fun p hp => by
    obtain ⟨l, S'⟩ := S1.grow (H' := upd H1 p (.tup vs)) fun a o h => by rw [upd_ne (ne_of_none h hp)]; exact h
    exact k O1 _ _ (l1.trans l) S' (.tup ⟨upd_same, S1.fresh hp⟩ (hvs.mono l))⟩
theorem dn_lst {ta : TA} {xs : List Dt} (ha : DA ta ds xs ds1) (hl : xs.length ≤ 1000) : DN (tLst ta) ds (.lst xs) ds1 := fun F O σ H S Q k =>
  ha F O σ H S _ fun O1 vs H1 l1 S1 hvs => ⟨by rw [hvs.length]; exact Nat.le_of_lt (small1000 hl), fun p hp => made_new S1 hp (.lst hvs) fun O' p o H' l S' h1 h2 h3 h4 => k O' p o H' (l1.trans l) S' h1 h2 h3 h4⟩
/-- a list display of ints -/
theorem dn_li {ta : TA} {xs : List Int} (ha : DA ta ds (xs.map Dt.int) ds1) (hl : xs.length ≤ 1000) : DN (tLst ta) ds (.li xs) ds1 := (dn_lst ha (by rw [List.length_map]; exact hl)).li_of
/-! conditional expressions, and, or, not -/
theorem de_ifT (h : DT tt ds true ds1) (ha : DE ta ds1 x ds2) : DE (tIf tt ta tb) ds x ds2 := fun F O σ H S Q k => h F O σ H S _ fun O1 H1 l1 S1 => by
  show ta σ H1 Q
  exact ha F O1 σ H1 S1 Q fun O2 v H2 l2 S2 hv => k O2 v H2 (l1.trans l2) S2 hv
theorem de_ifF (h : DT tt ds false ds1) (hb : DE tb ds1 x ds2) : DE (tIf tt ta tb) ds x ds2 := fun F O σ H S Q k => h F O σ H S _ fun O1 H1 l1 S1 => by
  show tb σ H1 Q
  exact hb F O1 σ H1 S1 Q fun O2 v H2 l2 S2 hv => k O2 v H2 (l1.trans l2) S2 hv
theorem dn_ifT (h : DT tt ds true ds1) (ha : DN ta ds1 x ds2) : DN (tIf tt ta tb) ds x ds2 := fun F O σ H S Q k => h F O σ H S _ fun O1 H1 l1 S1 => by
  show ta σ H1 Q
  exact ha F O1 σ H1 S1 Q fun O2 p o H2 l2 S2 h1 h2 h3 h4 => k O2 p o H2 (l1.trans l2) S2 h1 h2 h3 h4
theorem dn_ifF (h : DT tt ds false ds1) (hb : DN tb ds1 x ds2) : DN (tIf tt ta tb) ds x ds2 := fun F O σ H S Q k => h F O σ H S _ fun O1 H1 l1 S1 => by
  show tb σ H1 Q
  exact hb F O1 σ H1 S1 Q fun O2 p o H2 l2 S2 h1 h2 h3 h4 => k O2 p o H2 (l1.trans l2) S2 h1 h2 h3 h4
theorem de_andT {b : Bool} (h1 : DE ta ds (.bl true) ds1) (h2 : DE tb ds1 (.bl b) ds2) : DE (tAndV ta tb) ds (.bl b) ds2 := fun F O σ H S Q k => h1 F O σ H S _ fun O1 v H1 l1 S1 hv => by
  cases hv with
  | bl => exact ⟨true, rfl, iteT (h2 F O1 σ H1 S1 Q fun O2 v H2 l2 S2 hv => k O2 v H2 (l1.trans l2) S2 hv)⟩
  | cell _ c => cases c
theorem de_andF (h1 : DE ta ds (.bl false) ds1) : DE (tAndV ta tb) ds (.bl false) ds1 := fun F O σ H S Q k => h1 F O σ H S _ fun O1 v H1 l1 S1 hv => by
  cases hv with
  | bl => exact ⟨false, rfl, iteF (k O1 _ H1 l1 S1 (.bl false))⟩
  | cell _ c => cases c
/-- both are told, the second one if it is asked (nothing is changed by them) -/
theorem de_and {a b : Bool} (h1 : DE ta ds (.bl a) ds) (h2 : a = true → DE tb ds (.bl b) ds) : DE (tAndV ta tb) ds (.bl (a && b)) ds := by
  cases a with
  | true => exact de_andT h1 (h2 rfl)
  | false => exact de_andF h1
theorem de_orT (h1 : DE ta ds (.bl true) ds1) : DE (tOrV ta tb) ds (.bl true) ds1 := fun F O σ H S Q k => h1 F O σ H S _ fun O1 v H1 l1 S1 hv => by
  cases hv with
  | bl => exact ⟨true, rfl, iteT (k O1 _ H1 l1 S1 (.bl true))⟩
  | cell _ c => cases c
theorem de_orF {b : Bool} (h1 : DE ta ds (.bl false) ds1) (h2 : DE tb ds1 (.bl b) ds2) : DE (tOrV ta tb) ds (.bl b) ds2 := fun F O σ H S Q k => h1 F O σ H S _ fun O1 v H1 l1 S1 hv => by
  cases hv with
  | bl => exact ⟨false, rfl, iteF (h2 F O1 σ H1 S1 Q fun O2 v H2 l2 S2 hv => k O2 v H2 (l1.trans l2) S2 hv)⟩
  | cell _ c => cases c
theorem de_or {a b : Bool} (h1 : DE ta ds (.bl a) ds) (h2 : a = false → DE tb ds (.bl b) ds) : DE (tOrV ta tb) ds (.bl (a || b)) ds := by
  cases a with
  | true => exact de_orT h1
  | false => exact de_orF h1 (h2 rfl)
theorem de_not {b : Bool} (h1 : DE ta ds (.bl b) ds1) : DE (tNotV ta) ds (.bl (!b)) ds1 := fun F O σ H S Q k => h1 F O σ H S _ fun O1 v H1 l1 S1 hv => by
  cases hv with
  | bl => exact ⟨b, rfl, k O1 _ H1 l1 S1 (.bl _)⟩
  | cell _ c => cases c
/-! tests -/
theorem dt_val {b : Bool} (h : DE te ds (.bl b) ds1) : DT (tB te) ds b ds1 := fun F O σ H S Q k => h F O σ H S _ fun O1 v H1 l1 S1 hv => by
  cases hv with
  | bl => exact ⟨b, rfl, k O1 H1 l1 S1⟩
  | cell _ c => cases c
theorem dt_test {b : Bool} (h : DE te ds (.bl b) ds1) : DT (tTest te) ds b ds1 := fun F O σ H S Q k => h F O σ H S _ fun O1 v H1 l1 S1 hv => by
  cases hv with
  | bl => exact ⟨b, rfl, k O1 H1 l1 S1⟩
  | cell _ c => cases c
theorem dt_andT {b : Bool} (h1 : DT tt ds true ds1) (h2 : DT tu ds1 b ds2) : DT (tAnd tt tu) ds b ds2 := fun F O σ H S Q k => h1 F O σ H S _ fun O1 H1 l1 S1 => iteT (h2 F O1 σ H1 S1 Q fun O2 H2 l2 S2 => k O2 H2 (l1.trans l2) S2)
theorem dt_andF (h1 : DT tt ds false ds1) : DT (tAnd tt tu) ds false ds1 := fun F O σ H S Q k => h1 F O σ H S _ fun O1 H1 l1 S1 => iteF (k O1 H1 l1 S1)
theorem dt_and {a b : Bool} (h1 : DT tt ds a ds) (h2 : a = true → DT tu ds b ds) : DT (tAnd tt tu) ds (a && b) ds := by
  cases a with
  | true => exact dt_andT h1 (h2 rfl)
  | false => exact dt_andF h1
theorem dt_orT (h1 : DT tt ds true ds1) : DT (tOr tt tu) ds true ds1 := fun F O σ H S Q k => h1 F O σ H S _ fun O1 H1 l1 S1 => iteT (k O1 H1 l1 S1)
theorem dt_orF {b : Bool} (h1 : DT tt ds false ds1) (h2 : DT tu ds1 b ds2) : DT (tOr tt tu) ds b ds2 := fun F O σ H S Q k => h1 F O σ H S _ fun O1 H1 l1 S1 => iteF (h2 F O1 σ H1 S1 Q fun O2 H2 l2 S2 => k O2 H2 (l1.trans l2) S2)
theorem dt_or {a b : Bool} (h1 : DT tt ds a ds) (h2 : a = false → DT tu ds b ds) : DT (tOr tt tu) ds (a || b) ds := by
  cases a with
  | true => exact dt_orT h1
  | false => exact dt_orF h1 (h2 rfl)
theorem dt_not {b : Bool} (h1 : DT tt ds b ds1) : DT (tNot tt) ds (!b) ds1 := fun F O σ H S Q k => h1 F O σ H S _ fun O1 H1 l1 S1 => k O1 H1 l1 S1
theorem dt_yes : DT tYes ds true ds := fun _ O _ H S _ k => k O H (Le.refl O H) S
/-! slices -/
theorem do_none : DO tNoPart ds none ds := fun _ O _ H S _ k => k O H (Le.refl O H) S
theorem do_some {i : Int} (h : DE te ds (.int i) ds1) : DO (tPart te) ds (some i) ds1 := fun F O σ H S Q k => h F O σ H S _ fun O1 v H1 l1 S1 hv => by
  cases hv with
  | int => exact ⟨i, rfl, k O1 H1 l1 S1⟩
  | cell _ c => cases c
/-! ### statements -/
variable {D : Ends} {t u : TS} {o : Out} {g : TG}
theorem Kont.le {F : Gr} {O O' : Addr → Prop} {H H' : Hp} {D : Ends} {o : Out} (l : Le O H O' H') (k : Kont F O H D o) : Kont F O' H' D o := by
  cases o with
  | nx ds => exact fun O2 σ2 H2 l2 S => k O2 σ2 H2 (l.trans l2) S
  | bk ds => exact fun O2 σ2 H2 l2 S => k O2 σ2 H2 (l.trans l2) S
  | ct ds => exact fun O2 σ2 H2 l2 S => k O2 σ2 H2 (l.trans l2) S
  | rt d ds => exact fun O2 σ2 H2 v l2 S => k O2 σ2 H2 v (l.trans l2) S
  | rn d ds => exact fun O2 σ2 H2 p o l2 S => k O2 σ2 H2 p o (l.trans l2) S
theorem Kont.seq {F : Gr} {O : Addr → Prop} {H : Hp} {D : Ends} {o : Out} {nx : L2.St → Hp → Prop} (k : Kont F O H D o) (h : ∀ ds, o ≠ .nx ds) : Kont F O H { D with nx := nx } o := by
  cases o with
  | nx ds => exact absurd rfl (h ds)
  | bk ds => exact k
  | ct ds => exact k
  | rt d ds => exact k
  | rn d ds => exact k
theorem ds_seq (h1 : DS t ds (.nx ds1)) (h2 : DS u ds1 o) : DS (tSeq t u) ds o := fun F O σ H S D k =>
  h1 F O σ H S { D with nx := u D } fun O1 σ1 H1 l1 S1 => h2 F O1 σ1 H1 S1 D (k.le l1)
theorem ds_seqX (h1 : DS t ds o) (h : ∀ ds, o ≠ .nx ds) : DS (tSeq t u) ds o := fun F O σ H S D k => h1 F O σ H S { D with nx := u D } (k.seq h)
theorem ds_next : DS tNext ds (.nx ds) := fun _ O σ H S _ k => k O σ H (Le.refl O H) S
theorem ds_break : DS tBreak ds (.bk ds) := fun _ O σ H S _ k => k O σ H (Le.refl O H) S
theorem ds_cont : DS tCont ds (.ct ds) := fun _ O σ H S _ k => k O σ H (Le.refl O H) S
theorem ds_set {i : Nat} (h : DE te ds d ds1) : DS (tAsg te (gName i)) ds (.nx (ds1.set i (.sh d))) := fun F O σ H S D k => h F O σ H S _ fun O1 v H1 l1 S1 hv => k O1 _ H1 l1 (S1.setSh hv)
theorem ds_setN {i : Nat} (h : DN te ds d ds1) : DS (tAsg te (gName i)) ds (.nx (ds1.set i (.ow d))) := fun F O σ H S D k => h F O σ H S _ fun O1 p o H1 l1 S1 h1 h2 h3 h4 => k O1 _ H1 l1 (S1.setOw h1 h2 h3 h4.held h4.frn)
theorem ds_asg (h : DE te ds d ds1) (hg : DG g d ds1 ds2) : DS (tAsg te g) ds (.nx ds2) := fun F O σ H S D k => h F O σ H S _ fun O1 v H1 l1 S1 hv => hg F O1 σ H1 v S1 hv _ fun O2 σ2 H2 l2 S2 => k O2 σ2 H2 (l1.trans l2) S2
theorem ds_drop (h : DE te ds d ds1) : DS (tDrop te) ds (.nx ds1) := fun F O σ H S D k => h F O σ H S _ fun O1 v H1 l1 S1 _ => k O1 σ H1 l1 S1
theorem ds_ret (h : DE te ds d ds1) : DS (tRet te) ds (.rt d ds1) := fun F O σ H S D k => h F O σ H S _ fun O1 v H1 l1 S1 hv => k O1 σ H1 v l1 S1 hv
theorem ds_retN (h : DN te ds d ds1) : DS (tRet te) ds (.rn d ds1) := fun F O σ H S D k => h F O σ H S _ fun O1 p o H1 l1 S1 h1 h2 h3 h4 => k O1 σ H1 p o l1 S1 h1 h2 h3 h4
theorem ds_retNone : DS tRetN ds (.rt .non ds) := fun _ O σ H S _ k => k O σ H _ (Le.refl O H) S .non
theorem ds_ifT (h : DT tt ds true ds1) (h1 : DS t ds1 o) : DS (tIfS tt t u) ds o := fun F O σ H S D k => h F O σ H S _ fun O1 H1 l1 S1 => iteT (h1 F O1 σ H1 S1 D (k.le l1))
theorem ds_ifF (h : DT tt ds false ds1) (h1 : DS u ds1 o) : DS (tIfS tt t u) ds o := fun F O σ H S D k => h F O σ H S _ fun O1 H1 l1 S1 => iteF (h1 F O1 σ H1 S1 D (k.le l1))
theorem ds_if {b : Bool} (h : DT tt ds b ds1) (h1 : b = true → DS t ds1 o) (h2 : b = false → DS u ds1 o) : DS (tIfS tt t u) ds o := by
  cases b with
  | true => exact ds_ifT h (h1 rfl)
  | false => exact ds_ifF h (h2 rfl)
theorem ds_par {i j : Nat} {ta : TA} (h : DA ta ds [x, y] ds1) : DS (tPar i j ta) ds (.nx ((ds1.set i (.sh x)).set j (.sh y))) := fun F O σ H S D k => h F O σ H S _ fun O1 vs H1 l1 S1 hvs => by
  cases hvs with
  | cons h1 hr =>
    cases hr with
    | cons h2 hr =>
      cases hr
      exact ⟨_, _, rfl, k O1 _ H1 l1 ((S1.setSh h1).setSh h2)⟩
/-- targets -/
theorem dg_name {i : Nat} : DG (gName i) d ds (ds.set i (.sh d)) := fun F O σ H v S hv Q k => k O _ H (Le.refl O H) (S.setSh hv)
theorem dgs_nil : DGs gNil [] ds ds := fun F O σ H vs S hv Q k => by
  cases hv
  exact ⟨rfl, k O σ H (Le.refl O H) S⟩
theorem dgs_cons {gr' : TGs} {xs : List Dt} (h1 : DG g x ds ds1) (h2 : DGs gr' xs ds1 ds2) : DGs (gCons g gr') (x :: xs) ds ds2 := fun F O σ H vs S hv Q k => by
  cases hv with
  | cons q qs =>
    exact ⟨_, _, rfl, h1 F O σ H _ S q _ fun O1 σ1 H1 l1 S1 => h2 F O1 σ1 H1 _ S1 (qs.mono l1) Q fun O2 σ2 H2 l2 S2 => k O2 σ2 H2 (l1.trans l2) S2⟩
theorem dg_tup {K : PySem.W.Frag} {n : Nat} {gs : TGs} {xs : List Dt} (h : DGs gs xs ds ds1) (hn : xs.length = n) : DG (gTup K n gs) (.tup xs) ds ds1 := fun F O σ H v S hv Q k => by
  cases hv with
  | tup g hvs => exact ⟨_, _, rfl, .inl (.inl g.1), by rw [hvs.length, hn], h F O σ H _ S hvs Q k⟩
  | cell _ c => cases c
/-- slots in another writing -/
theorem DS.to {o' : Out} (h : DS t ds o) (e : o = o') : DS t ds o' := e ▸ h
theorem DS.fr {ds0 : List Sl} (h : DS t ds o) (e : ds0 = ds) : DS t ds0 o := e ▸ h
/-- a slot's knowledge dropped -/
theorem ds_forgetR {i : Nat} (h : DS t ds (.nx ds1)) : DS t ds (.nx (ds1.set i .non)) := fun F O σ H S D k => h F O σ H S D fun O1 σ1 H1 l1 S1 => k O1 σ1 H1 l1 S1.forget
theorem ds_forgetL {i : Nat} (h : DS t (ds.set i .non) o) : DS t ds o := fun F O σ H S D k => h F O σ H S.forget D k
end
end DL

end

section
set_option Elab.async false
set_option linter.all false
set_option maxRecDepth 100000
set_option autoImplicit false
set_option maxHeartbeats 4000000
namespace DL
open PySem PySem.Spec PyProof.Rows L2

/-! ### operators by data -/
section
variable {K : PySem.W.Frag} {i j : Int} {xs ys : List Int} {x y d : Dt} {ds es : List Dt} {b c : Bool}
theorem inv_int {G : Gr} {v : V} (h : Dv G v (.int i)) : v = .int i := by
  cases h with
  | int => rfl
  | cell _ c => cases c
theorem inv_bl {G : Gr} {v : V} (h : Dv G v (.bl b)) : v = .bl b := by
  cases h with
  | bl => rfl
  | cell _ c => cases c
theorem inv_str {G : Gr} {v : V} {s : Str} (h : Dv G v (.str s)) : v = .str s := by
  cases h with
  | str => rfl
  | cell _ c => cases c
theorem inv_non {G : Gr} {v : V} (h : Dv G v .non) : v = .non := by
  cases h with
  | non => rfl
  | cell _ c => cases c
theorem inv_kon {G : Gr} {v : V} {a : Addr} (h : Dv G v (.kon a)) : v = .ref a := by
  cases h with
  | kon => rfl
  | cell _ c => cases c
theorem inv_ty {G : Gr} {v : V} {n : String} (h : Dv G v (.ty n)) : v = .ty n := by
  cases h with
  | ty => rfl
  | cell _ c => cases c
theorem inv_li {G : Gr} {v : V} (h : Dv G v (.li xs)) : ∃ a, v = .ref a ∧ G a (.lst (xs.map V.int)) := by
  cases h with
  | cell g c => cases c; exact ⟨_, rfl, g⟩
theorem inv_lst {G : Gr} {v : V} (h : Dv G v (.lst ds)) : ∃ a vs, v = .ref a ∧ G a (.lst vs) ∧ DvA G vs ds := by
  cases h with
  | cell g c => cases c with
    | lst k => exact ⟨_, _, rfl, g, k⟩
theorem inv_tup {G : Gr} {v : V} (h : Dv G v (.tup ds)) : ∃ a vs, v = .ref a ∧ G a (.tup vs) ∧ DvA G vs ds := by
  cases h with
  | tup g k => exact ⟨_, _, rfl, g, k⟩
  | cell _ c => cases c
theorem inv_ins {G : Gr} {v : V} {C : Addr} {gs : List (Str × Dt)} (h : Dv G v (.ins C gs)) : ∃ a dx fs, v = .ref a ∧ G a (.ins C dx fs) ∧ DvF G fs gs := by
  cases h with
  | cell g c => cases c with
    | ins k => exact ⟨_, _, _, rfl, g, k⟩
theorem inv_scr {G : Gr} {v : V} (h : Dv G v (.scr xs)) : ∃ a o, v = .ref a ∧ G a (.frz o (.lst (xs.map V.int))) := by
  cases h with
  | scr g => exact ⟨_, _, rfl, g⟩
  | cell _ c => cases c

theorem rd_I0 {g : Int → Int → Int} : RD (rI0 fun i j => .int (g i j)) (.int i) (.int j) (.int (g i j)) := fun G H v w _ hv hw Q k => ⟨i, j, inv_int hv, inv_int hw, k _ (.int _)⟩
theorem rd_B0 {g : Int → Int → Bool} : RD (rI0 fun i j => .bl (g i j)) (.int i) (.int j) (.bl (g i j)) := fun G H v w _ hv hw Q k => ⟨i, j, inv_int hv, inv_int hw, k _ (.bl _)⟩
theorem rd_I {C : Int → Int → Prop} {g : Int → Int → Int} (hc : C i j) : RD (rI C fun i j => .int (g i j)) (.int i) (.int j) (.int (g i j)) := fun G H v w _ hv hw Q k => ⟨i, j, inv_int hv, inv_int hw, hc, k _ (.int _)⟩
theorem rd_mulL (h : -(2 ^ 64) < i ∧ i < 2 ^ 64) : RD (rI CMul fun i j => .int (i * j)) (.int i) (.int j) (.int (i * j)) := rd_I (.inl h)
theorem rd_mulR (h : -(2 ^ 64) < j ∧ j < 2 ^ 64) : RD (rI CMul fun i j => .int (i * j)) (.int i) (.int j) (.int (i * j)) := rd_I (.inr h)
theorem rd_mod (h : 0 < j) : RD (rI (fun _ j => 0 < j) fun i j => .int (i % j)) (.int i) (.int j) (.int (i % j)) := rd_I h
theorem rd_div (h : 0 < j ∧ j < 1073741824) : RD (rI CDiv fun i j => .int (i / j)) (.int i) (.int j) (.int (i / j)) := rd_I h
theorem ud_neg : UD (rU fun i => .int (-i)) (.int i) (.int (-i)) := fun G H v _ hv Q k => ⟨i, inv_int hv, k _ (.int _)⟩
theorem rd_isN (h : x ≠ .non) : RD (fun x y H Q => y = .non ∧ Q (.bl (decide (x = .non))) H) x .non (.bl false) := fun G H v w _ hv hw Q k => ⟨inv_non hw, by
  have e : v ≠ .non := fun z => by
    subst z
    cases hv
    exact h rfl
  rw [decide_eq_false e]
  exact k _ (.bl _)⟩
theorem rd_isNT : RD (fun x y H Q => y = .non ∧ Q (.bl (decide (x = .non))) H) .non .non (.bl true) := fun G H v w _ hv hw Q k => ⟨inv_non hw, by
  rw [inv_non hv, decide_eq_true rfl]
  exact k _ (.bl _)⟩
theorem rd_notN (h : x ≠ .non) : RD (fun x y H Q => y = .non ∧ Q (.bl (!decide (x = .non))) H) x .non (.bl true) := fun G H v w _ hv hw Q k => ⟨inv_non hw, by
  have e : v ≠ .non := fun z => by
    subst z
    cases hv
    exact h rfl
  rw [decide_eq_false e]
  exact k _ (.bl _)⟩
theorem rd_notNT : RD (fun x y H Q => y = .non ∧ Q (.bl (!decide (x = .non))) H) .non .non (.bl false) := fun G H v w _ hv hw Q k => ⟨inv_non hw, by
  rw [inv_non hv, decide_eq_true rfl]
  exact k _ (.bl _)⟩
theorem rd_isB : RD rIsB (.bl b) (.bl c) (.bl (decide (b = c))) := fun G H v w _ hv hw Q k => ⟨b, c, inv_bl hv, inv_bl hw, k _ (.bl _)⟩
/-- == and != of ints, bools, strs, None -/
theorem rd_eqI : RD rEq (.int i) (.int j) (.bl (decide (i = j))) := fun G H v w _ hv hw Q k => by
  rw [inv_int hv, inv_int hw]
  refine ⟨rfl, ?_⟩
  have e : decide (V.int i = V.int j) = decide (i = j) := by
    by_cases h : i = j
    · rw [h]; simp
    · simp [h]
  rw [e]
  exact k _ (.bl _)
theorem rd_neI : RD rNe (.int i) (.int j) (.bl (!decide (i = j))) := fun G H v w _ hv hw Q k => by
  rw [inv_int hv, inv_int hw]
  refine ⟨rfl, ?_⟩
  have e : decide (V.int i = V.int j) = decide (i = j) := by
    by_cases h : i = j
    · rw [h]; simp
    · simp [h]
  rw [e]
  exact k _ (.bl _)
theorem rd_eqB : RD rEq (.bl b) (.bl c) (.bl (decide (b = c))) := fun G H v w _ hv hw Q k => by
  rw [inv_bl hv, inv_bl hw]
  refine ⟨rfl, ?_⟩
  have e : decide (V.bl b = V.bl c) = decide (b = c) := by
    by_cases h : b = c
    · rw [h]; simp
    · simp [h]
  rw [e]
  exact k _ (.bl _)
theorem rd_neB : RD rNe (.bl b) (.bl c) (.bl (!decide (b = c))) := fun G H v w _ hv hw Q k => by
  rw [inv_bl hv, inv_bl hw]
  refine ⟨rfl, ?_⟩
  have e : decide (V.bl b = V.bl c) = decide (b = c) := by
    by_cases h : b = c
    · rw [h]; simp
    · simp [h]
  rw [e]
  exact k _ (.bl _)
theorem rd_eqS {s t : Str} : RD rEq (.str s) (.str t) (.bl (decide (s = t))) := fun G H v w _ hv hw Q k => by
  rw [inv_str hv, inv_str hw]
  refine ⟨rfl, ?_⟩
  have e : decide (V.str s = V.str t) = decide (s = t) := by
    by_cases h : s = t
    · rw [h]; simp
    · simp [h]
  rw [e]
  exact k _ (.bl _)
theorem rd_neS {s t : Str} : RD rNe (.str s) (.str t) (.bl (!decide (s = t))) := fun G H v w _ hv hw Q k => by
  rw [inv_str hv, inv_str hw]
  refine ⟨rfl, ?_⟩
  have e : decide (V.str s = V.str t) = decide (s = t) := by
    by_cases h : s = t
    · rw [h]; simp
    · simp [h]
  rw [e]
  exact k _ (.bl _)

/-! ### == of lists and tuples -/
mutual
def toPy : Dt → PyData
  | .non => .none
  | .bl b => .bool b
  | .int i => .int i
  | .str s => .str s
  | .li xs => .list (xs.map .int)
  | .lst ds => .list (toPys ds)
  | .tup ds => .tuple (toPys ds)
  | _ => .none
def toPys : List Dt → List PyData
  | [] => []
  | d :: ds => toPy d :: toPys ds
end
mutual
def plain : Dt → Bool
  | .ins _ _ => false
  | .ty _ => false
  | .kon _ => false
  | .scr _ => false
  | .lst ds => plains ds
  | .tup ds => plains ds
  | _ => true
def plains : List Dt → Bool
  | [] => true
  | d :: ds => plain d && plains ds
end
theorem dpa_ints {H : Hp} : ∀ xs : List Int, DpAll K H (xs.map V.int) (xs.map PyData.int)
  | [] => .nil
  | x :: r => .cons (.int x) (dpa_ints r)
mutual
theorem dp_of {G : Gr} {H : Hp} (hg : ∀ a o, G a o → H a = some o) : ∀ {v : V} {d : Dt}, Dv G v d → plain d = true → Dp K H v (toPy d)
  | _, _, .non, _ => by unfold toPy; exact .non
  | _, _, .bl b, _ => by unfold toPy; exact .bl b
  | _, _, .int i, _ => by unfold toPy; exact .int i
  | _, _, .str x, _ => by unfold toPy; exact .str x
  | _, _, .tup h k, p => by
    unfold toPy
    unfold plain at p
    exact .tup (.inl (.inl (hg _ _ h))) (dpa_of hg k p)
  | _, _, .cell h k, p => by
    cases k with
    | li xs => unfold toPy; exact .lst (.inl (.inl (hg _ _ h))) (dpa_ints xs)
    | lst k =>
      unfold toPy
      unfold plain at p
      exact .lst (.inl (.inl (hg _ _ h))) (dpa_of hg k p)
    | ins k => unfold plain at p; cases p
  | _, _, .ty n, p => by unfold plain at p; cases p
  | _, _, .kon n, p => by unfold plain at p; cases p
  | _, _, .scr n, p => by unfold plain at p; cases p
theorem dpa_of {G : Gr} {H : Hp} (hg : ∀ a o, G a o → H a = some o) : ∀ {vs : List V} {ds : List Dt}, DvA G vs ds → plains ds = true → DpAll K H vs (toPys ds)
  | _, _, .nil, _ => by unfold toPys; exact .nil
  | _, _, .cons h k, p => by
    unfold toPys
    unfold plains at p
    exact .cons (dp_of hg h (Bool.and_eq_true_iff.mp p).1) (dpa_of hg k (Bool.and_eq_true_iff.mp p).2)
end
abbrev shp (d : Dt) : Bool := plain d && SeqAt.shaped (toPy d)
theorem rd_eqD (hx : shp x = true) (hy : shp y = true) : RD (rEqD K) x y (.bl (PyData.eqv (toPy x) (toPy y))) := fun G H v w hg hv hw Q k =>
  ⟨toPy x, toPy y, dp_of hg hv (Bool.and_eq_true_iff.mp hx).1, dp_of hg hw (Bool.and_eq_true_iff.mp hy).1, (Bool.and_eq_true_iff.mp hx).2, (Bool.and_eq_true_iff.mp hy).2, k _ (.bl _)⟩
theorem rd_neD (hx : shp x = true) (hy : shp y = true) : RD (rNeD K) x y (.bl (!PyData.eqv (toPy x) (toPy y))) := fun G H v w hg hv hw Q k =>
  ⟨toPy x, toPy y, dp_of hg hv (Bool.and_eq_true_iff.mp hx).1, dp_of hg hw (Bool.and_eq_true_iff.mp hy).1, (Bool.and_eq_true_iff.mp hx).2, (Bool.and_eq_true_iff.mp hy).2, k _ (.bl _)⟩
theorem lays_ints : ∀ xs : List Int, PyData.canLayAll0 (xs.map PyData.int) = true
  | [] => rfl
  | x :: r => by
    show PyData.canLayAll0 (PyData.int x :: r.map PyData.int) = true
    unfold PyData.canLayAll0
    rw [lays_ints r]
    rfl
theorem depth_ints : ∀ xs : List Int, PyData.depthAll (xs.map PyData.int) = 0
  | [] => rfl
  | x :: r => by
    show PyData.depthAll (PyData.int x :: r.map PyData.int) = 0
    unfold PyData.depthAll
    rw [depth_ints r]
    rfl
theorem shp_li (xs : List Int) : shp (.li xs) = true := by
  unfold shp
  rw [show plain (.li xs) = true from by unfold plain; rfl, Bool.true_and]
  unfold toPy SeqAt.shaped
  rw [show PyData.canLay0 (.list (xs.map PyData.int)) = true from by unfold PyData.canLay0; exact lays_ints xs, Bool.true_and]
  refine decide_eq_true ?_
  unfold PyData.depth
  rw [depth_ints]
  decide
theorem eqv_ints : ∀ xs ys : List Int, PyData.eqvAll (xs.map PyData.int) (ys.map PyData.int) = decide (xs = ys)
  | [], [] => rfl
  | [], _ :: _ => rfl
  | _ :: _, [] => rfl
  | x :: xs, y :: ys => by
    show PyData.eqvAll (PyData.int x :: xs.map PyData.int) (PyData.int y :: ys.map PyData.int) = _
    unfold PyData.eqvAll
    rw [eqv_ints xs ys]
    unfold PyData.eqv
    by_cases h : x = y
    · subst h; by_cases h2 : xs = ys <;> simp [h2]
    · simp [h]
theorem rd_eqL : RD (rEqD K) (.li xs) (.li ys) (.bl (decide (xs = ys))) := fun G H v w hg hv hw Q k => rd_eqD (shp_li xs) (shp_li ys) G H v w hg hv hw Q fun u hu => k u (by
  have e : PyData.eqv (toPy (.li xs)) (toPy (.li ys)) = decide (xs = ys) := by
    unfold toPy PyData.eqv
    exact eqv_ints xs ys
  rw [e] at hu
  exact hu)
theorem rd_neL : RD (rNeD K) (.li xs) (.li ys) (.bl (!decide (xs = ys))) := fun G H v w hg hv hw Q k => rd_neD (shp_li xs) (shp_li ys) G H v w hg hv hw Q fun u hu => k u (by
  have e : PyData.eqv (toPy (.li xs)) (toPy (.li ys)) = decide (xs = ys) := by
    unfold toPy PyData.eqv
    exact eqv_ints xs ys
  rw [e] at hu
  exact hu)
/-! ### lists: +, *, items, slices, len, list(..) -/
theorem rn_catI (h : xs.length + ys.length ≤ 100000) : RN rCat (.li xs) (.li ys) (.li (xs ++ ys)) := fun G H v w hg hv hw Q k => by
  obtain ⟨a, rfl, h1⟩ := inv_li hv
  obtain ⟨b, rfl, h2⟩ := inv_li hw
  refine ⟨a, b, _, _, rfl, rfl, hg _ _ h1, hg _ _ h2, by rw [List.length_map, List.length_map]; exact Nat.le_trans h (by decide), fun p hp => ?_⟩
  rw [← List.map_append]
  exact k p _ hp (.li _)
theorem rn_cat (h : ds.length + es.length ≤ 100000) : RN rCat (.lst ds) (.lst es) (.lst (ds ++ es)) := fun G H v w hg hv hw Q k => by
  obtain ⟨a, vs, rfl, h1, k1⟩ := inv_lst hv
  obtain ⟨b, ws, rfl, h2, k2⟩ := inv_lst hw
  exact ⟨a, b, _, _, rfl, rfl, hg _ _ h1, hg _ _ h2, by rw [k1.length, k2.length]; exact Nat.le_trans h (by decide), fun p hp => k p _ hp (.lst (k1.append k2))⟩
theorem rep_map (n : Nat) (x : Int) : (List.replicate n [V.int x]).flatten = (List.replicate n x).map V.int := by
  induction n with
  | zero => rfl
  | succ n ih => rw [List.replicate_succ, List.flatten_cons, ih, List.replicate_succ]; rfl
/-- [x] * n -/
theorem rn_repI (h : -100000 ≤ i ∧ i ≤ 100000) : RN rRep (.li [j]) (.int i) (.li (List.replicate i.toNat j)) := fun G H v w hg hv hw Q k => by
  obtain ⟨a, rfl, h1⟩ := inv_li hv
  rw [inv_int hw]
  refine ⟨a, i, _, rfl, rfl, hg _ _ h1, by omega, by omega, ?_, fun p hp => ?_⟩
  · show 1 * i.toNat ≤ sizeLine
    have : (100000 : Nat) ≤ sizeLine := by decide
    omega
  · show Q (.ref p) (upd H p (.lst (List.replicate i.toNat [V.int j]).flatten))
    rw [rep_map]
    exact k p _ hp (.li _)
theorem rep_mapD {G : Gr} {v : V} (n : Nat) (h : Dv G v d) : DvA G (List.replicate n [v]).flatten (List.replicate n d) := by
  induction n with
  | zero => exact .nil
  | succ n ih => rw [List.replicate_succ, List.flatten_cons, List.replicate_succ]; exact .cons h ih
theorem rn_rep (h : -100000 ≤ i ∧ i ≤ 100000) : RN rRep (.lst [d]) (.int i) (.lst (List.replicate i.toNat d)) := fun G H v w hg hv hw Q k => by
  obtain ⟨a, vs, rfl, h1, k1⟩ := inv_lst hv
  rw [inv_int hw]
  cases k1 with
  | cons k1 kr =>
    cases kr
    refine ⟨a, i, _, rfl, rfl, hg _ _ h1, by omega, by omega, ?_, fun p hp => k p _ hp (.lst (rep_mapD _ k1))⟩
    show 1 * i.toNat ≤ sizeLine
    have : (100000 : Nat) ≤ sizeLine := by decide
    omega
theorem atI_map {α β : Type} (f : α → β) (xs : List α) (i : Int) : atI (xs.map f) i = (atI xs i).map f := by
  unfold atI
  rw [List.length_map]
  cases ixN xs.length i with
  | none => rfl
  | some k => simp
theorem rd_ixI (h : atI xs i = some j) : RD (rIxL K) (.li xs) (.int i) (.int j) := fun G H v w hg hv hw Q k => by
  obtain ⟨a, rfl, h1⟩ := inv_li hv
  rw [inv_int hw]
  exact ⟨a, _, i, .int j, rfl, rfl, .inl (.inl (hg _ _ h1)), by rw [atI_map, h]; rfl, k _ (.int _)⟩
theorem rd_ixS (h : atI xs i = some j) : RD (rIxL K) (.scr xs) (.int i) (.int j) := fun G H v w hg hv hw Q k => by
  obtain ⟨a, o, rfl, h1⟩ := inv_scr hv
  rw [inv_int hw]
  exact ⟨a, _, i, .int j, rfl, rfl, .inl (.inr ⟨o, hg _ _ h1⟩), by rw [atI_map, h]; rfl, k _ (.int _)⟩
theorem dva_at {G : Gr} {vs : List V} (k : DvA G vs ds) (h : atI ds i = some d) : ∃ v, atI vs i = some v ∧ Dv G v d := by
  unfold atI at h ⊢
  rw [k.length]
  cases e : ixN ds.length i with
  | none => rw [e] at h; cases h
  | some n =>
    rw [e] at h
    exact k.get h
theorem rd_ixL (h : atI ds i = some d) : RD (rIxL K) (.lst ds) (.int i) d := fun G H v w hg hv hw Q k => by
  obtain ⟨a, vs, rfl, h1, k1⟩ := inv_lst hv
  rw [inv_int hw]
  obtain ⟨u, e, hu⟩ := dva_at k1 h
  exact ⟨a, _, i, u, rfl, rfl, .inl (.inl (hg _ _ h1)), e, k _ hu⟩
theorem rd_ixT (h : atI ds i = some d) : RD (rIxT K) (.tup ds) (.int i) d := fun G H v w hg hv hw Q k => by
  obtain ⟨a, vs, rfl, h1, k1⟩ := inv_tup hv
  rw [inv_int hw]
  obtain ⟨u, e, hu⟩ := dva_at k1 h
  exact ⟨a, _, i, u, rfl, rfl, .inl (.inl (hg _ _ h1)), e, k _ hu⟩
/-- a slice's places -/
def cut {α : Type} (xs : List α) (lo hi : Option Int) : List α := (xs.drop (HT.sIx xs.length 0 lo)).take (HT.sIx xs.length xs.length hi - HT.sIx xs.length 0 lo)
theorem cutV_map (xs : List Int) (lo hi : Option Int) : cutV (xs.map V.int) lo hi = (cut xs lo hi).map V.int := by
  unfold cutV cut
  rw [List.length_map, List.map_take, List.map_drop]
section
variable {sl sl1 sl2 sl3 : List Sl} {te : TE} {tl th : TO} {lo hi : Option Int}
theorem dn_sliceI (h : DE te sl (.li xs) sl1) (h1 : DO tl sl1 lo sl2) (h2 : DO th sl2 hi sl3) : DN (tSl (rSlL K) te tl th) sl (.li (cut xs lo hi)) sl3 := fun F O σ H S Q k =>
  h F O σ H S _ fun O1 v H1 l1 S1 hv => h1 F O1 σ H1 S1 _ fun O2 H2 l2 S2 => h2 F O2 σ H2 S2 _ fun O3 H3 l3 S3 => by
    obtain ⟨a, rfl, g⟩ := inv_li ((hv.mono l2).mono l3)
    refine ⟨a, _, rfl, .inl (.inl g.1), fun p hp => ?_⟩
    rw [cutV_map]
    exact made_new S3 hp (.li _) fun O' p o H' l S' q1 q2 q3 q4 => k O' p o H' (((l1.trans l2).trans l3).trans l) S' q1 q2 q3 q4
theorem dn_sliceS (h : DE te sl (.scr xs) sl1) (h1 : DO tl sl1 lo sl2) (h2 : DO th sl2 hi sl3) : DN (tSl (rSlL K) te tl th) sl (.li (cut xs lo hi)) sl3 := fun F O σ H S Q k =>
  h F O σ H S _ fun O1 v H1 l1 S1 hv => h1 F O1 σ H1 S1 _ fun O2 H2 l2 S2 => h2 F O2 σ H2 S2 _ fun O3 H3 l3 S3 => by
    obtain ⟨a, o, rfl, g⟩ := inv_scr ((hv.mono l2).mono l3)
    refine ⟨a, _, rfl, .inl (.inr ⟨o, g.1⟩), fun p hp => ?_⟩
    rw [cutV_map]
    exact made_new S3 hp (.li _) fun O' p o H' l S' q1 q2 q3 q4 => k O' p o H' (((l1.trans l2).trans l3).trans l) S' q1 q2 q3 q4
theorem dn_slice (h : DE te sl (.lst ds) sl1) (h1 : DO tl sl1 lo sl2) (h2 : DO th sl2 hi sl3) : DN (tSl (rSlL K) te tl th) sl (.lst (cut ds lo hi)) sl3 := fun F O σ H S Q k =>
  h F O σ H S _ fun O1 v H1 l1 S1 hv => h1 F O1 σ H1 S1 _ fun O2 H2 l2 S2 => h2 F O2 σ H2 S2 _ fun O3 H3 l3 S3 => by
    obtain ⟨a, vs, rfl, g, kv⟩ := inv_lst ((hv.mono l2).mono l3)
    refine ⟨a, _, rfl, .inl (.inl g.1), fun p hp => ?_⟩
    have e : DvA (gr O3 H3) (cutV vs lo hi) (cut ds lo hi) := by
      unfold cutV cut
      rw [kv.length]
      exact (kv.drop _).take _
    exact made_new S3 hp (.lst e) fun O' p o H' l S' q1 q2 q3 q4 => k O' p o H' (((l1.trans l2).trans l3).trans l) S' q1 q2 q3 q4
end
abbrev rLenS (K : PySem.W.Frag) : List V → Hp → VK → Prop := fun xs H Q => ∃ p ys, xs = [.ref p] ∧ (SqL K H p ys ∨ SqT K H p ys) ∧ Q (.int ys.length) H
abbrev rListS (K : PySem.W.Frag) : List V → Hp → VK → Prop := fun xs H Q => ∃ p ys, xs = [.ref p] ∧ (SqL K H p ys ∨ SqT K H p ys) ∧ ∀ l, H l = none → Q (.ref l) (upd H l (.lst ys))
theorem inv1 {G : Gr} {vs : List V} (h : DvA G vs [x]) : ∃ v, vs = [v] ∧ Dv G v x := by
  cases h with
  | cons h k => cases k; exact ⟨_, rfl, h⟩
theorem inv2 {G : Gr} {vs : List V} (h : DvA G vs [x, y]) : ∃ v w, vs = [v, w] ∧ Dv G v x ∧ Dv G w y := by
  cases h with
  | cons h k => cases k with
    | cons h' k => cases k; exact ⟨_, _, rfl, h, h'⟩
theorem cd_lenI : CD (rLenS K) [.li xs] (.int xs.length) := fun G H vs hg hv Q k => by
  obtain ⟨v, rfl, h⟩ := inv1 hv
  obtain ⟨a, rfl, g⟩ := inv_li h
  exact ⟨a, _, rfl, .inl (.inl (.inl (hg _ _ g))), by rw [List.length_map]; exact k _ (.int _)⟩
theorem cd_lenS : CD (rLenS K) [.scr xs] (.int xs.length) := fun G H vs hg hv Q k => by
  obtain ⟨v, rfl, h⟩ := inv1 hv
  obtain ⟨a, o, rfl, g⟩ := inv_scr h
  exact ⟨a, _, rfl, .inl (.inl (.inr ⟨o, hg _ _ g⟩)), by rw [List.length_map]; exact k _ (.int _)⟩
theorem cd_len : CD (rLenS K) [.lst ds] (.int ds.length) := fun G H vs hg hv Q k => by
  obtain ⟨v, rfl, h⟩ := inv1 hv
  obtain ⟨a, ws, rfl, g, kv⟩ := inv_lst h
  exact ⟨a, _, rfl, .inl (.inl (.inl (hg _ _ g))), by rw [kv.length]; exact k _ (.int _)⟩
theorem cd_lenT : CD (rLenS K) [.tup ds] (.int ds.length) := fun G H vs hg hv Q k => by
  obtain ⟨v, rfl, h⟩ := inv1 hv
  obtain ⟨a, ws, rfl, g, kv⟩ := inv_tup h
  exact ⟨a, _, rfl, .inr (.inl (.inl (hg _ _ g))), by rw [kv.length]; exact k _ (.int _)⟩
theorem cn_listI : CN (rListS K) [.li xs] (.li xs) := fun G H vs hg hv Q k => by
  obtain ⟨v, rfl, h⟩ := inv1 hv
  obtain ⟨a, rfl, g⟩ := inv_li h
  exact ⟨a, _, rfl, .inl (.inl (.inl (hg _ _ g))), fun l hl => k l _ hl (.li _)⟩
theorem cn_list : CN (rListS K) [.lst ds] (.lst ds) := fun G H vs hg hv Q k => by
  obtain ⟨v, rfl, h⟩ := inv1 hv
  obtain ⟨a, ws, rfl, g, kv⟩ := inv_lst h
  exact ⟨a, _, rfl, .inl (.inl (.inl (hg _ _ g))), fun l hl => k l _ hl (.lst kv)⟩
theorem cn_listT : CN (rListS K) [.tup ds] (.lst ds) := fun G H vs hg hv Q k => by
  obtain ⟨v, rfl, h⟩ := inv1 hv
  obtain ⟨a, ws, rfl, g, kv⟩ := inv_tup h
  exact ⟨a, _, rfl, .inr (.inl (.inl (hg _ _ g))), fun l hl => k l _ hl (.lst kv)⟩
theorem cd_int : CD (fun xs H Q => (∃ i, xs = [.int i] ∧ Q (.int i) H) ∨ ∃ k, xs = [.bl k] ∧ Q (.int (if k then 1 else 0)) H) [.int i] (.int i) := fun G H vs hg hv Q k => by
  obtain ⟨v, rfl, h⟩ := inv1 hv
  exact .inl ⟨i, by rw [inv_int h], k _ (.int _)⟩
theorem cd_max2 : CD (fun xs H Q => ∃ i j, xs = [.int i, .int j] ∧ Q (.int (if j > i then j else i)) H) [.int i, .int j] (.int (if j > i then j else i)) := fun G H vs hg hv Q k => by
  obtain ⟨v, w, rfl, h1, h2⟩ := inv2 hv
  exact ⟨i, j, by rw [inv_int h1, inv_int h2], k _ (.int _)⟩
theorem cd_sum : CD (rSum K) [.li xs] (.int xs.sum) := fun G H vs hg hv Q k => by
  obtain ⟨v, rfl, h⟩ := inv1 hv
  obtain ⟨a, rfl, g⟩ := inv_li h
  exact ⟨a, _, rfl, .inl (.inl (hg _ _ g)), k _ (.int _)⟩
/-! ### isinstance -/
def tyD : Dt → Value
  | .non => .type "NoneType"
  | .bl _ => .type "bool"
  | .int _ => .type "int"
  | .str _ => .type "str"
  | .li _ => .type "list"
  | .lst _ => .type "list"
  | .tup _ => .type "tuple"
  | .ins C _ => .ref C
  | .scr _ => .type "list"
  | _ => .none
/-- its kind is known: no class and no written thing; an instance's class has said what it must -/
def Kinded (K : PySem.W.Frag) : Dt → Prop
  | .ins C _ => C8.InsC K C
  | .ty _ => False
  | .kon _ => False
  | _ => True
theorem tyX_of {G : Gr} {H : Hp} {v : V} (hg : ∀ a o, G a o → H a = some o) (h : Dv G v d) (k : Kinded K d) : TyX K H v (tyD d) := by
  cases h with
  | non => exact .base .non
  | bl b => exact .base (.bl b)
  | int i => exact .base (.int i)
  | str x => exact .base (.str x)
  | tup g _ => exact .base (.tup (hg _ _ g))
  | cell g c =>
    cases c with
    | li xs => exact .base (.lst (hg _ _ g))
    | lst _ => exact .base (.lst (hg _ _ g))
    | ins _ => exact .base (.ins (hg _ _ g) k.cl k.ha k.hn k.htk k.hm)
  | scr g => exact .base (.frz (hg _ _ g))
  | ty n => exact k.elim
  | kon a => exact k.elim
theorem cd_isiT {n : String} (k : Kinded K x) (e : PySem.W.kitOne K (tyD x) (.type n) = some b) : CD (rIsi K) [x, .ty n] (.bl b) := fun G H vs hg hv Q q => by
  obtain ⟨v, w, rfl, h1, h2⟩ := inv2 hv
  rw [inv_ty h2]
  exact ⟨v, .ty n, _, _, b, rfl, .ty n, tyX_of hg h1 k, e, q _ (.bl _)⟩
theorem cd_isiC {C : Addr} (k : Kinded K x) (e : PySem.W.kitOne K (tyD x) (.ref C) = some b) : CD (rIsi K) [x, .kon C] (.bl b) := fun G H vs hg hv Q q => by
  obtain ⟨v, w, rfl, h1, h2⟩ := inv2 hv
  rw [inv_kon h2]
  exact ⟨v, .ref C, _, _, b, rfl, .own C, tyX_of hg h1 k, e, q _ (.bl _)⟩
/-- x in, x not in a written tuple of ints -/
theorem rd_inK {neg : Bool} {a : Addr} (hK : ∀ H, SqT K H a (xs.map V.int)) : RD (rIn K neg) (.int i) (.kon a) (.bl (if neg then !inV (.int i) (xs.map V.int) else inV (.int i) (xs.map V.int))) := fun G H v w hg hv hw Q k => by
  rw [inv_int hv, inv_kon hw]
  exact ⟨a, _, rfl, .inr (hK H), rfl, by simp [flatV], k _ (.bl _)⟩
theorem rd_inI {neg : Bool} : RD (rIn K neg) (.int i) (.li xs) (.bl (if neg then !inV (.int i) (xs.map V.int) else inV (.int i) (xs.map V.int))) := fun G H v w hg hv hw Q k => by
  rw [inv_int hv]
  obtain ⟨a, rfl, g⟩ := inv_li hw
  exact ⟨a, _, rfl, .inl (.inl (.inl (hg _ _ g))), rfl, by simp [flatV], k _ (.bl _)⟩
theorem rd_inT {neg : Bool} (h : ds = xs.map Dt.int) : RD (rIn K neg) (.int i) (.tup ds) (.bl (if neg then !inV (.int i) (xs.map V.int) else inV (.int i) (xs.map V.int))) := fun G H v w hg hv hw Q k => by
  rw [inv_int hv]
  obtain ⟨a, vs, rfl, g, kv⟩ := inv_tup hw
  rw [h] at kv
  have e := dva_ints_inv kv
  subst e
  exact ⟨a, _, rfl, .inr (.inl (.inl (hg _ _ g))), rfl, by simp [flatV], k _ (.bl _)⟩
end
end DL

end

section
set_option Elab.async false
set_option linter.all false
set_option maxRecDepth 100000
set_option autoImplicit false
set_option maxHeartbeats 4000000
namespace DL
open PySem PySem.Spec PyProof.Rows L2

/-! ### what is walked -/
/-- from H on, whatever is done elsewhere, the iterator gives xs -/
def Wk (F : Gr) (O : Addr → Prop) (H : Hp) (J : It) (xs : List Dt) : Prop := ∀ (O2 : Addr → Prop) (H2 : Hp), Le O H O2 H2 → (∀ a, O2 a → ∃ o, H2 a = some o) →
  (∀ i, i < xs.length → J.go i H2) ∧ J.stop xs.length H2 ∧ ∀ i v H3, i < xs.length → J.yld i H2 v H3 → (∀ a o, H2 a = some o → H3 a = some o) ∧ ∃ x, xs[i]? = some x ∧ Dv (gr O2 H3) v x
def DW (wi : TI) (ds : List Sl) (xs : List Dt) (ds' : List Sl) : Prop := ∀ (F : Gr) (O : Addr → Prop) (σ : L2.St) (H : Hp), SR F O σ H ds →
  ∀ R : It → Hp → Prop, (∀ (O' : Addr → Prop) (J : It) (H' : Hp), Le O H O' H' → SR F O' σ H' ds' → Wk F O' H' J xs → R J H') → wi σ H R
section
variable {K : PySem.W.Frag} {ds ds1 : List Sl} {tl : TE} {ta : TA} {xs : List Dt} {is : List Int} {i j c : Int}
theorem wk_list {F : Gr} {O : Addr → Prop} {H : Hp} {a : Addr} {vs : List V} (g : gr O H a (.lst vs)) (k : DvA (gr O H) vs xs) : Wk F O H (Itl K a) xs := fun O2 H2 l _ => by
  have g2 := (l _ _ g).1
  have W := walk_list (K := K) (a := a) (xs := vs)
  have q : SqL K H2 a vs := .inl (.inl g2)
  refine ⟨fun i hi => W.goes i H2 (by rw [k.length]; exact hi) q, ?_, fun i v H3 hi y => ?_⟩
  · have := W.stops H2 q
    rw [k.length] at this
    exact this
  · obtain ⟨e, hv⟩ := W.yields i H2 v H3 (by rw [k.length]; exact hi) q y
    subst e
    obtain ⟨x, hx, hd⟩ := k.getV hv
    exact ⟨fun _ _ h => h, x, hx, hd.mono l⟩
theorem wk_tup {F : Gr} {O : Addr → Prop} {H : Hp} {a : Addr} {vs : List V} (g : gr O H a (.tup vs)) (k : DvA (gr O H) vs xs) : Wk F O H (Itt K a) xs := fun O2 H2 l _ => by
  have g2 := (l _ _ g).1
  have W := walk_tup (K := K) (a := a) (xs := vs)
  have q : SqT K H2 a vs := .inl (.inl g2)
  refine ⟨fun i hi => W.goes i H2 (by rw [k.length]; exact hi) q, ?_, fun i v H3 hi y => ?_⟩
  · have := W.stops H2 q
    rw [k.length] at this
    exact this
  · obtain ⟨e, hv⟩ := W.yields i H2 v H3 (by rw [k.length]; exact hi) q y
    subst e
    obtain ⟨x, hx, hd⟩ := k.getV hv
    exact ⟨fun _ _ h => h, x, hx, hd.mono l⟩
theorem wk_rev {F : Gr} {O : Addr → Prop} {H : Hp} {a : Addr} {vs : List V} (g : gr O H a (.lst vs)) (k : DvA (gr O H) vs xs) : Wk F O H (Itv K a vs.length) xs.reverse := fun O2 H2 l _ => by
  have g2 := (l _ _ g).1
  have W := walk_rev (K := K) (a := a) (xs := vs)
  have q : SqL K H2 a vs := .inl (.inl g2)
  rw [List.length_reverse]
  refine ⟨fun i hi => W.goes i H2 (by rw [k.length]; exact hi) q, ?_, fun i v H3 hi y => ?_⟩
  · have := W.stops H2 q
    rw [k.length] at this ⊢
    exact this
  · obtain ⟨e, hv⟩ := W.yields i H2 v H3 (by rw [k.length]; exact hi) q y
    subst e
    obtain ⟨x, hx, hd⟩ := k.getV hv
    refine ⟨fun _ _ h => h, x, ?_, hd.mono l⟩
    rw [List.getElem?_reverse (by omega), ← k.length]
    exact hx
theorem wk_range {F : Gr} {O : Addr → Prop} {H : Hp} {lo : Int} {n : Nat} : Wk F O H (Itr lo n) ((List.range n).map fun i => Dt.int (lo + (i : Nat))) := fun O2 H2 l _ => by
  rw [List.length_map, List.length_range]
  refine ⟨fun i hi => hi, Nat.le_refl _, fun i v H3 hi y => ?_⟩
  obtain ⟨e, ev⟩ := y
  subst e; subst ev
  exact ⟨fun _ _ h => h, _, by simp [hi], .int _⟩
theorem wk_rangeC {F : Gr} {O : Addr → Prop} {H : Hp} {lo c : Int} {n : Nat} : Wk F O H (Itc lo c n) ((List.range n).map fun i => Dt.int (lo + (i : Nat) * c)) := fun O2 H2 l _ => by
  rw [List.length_map, List.length_range]
  refine ⟨fun i hi => hi, Nat.le_refl _, fun i v H3 hi y => ?_⟩
  obtain ⟨e, ev⟩ := y
  subst e; subst ev
  exact ⟨fun _ _ h => h, _, by simp [hi], .int _⟩
def pairs (n : Nat) : List Dt → List Dt
  | [] => []
  | x :: r => .tup [.int (n : Nat), x] :: pairs (n + 1) r
theorem pairs_len : ∀ (xs : List Dt) (n : Nat), (pairs n xs).length = xs.length
  | [], _ => rfl
  | x :: r, n => by unfold pairs; rw [List.length_cons, List.length_cons, pairs_len r]
theorem pairs_get : ∀ (xs : List Dt) (n i : Nat) (x : Dt), xs[i]? = some x → (pairs n xs)[i]? = some (.tup [.int ((n + i : Nat) : Int), x])
  | [], _, _, _, h => by simp at h
  | y :: r, n, 0, x, h => by
    have e : y = x := by simpa using h
    subst e
    unfold pairs
    rfl
  | y :: r, n, i + 1, x, h => by
    unfold pairs
    rw [List.getElem?_cons_succ, pairs_get r (n + 1) i x (by simpa using h), show n + 1 + i = n + (i + 1) by omega]
theorem wk_enum {F : Gr} {O : Addr → Prop} {H : Hp} {a : Addr} {vs : List V} (g : gr O H a (.lst vs)) (k : DvA (gr O H) vs xs) : Wk F O H (Ite K a) (pairs 0 xs) := fun O2 H2 l hd2 => by
  have g2 := (l _ _ g).1
  have W := walk_enum (K := K) (a := a) (xs := vs)
  have q : SqL K H2 a vs := .inl (.inl g2)
  rw [pairs_len]
  refine ⟨fun i hi => W.goes i H2 (by rw [k.length]; exact hi) q, ?_, fun i v H3 hi y => ?_⟩
  · have := W.stops H2 q
    rw [k.length] at this
    exact this
  · obtain ⟨T, x1, x2, rfl, hT, rfl, e1, e2⟩ := W.yields i H2 v H3 (by rw [k.length]; exact hi) q y
    obtain ⟨x, hx, hdx⟩ := k.getV e2
    have ex : ∀ b o, H2 b = some o → upd H2 T (.tup [x1, x2]) b = some o := fun b o h => by rw [upd_ne (ne_of_none h hT)]; exact h
    have l2 : Le O2 H2 O2 (upd H2 T (.tup [x1, x2])) := fun b o h => ⟨ex b o h.1, h.2⟩
    have nT : ¬ O2 T := fun z => by
      obtain ⟨o, e⟩ := hd2 T z
      rw [hT] at e
      cases e
    have e1' : x1 = .int (i : Nat) := (Option.some.inj e1).symm
    subst e1'
    refine ⟨ex, _, by rw [pairs_get xs 0 i x hx], .tup ⟨upd_same, nT⟩ (.cons ?_ (.cons ((hdx.mono l).mono l2) .nil))⟩
    rw [Nat.zero_add]
    exact .int _
def zipD : List Dt → List Dt → List Dt
  | x :: xs, y :: ys => .tup [x, y] :: zipD xs ys
  | _, _ => []
theorem zipD_len : ∀ xs ys : List Dt, (zipD xs ys).length = min xs.length ys.length
  | [], _ => by simp [zipD]
  | _ :: _, [] => by simp [zipD]
  | x :: xs, y :: ys => by simp [zipD, zipD_len xs ys]
theorem zipD_get : ∀ (xs ys : List Dt) (i : Nat) (x y : Dt), xs[i]? = some x → ys[i]? = some y → (zipD xs ys)[i]? = some (.tup [x, y])
  | [], _, _, _, _, h, _ => by simp at h
  | _ :: _, [], _, _, _, _, h => by simp at h
  | a :: xs, b :: ys, 0, x, y, h, h' => by
    have e : a = x := by simpa using h
    have e' : b = y := by simpa using h'
    subst e; subst e'
    rfl
  | a :: xs, b :: ys, i + 1, x, y, h, h' => by
    unfold zipD
    rw [List.getElem?_cons_succ]
    exact zipD_get xs ys i x y (by simpa using h) (by simpa using h')
theorem wk_zip {F : Gr} {O : Addr → Prop} {H : Hp} {a b : Addr} {vs ws : List V} {ys : List Dt} (g : gr O H a (.lst vs)) (k : DvA (gr O H) vs xs) (g' : gr O H b (.lst ws)) (k' : DvA (gr O H) ws ys) : Wk F O H (Itz K a b) (zipD xs ys) := fun O2 H2 l hd2 => by
  have g2 := (l _ _ g).1
  have g3 := (l _ _ g').1
  have W := walk_zip (K := K) (a := a) (b := b) (xs := vs) (ys := ws) (n := (zipD xs ys).length) (by rw [zipD_len, k.length, k'.length])
  have q : SqL K H2 a vs ∧ SqL K H2 b ws := ⟨.inl (.inl g2), .inl (.inl g3)⟩
  refine ⟨fun i hi => W.goes i H2 hi q, W.stops H2 q, fun i v H3 hi y => ?_⟩
  obtain ⟨T, x1, x2, rfl, hT, rfl, e1, e2⟩ := W.yields i H2 v H3 hi q y
  obtain ⟨x, hx, hdx⟩ := k.getV e1
  obtain ⟨z, hz, hdz⟩ := k'.getV e2
  have ex : ∀ b o, H2 b = some o → upd H2 T (.tup [x1, x2]) b = some o := fun b o h => by rw [upd_ne (ne_of_none h hT)]; exact h
  have l2 : Le O2 H2 O2 (upd H2 T (.tup [x1, x2])) := fun b o h => ⟨ex b o h.1, h.2⟩
  have nT : ¬ O2 T := fun z => by
    obtain ⟨o, e⟩ := hd2 T z
    rw [hT] at e
    cases e
  exact ⟨ex, _, zipD_get xs ys i x z hx hz, .tup ⟨upd_same, nT⟩ (.cons ((hdx.mono l).mono l2) (.cons ((hdz.mono l).mono l2) .nil))⟩

theorem dw_list (h : DE tl ds (.lst xs) ds1) : DW (iList K tl) ds xs ds1 := fun F O σ H S R k => h F O σ H S _ fun O1 v H1 l1 S1 hv => by
  obtain ⟨a, vs, rfl, g, kv⟩ := inv_lst hv
  exact ⟨a, rfl, ⟨vs, .inl (.inl g.1)⟩, k O1 _ H1 l1 S1 (wk_list g kv)⟩
theorem dw_li (h : DE tl ds (.li is) ds1) : DW (iList K tl) ds (is.map Dt.int) ds1 := dw_list h.of_li
theorem dw_tup (h : DE tl ds (.tup xs) ds1) : DW (iTup K tl) ds xs ds1 := fun F O σ H S R k => h F O σ H S _ fun O1 v H1 l1 S1 hv => by
  obtain ⟨a, vs, rfl, g, kv⟩ := inv_tup hv
  exact ⟨a, rfl, ⟨vs, .inl (.inl g.1)⟩, k O1 _ H1 l1 S1 (wk_tup g kv)⟩
theorem dw_rng1 (h : DA ta ds [.int j] ds1) (hj : -(2 ^ 62) ≤ j ∧ j < 2 ^ 62) : DW (iRng1 ta) ds ((List.range j.toNat).map fun i => Dt.int (i : Nat)) ds1 := fun F O σ H S R k => h F O σ H S _ fun O1 vs H1 l1 S1 hv => by
  obtain ⟨v, rfl, e⟩ := inv1 hv
  refine ⟨j, by rw [inv_int e], hj.1, hj.2, k O1 _ H1 l1 S1 ?_⟩
  have w := wk_range (F := F) (O := O1) (H := H1) (lo := 0) (n := j.toNat)
  have e2 : (fun i => Dt.int ((0 : Int) + ((i : Nat) : Int))) = fun i => Dt.int ((i : Nat) : Int) := by
    funext i
    rw [Int.zero_add]
  rw [e2] at w
  exact w
theorem dw_rng2 (h : DA ta ds [.int i, .int j] ds1) (hj : -(2 ^ 62) ≤ i ∧ i < 2 ^ 62 ∧ -(2 ^ 62) ≤ j ∧ j < 2 ^ 62) : DW (iRng2 ta) ds ((List.range (j - i).toNat).map fun k => Dt.int (i + (k : Nat))) ds1 := fun F O σ H S R k => h F O σ H S _ fun O1 vs H1 l1 S1 hv => by
  obtain ⟨v, w, rfl, e, e'⟩ := inv2 hv
  exact ⟨i, j, by rw [inv_int e, inv_int e'], hj, k O1 _ H1 l1 S1 wk_range⟩
theorem dw_rng3 {n : Nat} (h : DA ta ds [.int i, .int j, .int c] ds1) (hn : RgC i j c n) : DW (iRng3 ta) ds ((List.range n).map fun k => Dt.int (i + (k : Nat) * c)) ds1 := fun F O σ H S R k => h F O σ H S _ fun O1 vs H1 l1 S1 hv => by
  cases hv with
  | cons e hv =>
    obtain ⟨v, w, rfl, e', e2⟩ := inv2 hv
    exact ⟨i, j, c, n, by rw [inv_int e, inv_int e', inv_int e2], hn, k O1 _ H1 l1 S1 wk_rangeC⟩
theorem dw_enum (h : DA ta ds [.lst xs] ds1) : DW (iEnum K ta) ds (pairs 0 xs) ds1 := fun F O σ H S R k => h F O σ H S _ fun O1 vs H1 l1 S1 hv => by
  obtain ⟨v, rfl, e⟩ := inv1 hv
  obtain ⟨a, ws, rfl, g, kv⟩ := inv_lst e
  exact ⟨a, ws, rfl, .inl (.inl g.1), k O1 _ H1 l1 S1 (wk_enum g kv)⟩
theorem DA.of_li1 (h : DA ta ds [.li is] ds1) : DA ta ds [.lst (is.map Dt.int)] ds1 := fun F O σ H S Q k => h F O σ H S Q fun O1 vs H1 l1 S1 hv => k O1 vs H1 l1 S1 (by
  obtain ⟨v, rfl, e⟩ := inv1 hv
  cases e with
  | cell g c => exact .cons (.cell g c.of_li) .nil)
theorem dw_enumI (h : DA ta ds [.li is] ds1) : DW (iEnum K ta) ds (pairs 0 (is.map Dt.int)) ds1 := dw_enum h.of_li1
theorem dw_rev (h : DA ta ds [.lst xs] ds1) : DW (iRev K ta) ds xs.reverse ds1 := fun F O σ H S R k => h F O σ H S _ fun O1 vs H1 l1 S1 hv => by
  obtain ⟨v, rfl, e⟩ := inv1 hv
  obtain ⟨a, ws, rfl, g, kv⟩ := inv_lst e
  exact ⟨a, ws, rfl, .inl (.inl g.1), k O1 _ H1 l1 S1 (wk_rev g kv)⟩
theorem dw_zip {ys : List Dt} (h : DA ta ds [.lst xs, .lst ys] ds1) : DW (iZip K ta) ds (zipD xs ys) ds1 := fun F O σ H S R k => h F O σ H S _ fun O1 vs H1 l1 S1 hv => by
  obtain ⟨v, w, rfl, e, e'⟩ := inv2 hv
  obtain ⟨a, ws, rfl, g, kv⟩ := inv_lst e
  obtain ⟨b, ws', rfl, g', kv'⟩ := inv_lst e'
  exact ⟨a, b, ws, ws', rfl, .inl (.inl g.1), .inl (.inl g'.1), k O1 _ H1 l1 S1 (wk_zip g kv g' kv')⟩
end

/-! ### for -/
section
variable {wi : TI} {g : TG} {tb : TS} {ds ds0 ds' : List Sl} {xs : List Dt} {o : Out}
/-- a turn's way to the next one -/
def Turned (g : TG) (tb : TS) (x : Dt) (ds ds' : List Sl) : Prop := ∃ ds1, DG g x ds ds1 ∧ (DS tb ds1 (.nx ds') ∨ DS tb ds1 (.ct ds'))
/-- n turns, then the end: by running out (n all of them), or out of the n-th turn -/
theorem ds_for_core (hw : DW wi ds xs ds0) (I : Nat → List Sl) (h0 : I 0 = ds0) (n : Nat) (hn : n ≤ xs.length) (hs : ∀ i x, i < n → xs[i]? = some x → Turned g tb x (I i) (I (i + 1)))
    (hend : (n = xs.length ∧ o = .nx (I n)) ∨ ∃ x ds1, xs[n]? = some x ∧ DG g x (I n) ds1 ∧ ((∃ ds2, o = .nx ds2 ∧ DS tb ds1 (.bk ds2)) ∨ (∃ d ds2, o = .rt d ds2 ∧ DS tb ds1 o) ∨ ∃ d ds2, o = .rn d ds2 ∧ DS tb ds1 o)) : DS (tFor wi g tb) ds o := fun F O σ H S D k =>
  hw F O σ H S _ fun O1 J H1 l1 S1 w => by
    refine ⟨fun i m σ2 H2 => ∃ O2, m = n + 1 - i ∧ i ≤ n ∧ Le O1 H1 O2 H2 ∧ SR F O2 σ2 H2 (I i), ⟨n + 1, O1, by omega, by omega, Le.refl _ _, by rw [h0]; exact S1⟩, fun i m σ2 H2 hW => ?_⟩
    obtain ⟨O2, rfl, hi, l2, S2⟩ := hW
    obtain ⟨w1, w2, w3⟩ := w O2 H2 l2 S2.dom
    have yl : ∀ v H3, i < xs.length → J.yld i H2 v H3 → ∃ x, xs[i]? = some x ∧ Le O2 H2 O2 H3 ∧ SR F O2 σ2 H3 (I i) ∧ Dv (gr O2 H3) v x := fun v H3 hi' y => by
      obtain ⟨e1, x, hx, hv⟩ := w3 i v H3 hi' y
      obtain ⟨l3, S3⟩ := S2.grow e1
      exact ⟨x, hx, l3, S3, hv⟩
    by_cases hlt : i < n
    · refine .inr ⟨w1 i (by omega), fun σ' H' => ∃ O', Le O1 H1 O' H' ∧ SR F O' σ' H' (I (i + 1)), fun σ' H' hN => ?_, fun v H3 y => ?_⟩
      · obtain ⟨O', a1, a2⟩ := hN
        exact ⟨n + 1 - (i + 1), by omega, O', rfl, hlt, a1, a2⟩
      · obtain ⟨x, hx, l3, S3, hv⟩ := yl v H3 (by omega) y
        obtain ⟨ds1, hg, hb⟩ := hs i x hlt hx
        refine hg F O2 σ2 H3 v S3 hv _ fun O4 σ4 H4 l4 S4 => ?_
        rcases hb with hb | hb
        · exact hb F O4 σ4 H4 S4 _ fun O5 σ5 H5 l5 S5 => ⟨O5, (((l2.trans l3).trans l4).trans l5), S5⟩
        · exact hb F O4 σ4 H4 S4 _ fun O5 σ5 H5 l5 S5 => ⟨O5, (((l2.trans l3).trans l4).trans l5), S5⟩
    · have e : i = n := by omega
      subst e
      rcases hend with ⟨e1, e2⟩ | ⟨x, ds1, hx, hg, hb⟩
      · subst e2
        refine .inl ⟨by rw [e1]; exact w2, ?_⟩
        exact k O2 σ2 H2 (l1.trans l2) S2
      · have hi' : i < xs.length := (List.getElem?_eq_some_iff.mp hx).1
        refine .inr ⟨w1 i hi', fun σ' H' => False, fun σ' H' hN => hN.elim, fun v H3 y => ?_⟩
        obtain ⟨x', hx', l3, S3, hv⟩ := yl v H3 hi' y
        rw [hx] at hx'
        cases hx'
        refine hg F O2 σ2 H3 v S3 hv _ fun O4 σ4 H4 l4 S4 => ?_
        have k4 := k.le (((l1.trans l2).trans l3).trans l4)
        rcases hb with ⟨ds2, rfl, hb⟩ | ⟨d, ds2, rfl, hb⟩ | ⟨d, ds2, rfl, hb⟩
        · exact hb F O4 σ4 H4 S4 _ k4
        · exact hb F O4 σ4 H4 S4 _ k4
        · exact hb F O4 σ4 H4 S4 _ k4
theorem ds_for (hw : DW wi ds xs ds0) (I : Nat → List Sl) (h0 : I 0 = ds0) (hs : ∀ i x, xs[i]? = some x → Turned g tb x (I i) (I (i + 1))) (he : I xs.length = ds') : DS (tFor wi g tb) ds (.nx ds') :=
  ds_for_core hw I h0 xs.length (Nat.le_refl _) (fun i x _ hx => hs i x hx) (.inl ⟨rfl, by rw [he]⟩)
/-- out of the n-th turn by return -/
theorem ds_for_rt {d : Dt} {x : Dt} {ds1 : List Sl} (hw : DW wi ds xs ds0) (I : Nat → List Sl) (h0 : I 0 = ds0) (n : Nat) (hs : ∀ i x, i < n → xs[i]? = some x → Turned g tb x (I i) (I (i + 1))) (hx : xs[n]? = some x) (hg : DG g x (I n) ds1) (hb : DS tb ds1 (.rt d ds')) :
    DS (tFor wi g tb) ds (.rt d ds') :=
  ds_for_core hw I h0 n (Nat.le_of_lt (List.getElem?_eq_some_iff.mp hx).1) hs (.inr ⟨x, ds1, hx, hg, .inr (.inl ⟨d, ds', rfl, hb⟩)⟩)
/-! ### while -/
inductive Wh (tt : TT) (tb : TS) : Nat → List Sl → Out → Prop
  | stop {n : Nat} {ds ds1 : List Sl} : DT tt ds false ds1 → Wh tt tb n ds (.nx ds1)
  | step {n : Nat} {ds ds1 ds2 : List Sl} {o : Out} : DT tt ds true ds1 → DS tb ds1 (.nx ds2) → Wh tt tb n ds2 o → Wh tt tb (n + 1) ds o
  | rt {n : Nat} {ds ds1 ds2 : List Sl} {d : Dt} : DT tt ds true ds1 → DS tb ds1 (.rt d ds2) → Wh tt tb n ds (.rt d ds2)
theorem ds_while {tt : TT} {n : Nat} (h : Wh tt tb n ds o) : DS (tWhile tt tb) ds o := fun F O σ H S D k => by
  refine ⟨fun m σ2 H2 => ∃ O2 dd, Le O H O2 H2 ∧ SR F O2 σ2 H2 dd ∧ Wh tt tb m dd o, ⟨n, O, ds, Le.refl _ _, S, h⟩, fun m σ2 H2 hW => ?_⟩
  obtain ⟨O2, dd, l2, S2, hw⟩ := hW
  cases hw with
  | stop ht => exact ht F O2 σ2 H2 S2 _ fun O3 H3 l3 S3 => iteF (k O3 σ2 H3 (l2.trans l3) S3)
  | @step n' _ ds1 ds2 _ ht hb hr =>
    refine ht F O2 σ2 H2 S2 _ fun O3 H3 l3 S3 => iteT ⟨fun σ' H' => ∃ O', Le O H O' H' ∧ SR F O' σ' H' ds2, fun σ' H' hN => ?_, ?_⟩
    · obtain ⟨O', a1, a2⟩ := hN
      exact ⟨n', Nat.lt_succ_self _, O', ds2, a1, a2, hr⟩
    · exact hb F O3 σ2 H3 S3 _ fun O4 σ4 H4 l4 S4 => ⟨O4, (l2.trans l3).trans l4, S4⟩
  | @rt _ _ ds1 ds2 d ht hb =>
    exact ht F O2 σ2 H2 S2 _ fun O3 H3 l3 S3 => iteT ⟨fun _ _ => False, fun _ _ hN => hN.elim, hb F O3 σ2 H3 S3 _ (k.le (l2.trans l3))⟩
end

/-! ### comprehensions -/
theorem SR.wipe {F : Gr} {O : Addr → Prop} {σ : L2.St} {H : Hp} : ∀ {vs : List Nat} {ds : List Sl}, SR F O σ H ds → SR F O (L2.wipe σ vs) H (vs.foldr (fun v ds => ds.set v .non) ds)
  | [], _, S => S
  | v :: vs, ds, S => by
    show SR F O ((L2.wipe σ vs).set v none) H ((vs.foldr (fun v ds => ds.set v .non) ds).set v .non)
    exact (SR.wipe S).setNon
theorem wipe_get : ∀ (vs : List Nat) (τ : L2.St) (i : Nat), (L2.wipe τ vs)[i]? = if i ∈ vs ∧ i < τ.length then some none else τ[i]?
  | [], τ, i => by simp [L2.wipe]
  | v :: vs, τ, i => by
    show ((L2.wipe τ vs).set v none)[i]? = _
    by_cases e : v = i
    · subst e
      by_cases hi : v < τ.length
      · rw [List.getElem?_set_self (by rw [wipe_length]; exact hi), if_pos ⟨by simp, hi⟩]
      · rw [List.getElem?_eq_none (by rw [List.length_set, wipe_length]; omega), if_neg (fun z => hi z.2), List.getElem?_eq_none (by omega)]
    · rw [List.getElem?_set_ne e, wipe_get vs τ i]
      by_cases hm : i ∈ vs ∧ i < τ.length
      · rw [if_pos hm, if_pos ⟨List.mem_cons_of_mem _ hm.1, hm.2⟩]
      · rw [if_neg hm, if_neg (fun z => hm ⟨(List.mem_cons.mp z.1).resolve_left fun q => e q.symm, z.2⟩)]
theorem wipe_of_same {σ σ2 : L2.St} (vs : List Nat) (h : ∀ i, i ∉ vs → σ2[i]? = σ[i]?) (hl : σ2.length = σ.length) : L2.wipe σ2 vs = L2.wipe σ vs := by
  refine List.ext_getElem? fun i => ?_
  rw [wipe_get, wipe_get, hl]
  by_cases hm : i ∈ vs ∧ i < σ.length
  · rw [if_pos hm, if_pos hm]
  · rw [if_neg hm, if_neg hm]
    by_cases hv : i ∈ vs
    · have : σ.length ≤ i := Nat.le_of_not_lt fun z => hm ⟨hv, z⟩
      rw [List.getElem?_eq_none (by omega), List.getElem?_eq_none (by omega)]
    · exact h i hv
/-- a comprehension's target: it stores into the block's own slots alone -/
def DGc (g : TG) (vs : List Nat) (d : Dt) (ds ds' : List Sl) : Prop := ∀ (F : Gr) (O : Addr → Prop) (σ : L2.St) (H : Hp) (v : V), SR F O σ H ds → Dv (gr O H) v d →
  ∀ Q : L2.St → Hp → Prop, (∀ (O' : Addr → Prop) (σ' : L2.St) (H' : Hp), Le O H O' H' → SR F O' σ' H' ds' → σ'.length = σ.length → (∀ i, i ∉ vs → σ'[i]? = σ[i]?) → Q σ' H') → g v σ H Q
section
variable {ds ds1 ds2 ds0 ds' : List Sl} {d x y : Dt} {vs : List Nat} {g : TG} {tt : TT} {te : TE} {wi : TI} {xs : List Dt}
theorem dgc_name {j : Nat} (hj : j ∈ vs) : DGc (gName j) vs d ds (ds.set j (.sh d)) := fun F O σ H v S hv Q k => k O _ H (Le.refl O H) (S.setSh hv) List.length_set fun i hi => List.getElem?_set_ne fun e => hi (by rw [← e]; exact hj)
theorem dgc_two {K : PySem.W.Frag} {i j : Nat} (hi : i ∈ vs) (hj : j ∈ vs) : DGc (gTup K 2 (gCons (gName i) (gCons (gName j) gNil))) vs (.tup [x, y]) ds ((ds.set i (.sh x)).set j (.sh y)) := fun F O σ H v S hv Q k => by
  obtain ⟨a, ws, rfl, g, kv⟩ := inv_tup hv
  obtain ⟨u, w, rfl, h1, h2⟩ := inv2 kv
  refine ⟨a, _, rfl, .inl (.inl g.1), rfl, u, [w], rfl, w, [], rfl, rfl, k O _ H (Le.refl O H) ((S.setSh h1).setSh h2) (by rw [List.length_set, List.length_set]) fun m hm => ?_⟩
  rw [List.getElem?_set_ne fun e => hm (by rw [← e]; exact hj), List.getElem?_set_ne fun e => hm (by rw [← e]; exact hi)]
/-- one turn of a comprehension: what it gives, if anything -/
def LcT (g : TG) (vs : List Nat) (tt : TT) (te : TE) (x : Dt) (ds : List Sl) (r : Option Dt) (ds' : List Sl) : Prop := ∃ ds1 ds2, DGc g vs x ds ds1 ∧ ((∃ y, r = some y ∧ DT tt ds1 true ds2 ∧ DE te ds2 y ds') ∨ (r = none ∧ DT tt ds1 false ds'))
def wipeD (vs : List Nat) (ds : List Sl) : List Sl := vs.foldr (fun v ds => ds.set v .non) ds
/-- what the first n turns have given -/
def lcAcc (r : Nat → Option Dt) : Nat → List Dt
  | 0 => []
  | n + 1 => lcAcc r n ++ (r n).toList
theorem lcAcc_len (r : Nat → Option Dt) : ∀ n, (lcAcc r n).length ≤ n
  | 0 => Nat.le_refl _
  | n + 1 => by
    unfold lcAcc
    rw [List.length_append]
    have := lcAcc_len r n
    cases r n with
    | none => simp; omega
    | some y => simp; omega
theorem wipeD_get : ∀ (vs : List Nat) (τ : List Sl) (i : Nat), (wipeD vs τ)[i]? = if i ∈ vs ∧ i < τ.length then some .non else τ[i]?
  | [], τ, i => by simp [wipeD]
  | v :: vs, τ, i => by
    have wl : (wipeD vs τ).length = τ.length := by
      unfold wipeD
      induction vs with
      | nil => rfl
      | cons w vs ih => rw [List.foldr_cons, List.length_set, ih]
    show ((wipeD vs τ).set v .non)[i]? = _
    by_cases e : v = i
    · subst e
      by_cases hi : v < τ.length
      · rw [List.getElem?_set_self (by rw [wl]; exact hi), if_pos ⟨by simp, hi⟩]
      · rw [List.getElem?_eq_none (by rw [List.length_set, wl]; omega), if_neg (fun z => hi z.2), List.getElem?_eq_none (by omega)]
    · rw [List.getElem?_set_ne e, wipeD_get vs τ i]
      by_cases hm : i ∈ vs ∧ i < τ.length
      · rw [if_pos hm, if_pos ⟨List.mem_cons_of_mem _ hm.1, hm.2⟩]
      · rw [if_neg hm, if_neg (fun z => hm ⟨(List.mem_cons.mp z.1).resolve_left fun q => e q.symm, z.2⟩)]
theorem wipeD_len (vs : List Nat) (τ : List Sl) : (wipeD vs τ).length = τ.length := by
  unfold wipeD
  induction vs with
  | nil => rfl
  | cons w vs ih => rw [List.foldr_cons, List.length_set, ih]
theorem SR.unwipe {F : Gr} {O : Addr → Prop} {σ : L2.St} {H : Hp} (S : SR F O (L2.wipe σ vs) H (wipeD vs ds)) : SR F O σ H (wipeD vs ds) := by
  have key : ∀ (i : Nat) (s : Sl), (wipeD vs ds)[i]? = some s → s = .non ∨ (L2.wipe σ vs)[i]? = σ[i]? := fun i s h => by
    rw [wipe_get]
    by_cases hm : i ∈ vs ∧ i < ds.length
    · rw [wipeD_get, if_pos hm] at h
      cases h
      exact .inl rfl
    · refine .inr ?_
      have hl : σ.length = ds.length := by
        have := S.len
        rw [wipe_length, wipeD_len] at this
        exact this
      rw [hl, if_neg hm]
  refine ⟨by rw [← S.len, wipe_length], fun i s x h1 h2 => ?_, fun i j s t a hn h1 h2 h3 h4 h5 h6 => ?_, S.frn, fun i s a o h1 h2 h3 => ?_, S.dom⟩
  · rcases key i s h1 with e | e
    · rw [e]; trivial
    · exact S.sl i s x h1 (by rw [e]; exact h2)
  · rcases key i s h1 with e | e
    · rw [e] at h3; exact h3
    · rcases key j t h2 with e' | e'
      · rw [e'] at h4; exact h4
      · exact S.inj i j s t a hn h1 h2 h3 h4 (by rw [e]; exact h5) (by rw [e']; exact h6)
  · rcases key i s h1 with e | e
    · rw [e] at h2; exact h2.elim
    · exact S.hf i s a o h1 h2 (by rw [e]; exact h3)
theorem SR.addF {F : Gr} {O : Addr → Prop} {σ : L2.St} {H : Hp} {D : Addr} {u : HO} (S : SR F O σ H ds) (hO : O D) (hD : H D = some u) (hh : ∀ (i : Nat) (s : Sl), ds[i]? = some s → s.held → σ[i]? ≠ some (some (V.ref D))) : SR (fun a o => F a o ∨ (a = D ∧ o = u)) O σ H ds :=
  ⟨S.len, S.sl, S.inj, fun a o h => by
    rcases h with h | ⟨rfl, rfl⟩
    · exact S.frn a o h
    · exact ⟨hO, hD⟩, fun i s a o h1 h2 h3 h => by
    rcases h with h | ⟨rfl, rfl⟩
    · exact S.hf i s a o h1 h2 h3 h
    · exact hh i s h1 h2 h3, S.dom⟩
theorem SR.updF {F : Gr} {O : Addr → Prop} {σ : L2.St} {H : Hp} {D : Addr} {u u' : HO} (S : SR (fun a o => F a o ∨ (a = D ∧ o = u)) O σ H ds) (hF : ∀ o, ¬ F D o) : Le O H O (upd H D u') ∧ SR F O σ (upd H D u') ds ∧ Lone F σ ds D := by
  obtain ⟨hO, hD⟩ := S.frn D u (.inr ⟨rfl, rfl⟩)
  have hh : ∀ (i : Nat) (s : Sl), ds[i]? = some s → s.held → σ[i]? ≠ some (some (V.ref D)) := fun i s h1 h2 h3 => S.hf i s D u h1 h2 h3 (.inr ⟨rfl, rfl⟩)
  have l : Le O H O (upd H D u') := fun a o h => ⟨by rw [upd_ne (fun z => h.2 (by rw [z]; exact hO))]; exact h.1, h.2⟩
  refine ⟨l, ⟨S.len, fun i s x h1 h2 => (S.sl i s x h1 h2).mono l fun sh a o e q1 q2 => ⟨q1, ?_⟩, S.inj, fun a o h => ⟨(S.frn a o (.inl h)).1, ?_⟩, fun i s a o h1 h2 h3 h => S.hf i s a o h1 h2 h3 (.inl h), fun a h => ?_⟩, ⟨hh, hF⟩⟩
  · rw [upd_ne]
    · exact q2
    · intro z
      subst z; subst e
      exact hh i s h1 sh h2
  · rw [upd_ne]
    · exact (S.frn a o (.inl h)).2
    · intro z
      subst z
      exact hF o h
  · by_cases e : a = D
    · exact ⟨u', by rw [e, upd_same]⟩
    · obtain ⟨o, q⟩ := S.dom a h
      exact ⟨o, by rw [upd_ne e]; exact q⟩
/-- I: the slots by the turn -/
theorem dn_lc_core (hw : DW wi ds xs ds0) (hz : xs.length ≤ 100000) (I : Nat → List Sl) (r : Nat → Option Dt) (h0 : I 0 = wipeD vs ds0) (hs : ∀ i x, xs[i]? = some x → ∃ dx, LcT g vs tt te x (I i) (r i) dx ∧ I (i + 1) = wipeD vs dx) :
    DN (tLc wi g tt te vs) ds (.lst (lcAcc r xs.length)) (I xs.length) := fun F O σ H S Q k =>
  hw F O σ H S _ fun O1 J H1 l1 S1 w D hD => by
    have hIw : ∀ i, i ≤ xs.length → ∃ e, I i = wipeD vs e := fun i hi => by
      cases i with
      | zero => exact ⟨_, h0⟩
      | succ i =>
        obtain ⟨dx, _, e⟩ := hs i xs[i] (by simp)
        exact ⟨dx, e⟩
    obtain ⟨l2, S2⟩ := S1.new (o := .lst []) hD
    have hnf : ∀ u, ¬ F D u := fun u h => by
      have := (S1.frn D u h).2
      rw [hD] at this
      cases this
    have hl0 : ∀ (i : Nat) (s : Sl), (I 0)[i]? = some s → s.held → (L2.wipe σ vs)[i]? ≠ some (some (V.ref D)) := fun i s h1 h2 h3 => by
      obtain ⟨h3, _⟩ := wipe_some h3
      rw [h0, wipeD_get] at h1
      by_cases hm : i ∈ vs ∧ i < ds0.length
      · rw [if_pos hm] at h1
        cases h1
        exact h2
      · rw [if_neg hm] at h1
        cases s with
        | non => exact h2
        | sh _ => exact h2
        | ow d' =>
          obtain ⟨a, o, e1, _, e2, _⟩ := S1.ow h1
          rw [h3] at e1
          injection e1 with e1; injection e1 with e1; injection e1 with e1
          rw [← e1, hD] at e2
          cases e2
        | bo a d' =>
          obtain ⟨o, e1, _, e2, _⟩ := S1.bo h1
          rw [h3] at e1
          injection e1 with e1; injection e1 with e1; injection e1 with e1
          rw [← e1, hD] at e2
          cases e2
    refine ⟨fun i m H2 => ∃ O2 acc, m = xs.length + 1 - i ∧ i ≤ xs.length ∧ Le O1 H1 O2 H2 ∧ SR F O2 (L2.wipe σ vs) H2 (I i) ∧ O2 D ∧ H2 D = some (.lst acc) ∧ DvA (gr O2 H2) acc (lcAcc r i) ∧ Lone F (L2.wipe σ vs) (I i) D,
      ⟨xs.length + 1, _, [], by omega, by omega, l2, by rw [h0]; exact S2.wipe, .inr rfl, upd_same, .nil, ⟨hl0, hnf⟩⟩, fun i m H2 hW => ?_⟩
    obtain ⟨O2, acc, rfl, hi, l3, S3, hO, hDa, hacc, hlone⟩ := hW
    obtain ⟨w1, w2, w3⟩ := w O2 H2 l3 S3.dom
    by_cases hlt : i < xs.length
    · refine .inr ⟨w1 i hlt, fun H' => ∃ O2 acc, Le O1 H1 O2 H' ∧ SR F O2 (L2.wipe σ vs) H' (I (i + 1)) ∧ O2 D ∧ H' D = some (.lst acc) ∧ DvA (gr O2 H') acc (lcAcc r (i + 1)) ∧ Lone F (L2.wipe σ vs) (I (i + 1)) D, fun H' hN => ?_, fun v H3 y => ?_⟩
      · obtain ⟨O', acc', b1, b2, b3, b4, b5, b6⟩ := hN
        exact ⟨xs.length + 1 - (i + 1), by omega, O', acc', rfl, hlt, b1, b2, b3, b4, b5, b6⟩
      · obtain ⟨e1, x, hx, hv⟩ := w3 i v H3 hlt y
        obtain ⟨l4, S4⟩ := S3.grow e1
        have S5 := S4.addF hO (e1 D _ hDa) hlone.held
        obtain ⟨dx, ⟨ds1, ds2, hg, hb⟩, eI⟩ := hs i x hx
        refine hg _ O2 _ H3 v S5 hv _ fun O6 σ6 H6 l6 S6 hlen hsame => ?_
        have ew : L2.wipe σ6 vs = L2.wipe σ vs := by
          rw [wipe_of_same vs hsame hlen]
          exact wipe_of_same vs (fun i hi => by rw [wipe_get, if_neg (fun z => hi z.1)]) (wipe_length _ _)
        refine ⟨ew, ?_⟩
        rcases hb with ⟨y', er, ht, he⟩ | ⟨er, ht⟩
        · refine ht _ O6 σ6 H6 S6 _ fun O7 H7 l7 S7 => ?_
          rw [if_pos rfl]
          refine he _ O7 σ6 H7 S7 _ fun O8 u H8 l8 S8 hu => ?_
          obtain ⟨c1, c2⟩ := S8.frn D _ (.inr ⟨rfl, rfl⟩)
          have hacc8 := (((hacc.mono l4).mono l6).mono l7).mono l8
          have hlacc : acc.length ≤ i := by
            rw [hacc.length]
            exact lcAcc_len r i
          refine ⟨acc, c2, Nat.lt_of_le_of_lt (Nat.le_trans hlacc (Nat.le_of_lt (Nat.lt_of_lt_of_le hlt hz))) (by decide), ?_⟩
          obtain ⟨l9, S9, L9⟩ := S8.updF (u' := .lst (acc ++ [u])) hnf
          refine ⟨O8, acc ++ [u], ((((l3.trans l4).trans l6).trans l7).trans l8).trans l9, ?_, c1, upd_same, ?_, ?_⟩
          · rw [eI, ← ew]
            exact S9.wipe
          · show DvA _ _ (lcAcc r i ++ (r i).toList)
            rw [er]
            exact (hacc8.mono l9).append (.cons (hu.mono l9) .nil)
          · rw [eI, ← ew]
            refine ⟨fun i s h1 h2 h3 => ?_, hnf⟩
            obtain ⟨h3, h4⟩ := wipe_some h3
            rw [wipeD_get, if_neg (fun z => h4 z.1)] at h1
            exact L9.held i s h1 h2 h3
        · refine ht _ O6 σ6 H6 S6 _ fun O7 H7 l7 S7 => ?_
          rw [if_neg Bool.false_ne_true]
          obtain ⟨c1, c2⟩ := S7.frn D _ (.inr ⟨rfl, rfl⟩)
          obtain ⟨l9, S9, L9⟩ := S7.updF (u' := .lst acc) hnf
          have eu : upd H7 D (.lst acc) = H7 := by
            funext b
            by_cases e : b = D
            · rw [e, upd_same, c2]
            · rw [upd_ne e]
          rw [eu] at l9 S9
          refine ⟨O7, acc, ((l3.trans l4).trans l6).trans l7, ?_, c1, c2, ?_, ?_⟩
          · rw [eI, ← ew]
            exact S9.wipe
          · show DvA _ _ (lcAcc r i ++ (r i).toList)
            rw [er]
            simp only [Option.toList_none, List.append_nil]
            exact ((hacc.mono l4).mono l6).mono l7
          · rw [eI, ← ew]
            refine ⟨fun i s h1 h2 h3 => ?_, hnf⟩
            obtain ⟨h3, h4⟩ := wipe_some h3
            rw [wipeD_get, if_neg (fun z => h4 z.1)] at h1
            exact L9.held i s h1 h2 h3
    · have ei : i = xs.length := by omega
      subst ei
      obtain ⟨e, he⟩ := hIw xs.length (Nat.le_refl _)
      refine .inl ⟨w2, ?_⟩
      have S3' := S3
      rw [he] at S3'
      have S4 := S3'.unwipe
      refine k O2 D (.lst acc) H2 (l1.trans l3) (by rw [he]; exact S4) hO hDa (.lst hacc) ⟨fun i s h1 h2 h3 => ?_, hnf⟩
      rw [he] at h1
      have h1' := h1
      rw [wipeD_get] at h1
      by_cases hm : i ∈ vs ∧ i < e.length
      · rw [if_pos hm] at h1
        cases h1
        exact h2
      · refine hlone.held i s (by rw [he]; exact h1') h2 ?_
        have hl : σ.length = e.length := by
          have := S4.len
          rw [wipeD_len] at this
          exact this
        rw [wipe_get, hl, if_neg hm]
        exact h3
/-- a comprehension that changes nothing: what it gives, by its items (f: kept or not; v: what is given) -/
theorem lcAcc_filter (xs : List Dt) (f : Dt → Bool) (v : Dt → Dt) (r : Nat → Option Dt) (h : ∀ i x, xs[i]? = some x → r i = if f x = true then some (v x) else none) : lcAcc r xs.length = (xs.filter f).map v := by
  have key : ∀ n, n ≤ xs.length → lcAcc r n = ((xs.take n).filter f).map v := fun n => by
    induction n with
    | zero => intro _; rfl
    | succ n ih =>
      intro hn
      show lcAcc r n ++ (r n).toList = _
      have hx : xs[n]? = some xs[n] := by simp
      rw [ih (by omega), h n _ hx, List.take_add_one, hx, List.filter_append, List.map_append]
      by_cases hf : f xs[n] = true
      · rw [if_pos hf]; simp [hf]
      · rw [if_neg hf]; simp [hf]
  rw [key xs.length (Nat.le_refl _), List.take_length]
theorem dn_lc (hw : DW wi ds xs ds0) (hz : xs.length ≤ 100000) (f : Dt → Bool) (v : Dt → Dt) (hd : wipeD vs ds0 = ds0)
    (hs : ∀ x, x ∈ xs → ∃ ds1, DGc g vs x ds0 ds1 ∧ DT tt ds1 (f x) ds1 ∧ (f x = true → DE te ds1 (v x) ds1) ∧ wipeD vs ds1 = ds0) : DN (tLc wi g tt te vs) ds (.lst ((xs.filter f).map v)) ds0 := by
  have h := dn_lc_core (g := g) (tt := tt) (te := te) (vs := vs) hw hz (fun _ => ds0) (fun i => (xs[i]?).bind fun x => if f x = true then some (v x) else none) hd.symm fun i x hx => by
    obtain ⟨ds1, h1, h2, h3, h4⟩ := hs x (List.mem_of_getElem? hx)
    refine ⟨ds1, ⟨ds1, ds1, h1, ?_⟩, h4.symm⟩
    rw [hx]
    cases hf : f x with
    | true => exact .inl ⟨v x, by simp [hf], by rw [← hf]; exact h2, h3 hf⟩
    | false => exact .inr ⟨by simp [hf], by rw [← hf]; exact h2⟩
  rw [lcAcc_filter xs f v _ (fun i x hx => by simp [hx])] at h
  exact h
/-- ints out of ints -/
theorem dn_lcII {is : List Int} (hw : DW wi ds (is.map Dt.int) ds0) (hz : is.length ≤ 100000) (f : Int → Bool) (v : Int → Int) (hd : wipeD vs ds0 = ds0)
    (hs : ∀ x, x ∈ is → ∃ ds1, DGc g vs (.int x) ds0 ds1 ∧ DT tt ds1 (f x) ds1 ∧ (f x = true → DE te ds1 (.int (v x)) ds1) ∧ wipeD vs ds1 = ds0) : DN (tLc wi g tt te vs) ds (.li ((is.filter f).map v)) ds0 := by
  have key : ((is.map Dt.int).filter (fun d => match d with | .int i => f i | _ => false)).map (fun d => match d with | .int i => Dt.int (v i) | _ => d) = ((is.filter f).map v).map Dt.int := by
    clear hw hs hz
    induction is with
    | nil => rfl
    | cons a r ih =>
      by_cases hf : f a = true
      · simp only [List.map_cons, List.filter_cons, hf, if_true, ih]
      · simp only [List.map_cons, List.filter_cons, hf, if_false, ih, Bool.false_eq_true]
  have h := dn_lc (g := g) (tt := tt) (te := te) (vs := vs) hw (by rw [List.length_map]; exact hz) (fun d => match d with | .int i => f i | _ => false) (fun d => match d with | .int i => Dt.int (v i) | _ => d) hd fun x hx => by
    obtain ⟨i, hi, rfl⟩ := List.mem_map.mp hx
    exact hs i hi
  rw [key] at h
  exact h.li_of
end
end DL

end

section
set_option Elab.async false
set_option linter.all false
set_option maxRecDepth 100000
set_option autoImplicit false
set_option maxHeartbeats 4000000
namespace DL
open PySem PySem.Spec PyProof.Rows L2

/-! ### a slot's own object: read without being shown, changed -/
def Sl.has (s : Sl) (d : Dt) : Prop := s = .ow d ∨ ∃ a, s = .bo a d
theorem Sl.has.held {s : Sl} {d : Dt} (h : s.has d) : s.held := by
  rcases h with rfl | ⟨a, rfl⟩ <;> trivial
theorem has_ow {d : Dt} : (Sl.ow d).has d := .inl rfl
theorem has_bo {a : Addr} {d : Dt} : (Sl.bo a d).has d := .inr ⟨a, rfl⟩
/-- flat data leans on no object -/
def flatD : Dt → Bool
  | .non => true
  | .bl _ => true
  | .int _ => true
  | .str _ => true
  | _ => false
theorem flat_any {G G' : Gr} {v : V} {d : Dt} (hf : flatD d = true) (h : Dv G v d) : Dv G' v d := by
  cases h with
  | non => exact .non
  | bl b => exact .bl b
  | int i => exact .int i
  | str x => exact .str x
  | tup _ _ => cases hf
  | cell _ c => cases c <;> cases hf
  | ty n => cases hf
  | kon a => cases hf
  | scr _ => cases hf
section
variable {F : Gr} {O : Addr → Prop} {σ : L2.St} {H : Hp} {ds ds1 ds2 ds' : List Sl} {te ta tb tc : TE} {x y z d : Dt} {r : R2} {s s0 : Sl} {i : Nat} {K : PySem.W.Frag}
theorem SR.has (S : SR F O σ H ds) (h : ds[i]? = some s) (hd : s.has d) : ∃ a o, σ[i]? = some (some (V.ref a)) ∧ O a ∧ H a = some o ∧ Cell (gr O H) o d := by
  rcases hd with rfl | ⟨a, rfl⟩
  · exact S.ow h
  · obtain ⟨o, h1, h2, h3, h4⟩ := S.bo h
    exact ⟨a, o, h1, h2, h3, h4⟩
theorem SR.addr (S : SR F O σ H ds) (h : ds[i]? = some s) (hd : s.held) : ∃ a, σ[i]? = some (some (V.ref a)) := by
  cases s with
  | non => exact hd.elim
  | sh _ => exact hd.elim
  | ow d => obtain ⟨a, o, h1, _⟩ := S.ow h; exact ⟨a, h1⟩
  | bo a d => obtain ⟨o, h1, _⟩ := S.bo h; exact ⟨a, h1⟩
/-- as it would be seen -/
theorem peek {a : Addr} {o : HO} (ho : H a = some o) (hc : Cell (gr O H) o d) : Dv (gr (fun b => O b ∧ b ≠ a) H) (.ref a) d :=
  .cell ⟨ho, fun z => z.2 rfl⟩ (hc.mono fun b u h => ⟨h.1, fun z => h.2 z.1⟩)
/-- an operation on a slot's own object, the answer flat -/
theorem de_opP (h0 : ds[i]? = some s0) (hh : s0.held) (hb : DE tb ds y ds1) (h1 : ds1[i]? = some s) (hs : s.has x) (hr : RD r x y z) (hz : flatD z = true) : DE (tOp r (tVar i) tb) ds z ds1 := fun F O σ H S Q k => by
  obtain ⟨a, ea⟩ := S.addr h0 hh
  refine ⟨_, ea, hb F O σ H S _ fun O2 w H2 l2 S2 hw => ?_⟩
  obtain ⟨a', o, ea', hO, ho, hc⟩ := S2.has h1 hs
  rw [ea] at ea'
  cases ea'
  exact hr (gr (fun b => O2 b ∧ b ≠ a) H2) H2 _ w gr_get (peek ho hc) (hw.mono fun b u h => ⟨h.1, fun z => h.2 z.1⟩) Q fun u hu => k O2 u H2 l2 S2 (flat_any hz hu)
theorem de_cbP {r : List V → Hp → VK → Prop} (h0 : ds[i]? = some s) (hs : s.has x) (hr : CD r [x] z) (hz : flatD z = true) : DE (tCB r (tCons (tVar i) tNil)) ds z ds := fun F O σ H S Q k => by
  obtain ⟨a, o, ea, hO, ho, hc⟩ := S.has h0 hs
  exact ⟨_, ea, hr (gr (fun b => O b ∧ b ≠ a) H) H _ gr_get (.cons (peek ho hc) .nil) Q fun u hu => k O u H (Le.refl _ _) S (flat_any hz hu)⟩
/-- xs[k] = e, xs a slot's own list -/
theorem ds_setI {j : Int} {n : Nat} {k : Int} {xs : List Int} (he : DE te ds (.int j) ds1) (hi : DE tb ds1 (.int k) ds2) (h1 : ds1[i]? = some s0) (hh : s0.held) (h2 : ds2[i]? = some s) (hs : s.has (.li xs)) (hx : ixN xs.length k = some n) :
    DS (tAsg te (gSub (tVar i) tb rSetL)) ds (.nx (ds2.set i (s.put (.li (xs.set n j))))) := fun F O σ H S D q =>
  he F O σ H S _ fun O1 v H1 l1 S1 hv => by
    obtain ⟨a, ea⟩ := S1.addr h1 hh
    refine ⟨_, ea, hi F O1 σ H1 S1 _ fun O2 w H2 l2 S2 hw => ?_⟩
    obtain ⟨a', o, ea', hO, ho, hc⟩ := S2.has h2 hs
    rw [ea] at ea'
    cases ea'
    rw [inv_int hw, inv_int hv]
    cases hc
    refine ⟨a, _, k, n, rfl, rfl, ho, by rw [List.length_map]; exact hx, ?_⟩
    have e : (xs.map V.int).set n (.int j) = (xs.set n j).map V.int := by rw [List.map_set]
    rw [e]
    obtain ⟨l3, S3⟩ := S2.writeOw (u := .lst ((xs.set n j).map V.int)) (d := .li (xs.set n j)) h2 hs.held ea hO (.li _)
    exact q O2 σ _ ((l1.trans l2).trans l3) S3
theorem ds_setD {n : Nat} {k : Int} {xs : List Dt} (he : DE te ds d ds1) (hi : DE tb ds1 (.int k) ds2) (h1 : ds1[i]? = some s0) (hh : s0.held) (h2 : ds2[i]? = some s) (hs : s.has (.lst xs)) (hx : ixN xs.length k = some n) :
    DS (tAsg te (gSub (tVar i) tb rSetL)) ds (.nx (ds2.set i (s.put (.lst (xs.set n d))))) := fun F O σ H S D q =>
  he F O σ H S _ fun O1 v H1 l1 S1 hv => by
    obtain ⟨a, ea⟩ := S1.addr h1 hh
    refine ⟨_, ea, hi F O1 σ H1 S1 _ fun O2 w H2 l2 S2 hw => ?_⟩
    obtain ⟨a', o, ea', hO, ho, hc⟩ := S2.has h2 hs
    rw [ea] at ea'
    cases ea'
    rw [inv_int hw]
    cases hc with
    | lst kv =>
      refine ⟨a, _, k, n, rfl, rfl, ho, by rw [kv.length]; exact hx, ?_⟩
      obtain ⟨l3, S3⟩ := S2.writeOw (u := .lst (_)) (d := .lst (xs.set n d)) h2 hs.held ea hO (.lst (kv.set (hv.mono l2) n))
      exact q O2 σ _ ((l1.trans l2).trans l3) S3
/-- xs.pop(), xs.append(e) as statements -/
theorem ds_popI {xs : List Int} (h : ds[i]? = some s) (hs : s.has (.li xs)) (hn : xs ≠ []) : DS (tDrop (tBM0 K "list" rPop (tVar i))) ds (.nx (ds.set i (s.put (.li xs.dropLast)))) := fun F O σ H S D q => by
  obtain ⟨a, o, ea, hO, ho, hc⟩ := S.has h hs
  cases hc
  have hl : xs.length ≠ 0 := fun z => hn (List.length_eq_zero_iff.mp z)
  refine ⟨_, ea, .inl ⟨rfl, _, .inl (.inl ho)⟩, a, _, .int (xs[xs.length - 1]'(by omega)), rfl, rfl, ho, ?_, ?_⟩
  · rw [List.length_map, List.getElem?_map, List.getElem?_eq_getElem (by omega)]; rfl
  · rw [← List.map_dropLast]
    obtain ⟨l3, S3⟩ := S.writeOw (u := .lst (xs.dropLast.map V.int)) (d := .li xs.dropLast) h hs.held ea hO (.li _)
    exact q O σ _ l3 S3
theorem ds_appI {xs xs0 : List Int} {j : Int} (h0 : ds[i]? = some s0) (hh : s0.has (.li xs0)) (he : DE te ds (.int j) ds1) (h : ds1[i]? = some s) (hs : s.has (.li xs)) (hz : xs.length ≤ 100000) : DS (tDrop (tBM K "list" rAppend (tVar i) (tCons te tNil))) ds (.nx (ds1.set i (s.put (.li (xs ++ [j]))))) := fun F O σ H S D q => by
  obtain ⟨a, o0, ea, _, ho0, hc0⟩ := S.has h0 hh
  cases hc0
  refine ⟨_, ea, .inl ⟨rfl, _, .inl (.inl ho0)⟩, he F O σ H S _ fun O1 v H1 l1 S1 hv => ?_⟩
  obtain ⟨a', o, ea', hO, ho, hc⟩ := S1.has h hs
  rw [ea] at ea'
  cases ea'
  rw [inv_int hv]
  cases hc
  refine ⟨a, _, .int j, rfl, rfl, ho, by rw [List.length_map]; exact Nat.lt_of_le_of_lt hz (by decide), ?_⟩
  have e : xs.map V.int ++ [V.int j] = (xs ++ [j]).map V.int := by rw [List.map_append]; rfl
  rw [e]
  obtain ⟨l3, S3⟩ := S1.writeOw (u := .lst ((xs ++ [j]).map V.int)) (d := .li (xs ++ [j])) h hs.held ea hO (.li _)
  exact q O1 σ _ (l1.trans l3) S3
theorem ds_appD {xs xs0 : List Dt} (h0 : ds[i]? = some s0) (hh : s0.has (.lst xs0)) (he : DE te ds d ds1) (h : ds1[i]? = some s) (hs : s.has (.lst xs)) (hz : xs.length ≤ 100000) : DS (tDrop (tBM K "list" rAppend (tVar i) (tCons te tNil))) ds (.nx (ds1.set i (s.put (.lst (xs ++ [d]))))) := fun F O σ H S D q => by
  obtain ⟨a, o0, ea, _, ho0, hc0⟩ := S.has h0 hh
  cases hc0 with
  | lst k0 =>
    refine ⟨_, ea, .inl ⟨rfl, _, .inl (.inl ho0)⟩, he F O σ H S _ fun O1 v H1 l1 S1 hv => ?_⟩
    obtain ⟨a', o, ea', hO, ho, hc⟩ := S1.has h hs
    rw [ea] at ea'
    cases ea'
    cases hc with
    | lst kv =>
      refine ⟨a, _, v, rfl, rfl, ho, by rw [kv.length]; exact Nat.lt_of_le_of_lt hz (by decide), ?_⟩
      obtain ⟨l3, S3⟩ := S1.writeOw (u := .lst _) (d := .lst (xs ++ [d])) h hs.held ea hO (.lst (kv.append (.cons hv .nil)))
      exact q O1 σ _ (l1.trans l3) S3
/-! ### fields -/
def putG (f : Str) (d : Dt) : List (Str × Dt) → List (Str × Dt)
  | [] => [(f, d)]
  | (g, x) :: r => if g = f then (g, d) :: r else (g, x) :: putG f d r
theorem dvf_put {G : Gr} {f : Str} {v : V} {d : Dt} (h : Dv G v d) : ∀ {fs : List (Str × V)} {gs : List (Str × Dt)}, DvF G fs gs → DvF G (putF f v fs) (putG f d gs)
  | _, _, .nil => .cons h .nil
  | (g, x) :: fs, (_, y) :: gs, .cons h1 h2 => by
    show DvF G (if g = f then (g, v) :: fs else (g, x) :: putF f v fs) (if g = f then (g, d) :: gs else (g, y) :: putG f d gs)
    by_cases e : g = f
    · rw [if_pos e, if_pos e]; exact .cons h h2
    · rw [if_neg e, if_neg e]; exact .cons h1 (dvf_put h h2)
theorem dvf_len {G : Gr} : ∀ {fs : List (Str × V)} {gs : List (Str × Dt)}, DvF G fs gs → fs.length = gs.length
  | _, _, .nil => rfl
  | _, _, .cons _ h => by rw [List.length_cons, List.length_cons, dvf_len h]
theorem dvf_no {G : Gr} {m : Str} : ∀ {fs : List (Str × V)} {gs : List (Str × Dt)}, DvF G fs gs → gs.lookup m = none → fs.lookup m = none
  | _, _, .nil, _ => rfl
  | (g, x) :: fs, (_, y) :: gs, .cons h1 h2, e => by
    by_cases q : m = g
    · subst q
      simp [List.lookup] at e
    · have q' : (m == g) = false := by simpa using q
      simp only [List.lookup, q'] at e ⊢
      exact dvf_no h2 e
variable {C : Addr} {gs : List (Str × Dt)} {f m : Str}
theorem de_fld (h : DE te ds (.ins C gs) ds1) (c : Cls K C) (n : NoAttr K C f) (hf : gs.lookup f = some d) : DE (tFld K te f) ds d ds1 := fun F O σ H S Q k => h F O σ H S _ fun O1 v H1 l1 S1 hv => by
  obtain ⟨a, dx, fs, rfl, g, kf⟩ := inv_ins hv
  obtain ⟨u, e, hu⟩ := kf.look hf
  exact ⟨a, C, dx, fs, u, rfl, g.1, c, n, e, k O1 u H1 l1 S1 hu⟩
/-- self.f = e -/
theorem ds_fld (he : DE te ds d ds1) (h : ds1[i]? = some s) (hs : s.has (.ins C gs)) (c : Cls K C) (n : NoAttr K C f) (hl : gs.length < 1000) : DS (sFld K (tVar i) te f) ds (.nx (ds1.set i (s.put (.ins C (putG f d gs))))) := fun F O σ H S D q =>
  he F O σ H S _ fun O1 v H1 l1 S1 hv => by
    obtain ⟨a, o, ea, hO, ho, hc⟩ := S1.has h hs
    cases hc with
    | @ins _ dx fs _ kf =>
      refine ⟨_, ea, a, C, dx, fs, rfl, ho, c, n, by rw [dvf_len kf]; exact hl, ?_⟩
      obtain ⟨l3, S3⟩ := S1.writeOw (u := .ins C dx (putF f v fs)) (d := .ins C (putG f d gs)) h hs.held ea hO (.ins (dvf_put hv kf))
      exact q O1 σ _ (l1.trans l3) S3
end

/-! ### what a def promises -/
abbrev Grow (H H' : Hp) : Prop := ∀ a o, H a = some o → H' a = some o
/-- it changes nothing that stood; S: arguments and answer -/
def SpP (n : Nat) (S : List Dt → Dt → Prop) : Sp := fun vs H Q _ => vs.length = n ∧ ∃ (O : Addr → Prop) (xs : List Dt) (d : Dt), (∀ a, O a → ∃ o, H a = some o) ∧ DvA (gr O H) vs xs ∧ S xs d ∧
  ∀ v H', Grow H H' → Dv (gr O H') v d → Q v H'
/-- .. and the answer is a new object -/
def SpN (n : Nat) (S : List Dt → Dt → Prop) : Sp := fun vs H Q _ => vs.length = n ∧ ∃ (O : Addr → Prop) (xs : List Dt) (d : Dt), (∀ a, O a → ∃ o, H a = some o) ∧ DvA (gr O H) vs xs ∧ S xs d ∧
  ∀ p o H', Grow H H' → H p = none → H' p = some o → Cell (gr (fun a => O a ∨ a = p) H') o d → Q (.ref p) H'
/-- it changes the object that is its first argument, no other; S: its content, the other arguments, the answer, its content behind -/
def SpB (n : Nat) (S : Dt → List Dt → Dt → Dt → Prop) : Sp := fun vs H Q _ => vs.length = n ∧ ∃ (O : Addr → Prop) (g : Addr) (o : HO) (rest : List V) (dg : Dt) (xs : List Dt) (d dg' : Dt), vs = .ref g :: rest ∧ O g ∧ (∀ a, O a → ∃ o, H a = some o) ∧
  H g = some o ∧ Cell (gr O H) o dg ∧ DvA (gr O H) rest xs ∧ S dg xs d dg' ∧
  ∀ v H' o', (∀ a u, a ≠ g → H a = some u → H' a = some u) → H' g = some o' → Cell (gr O H') o' dg' → Dv (gr O H') v d → Q v H'
section
variable {F : Gr} {O : Addr → Prop} {σ : L2.St} {H : Hp} {ds ds1 ds2 ds' : List Sl} {te : TE} {ta : TA} {d dg dg' : Dt} {xs : List Dt} {n : Nat} {S : List Dt → Dt → Prop} {SB : Dt → List Dt → Dt → Dt → Prop} {E : XK} {C : Addr} {gs gs' : List (Str × Dt)} {m : Str} {i : Nat} {s s0 : Sl}
theorem de_call (h : DA ta ds xs ds1) (hn : xs.length = n) (hS : S xs d) : DE (tCall (SpP n S) [] E ta) ds d ds1 := fun F O σ H S' Q k => h F O σ H S' _ fun O1 vs H1 l1 S1 hv => by
  refine ⟨by rw [List.append_nil, hv.length, hn], O1, xs, d, S1.dom, by rw [List.append_nil]; exact hv, hS, fun v H' hg hd => ?_⟩
  obtain ⟨l2, S2⟩ := S1.grow hg
  exact k O1 v H' (l1.trans l2) S2 hd
theorem dn_call (h : DA ta ds xs ds1) (hn : xs.length = n) (hS : S xs d) : DN (tCall (SpN n S) [] E ta) ds d ds1 := fun F O σ H S' Q k => h F O σ H S' _ fun O1 vs H1 l1 S1 hv => by
  refine ⟨by rw [List.append_nil, hv.length, hn], O1, xs, d, S1.dom, by rw [List.append_nil]; exact hv, hS, fun p o H' hg hp ho hc => ?_⟩
  have l2 : Le O1 H1 (fun a => O1 a ∨ a = p) H' := fun a u h => ⟨hg a u h.1, fun z => by
    rcases z with z | z
    · exact h.2 z
    · subst z
      have h1 := h.1
      rw [hp] at h1
      cases h1⟩
  refine k _ p o H' (l1.trans l2) (S1.keep l2 (fun a u h1 h2 => ⟨.inl h1, hg a u h2⟩) fun a h => ?_) (.inr rfl) ho hc ⟨fun i s h1 h2 h3 => ?_, fun u h => ?_⟩
  · rcases h with h | h
    · obtain ⟨u, q⟩ := S1.dom a h
      exact ⟨u, hg a u q⟩
    · subst h
      exact ⟨o, ho⟩
  · have : ∃ u, H1 p = some u := by
      cases s with
      | non => exact h2.elim
      | sh _ => exact h2.elim
      | ow d' =>
        obtain ⟨a, o', e1, _, e2, _⟩ := S1.ow h1
        rw [h3] at e1
        cases e1
        exact ⟨o', e2⟩
      | bo a d' =>
        obtain ⟨o', e1, _, e2, _⟩ := S1.bo h1
        rw [h3] at e1
        cases e1
        exact ⟨o', e2⟩
    obtain ⟨u, e⟩ := this
    rw [hp] at e
    cases e
  · have := (S1.frn p u h).2
    rw [hp] at this
    cases this
theorem de_meth (h : DE te ds (.ins C gs) ds1) (ha : DA ta ds1 xs ds2) (hn : xs.length + 1 = n) (hm : gs.lookup m = none) (hS : S (.ins C gs :: xs) d) : DE (tMeth C m (SpP n S) [] E te ta) ds d ds2 := fun F O σ H S' Q k => h F O σ H S' _ fun O1 v H1 l1 S1 hv => by
  obtain ⟨a, dx, fs, rfl, g, kf⟩ := inv_ins hv
  refine ⟨a, dx, fs, rfl, g.1, dvf_no kf hm, ha F O1 σ H1 S1 _ fun O2 vs H2 l2 S2 hvs => ?_⟩
  refine ⟨by rw [List.append_nil, List.length_cons, hvs.length, hn], O2, _, d, S2.dom, by rw [List.append_nil]; exact .cons (hv.mono l2) hvs, hS, fun v H' hg hd => ?_⟩
  obtain ⟨l3, S3⟩ := S2.grow hg
  exact k O2 v H' ((l1.trans l2).trans l3) S3 hd
theorem dn_meth (h : DE te ds (.ins C gs) ds1) (ha : DA ta ds1 xs ds2) (hn : xs.length + 1 = n) (hm : gs.lookup m = none) (hS : S (.ins C gs :: xs) d) : DN (tMeth C m (SpN n S) [] E te ta) ds d ds2 := fun F O σ H S' Q k => h F O σ H S' _ fun O1 v H1 l1 S1 hv => by
  obtain ⟨a, dx, fs, rfl, g, kf⟩ := inv_ins hv
  refine ⟨a, dx, fs, rfl, g.1, dvf_no kf hm, ?_⟩
  refine ha F O1 σ H1 S1 _ fun O2 vs H2 l2 S2 hvs => ?_
  refine ⟨by rw [List.append_nil, List.length_cons, hvs.length, hn], O2, _, d, S2.dom, by rw [List.append_nil]; exact .cons (hv.mono l2) hvs, hS, fun p o H' hg hp ho hc' => ?_⟩
  have l3 : Le O2 H2 (fun a => O2 a ∨ a = p) H' := fun a u h => ⟨hg a u h.1, fun z => by
    rcases z with z | z
    · exact h.2 z
    · subst z
      have h1 := h.1
      rw [hp] at h1
      cases h1⟩
  refine k _ p o H' ((l1.trans l2).trans l3) (S2.keep l3 (fun a u h1 h2 => ⟨.inl h1, hg a u h2⟩) fun a h => ?_) (.inr rfl) ho hc' ⟨fun i s h1 h2 h3 => ?_, fun u h => ?_⟩
  · rcases h with h | h
    · obtain ⟨u, q⟩ := S2.dom a h
      exact ⟨u, hg a u q⟩
    · subst h
      exact ⟨o, ho⟩
  · have : ∃ u, H2 p = some u := by
      cases s with
      | non => exact h2.elim
      | sh _ => exact h2.elim
      | ow d' =>
        obtain ⟨a, o', e1, _, e2, _⟩ := S2.ow h1
        rw [h3] at e1
        cases e1
        exact ⟨o', e2⟩
      | bo a d' =>
        obtain ⟨o', e1, _, e2, _⟩ := S2.bo h1
        rw [h3] at e1
        cases e1
        exact ⟨o', e2⟩
    obtain ⟨u, e⟩ := this
    rw [hp] at e
    cases e
  · have := (S2.frn p u h).2
    rw [hp] at this
    cases this
/-- what a call does that changes a slot's own object -/
theorem SR.swap {H' : Hp} {a : Addr} {o' : HO} (S : SR F O σ H ds) (h : ds[i]? = some s) (hh : s.held) (ea : σ[i]? = some (some (V.ref a))) (hO : O a) (k : ∀ b u, b ≠ a → H b = some u → H' b = some u) (ho : H' a = some o') (hc : Cell (gr O H') o' dg') :
    Le O H O H' ∧ SR F O σ H' (ds.set i (s.put dg')) := by
  have l0 : Le O H O H' := fun b u q => ⟨k b u (fun z => q.2 (by rw [z]; exact hO)) q.1, q.2⟩
  refine ⟨l0, ?_⟩
  have hi : i < ds.length := (List.getElem?_eq_some_iff.mp h).1
  refine ⟨by rw [List.length_set, S.len], fun j t x h1 h2 => ?_, fun j m t t' b hn h1 h2 h3 h4 h5 h6 => ?_, fun b u q => ⟨(S.frn b u q).1, k b u ?_ (S.frn b u q).2⟩, fun j t b u h1 h2 h3 => ?_, fun b hb => ?_⟩
  · by_cases e : i = j
    · subst e
      rw [List.getElem?_set_self hi] at h1
      cases h1
      rw [ea] at h2
      cases h2
      cases s with
      | non => exact hh.elim
      | sh _ => exact hh.elim
      | ow d' => exact ⟨a, o', rfl, hO, ho, hc⟩
      | bo b d' =>
        obtain ⟨_, e1, _⟩ := S.bo h
        rw [ea] at e1
        cases e1
        exact ⟨o', rfl, hO, ho, hc⟩
    · rw [List.getElem?_set_ne e] at h1
      refine (S.sl j t x h1 h2).mono l0 fun th b u ex q1 q2 => ⟨q1, k b u (fun z => ?_) q2⟩
      subst z; subst ex
      exact S.inj i j s t b e h h1 hh th ea h2
  · have fix : ∀ p (r : Sl), (ds.set i (s.put dg'))[p]? = some r → r.held → ∃ r' : Sl, ds[p]? = some r' ∧ r'.held := fun p r hm hr => by
      by_cases e : i = p
      · subst e
        exact ⟨s, h, hh⟩
      · rw [List.getElem?_set_ne e] at hm
        exact ⟨r, hm, hr⟩
    obtain ⟨r1, g1, g2⟩ := fix j t h1 h3
    obtain ⟨r2, g3, g4⟩ := fix m t' h2 h4
    exact S.inj j m r1 r2 b hn g1 g3 g2 g4 h5 h6
  · intro z
    subst z
    exact S.hf i s b u h hh ea q
  · by_cases e : i = j
    · subst e
      exact S.hf i s b u h hh h3
    · rw [List.getElem?_set_ne e] at h1
      exact S.hf j t b u h1 h2 h3
  · by_cases e : b = a
    · rw [e]; exact ⟨o', ho⟩
    · obtain ⟨u, q⟩ := S.dom b hb
      exact ⟨u, k b u e q⟩
/-- f(x, ..), f changing what x holds -/
theorem de_callB (h0 : ds[i]? = some s0) (hh : s0.held) (h : DA ta ds xs ds1) (hn : xs.length + 1 = n) (h1 : ds1[i]? = some s) (hs : s.has dg) (hS : SB dg xs d dg') : DE (tCall (SpB n SB) [] E (tCons (tVar i) ta)) ds d (ds1.set i (s.put dg')) := fun F O σ H S' Q k => by
  obtain ⟨a, ea⟩ := S'.addr h0 hh
  refine ⟨_, ea, h F O σ H S' _ fun O1 vs H1 l1 S1 hv => ?_⟩
  obtain ⟨a', o, ea', hO, ho, hc⟩ := S1.has h1 hs
  rw [ea] at ea'
  cases ea'
  refine ⟨by rw [List.append_nil, List.length_cons, hv.length, hn], O1, a, o, vs, dg, xs, d, dg', by rw [List.append_nil], hO, S1.dom, ho, hc, hv, hS, fun v H' o' hk ho' hc' hd => ?_⟩
  obtain ⟨l2, S2⟩ := S1.swap h1 hs.held ea hO hk ho' hc'
  exact k O1 v H' (l1.trans l2) S2 hd
/-- f(g(..)), f changing the new object that g gives -/
theorem de_callN (h : DN te ds dg ds1) (hn : n = 1) (hS : SB dg [] d dg') : DE (tCall (SpB n SB) [] E (tCons te tNil)) ds d ds1 := fun F O σ H S' Q k => h F O σ H S' _ fun O1 p o H1 l1 S1 hO ho hc hl => by
  refine ⟨by rw [hn]; rfl, O1, p, o, [], dg, [], d, dg', rfl, hO, S1.dom, ho, hc, .nil, hS, fun v H' o' hk ho' hc' hd => ?_⟩
  have l2 : Le O1 H1 O1 H' := fun b u q => ⟨hk b u (fun z => q.2 (by rw [z]; exact hO)) q.1, q.2⟩
  refine k O1 v H' (l1.trans l2) ⟨S1.len, fun i s x h1 h2 => (S1.sl i s x h1 h2).mono l2 fun th b u ex q1 q2 => ⟨q1, hk b u (fun z => ?_) q2⟩, S1.inj, fun b u q => ⟨(S1.frn b u q).1, hk b u (fun z => ?_) (S1.frn b u q).2⟩, S1.hf, fun b hb => ?_⟩ hd
  · subst z; subst ex
    exact hl.held i s h1 th h2
  · subst z
    exact hl.frn u q
  · by_cases e : b = p
    · rw [e]; exact ⟨o', ho'⟩
    · obtain ⟨u, q⟩ := S1.dom b hb
      exact ⟨u, hk b u e q⟩
theorem make_core {O1 : Addr → Prop} {H1 : Hp} {vs : List V} {Q : VK} (S1 : SR F O1 σ H1 ds1) (hv : DvA (gr O1 H1) vs xs) (hn : xs.length + 1 = n) (hS : SB (.ins C []) xs .non (.ins C gs))
    (k : ∀ (O' : Addr → Prop) (p : Addr) (o : HO) (H' : Hp), Le O1 H1 O' H' → SR F O' σ H' ds1 → O' p → H' p = some o → Cell (gr O' H') o (.ins C gs) → Lone F σ ds1 p → Q (.ref p) H') :
    ∀ x dx, H1 x = none → H1 dx = none → dx ≠ x → SpB n SB (.ref x :: (vs ++ [])) (upd (upd H1 dx (.own x)) x (.ins C dx [])) (fun v H2 => v = .non ∧ Q (.ref x) H2) E := fun x dx nx ndx ne => by
  have e1 : ∀ a u, H1 a = some u → upd H1 dx (.own x) a = some u := fun a u q => by rw [upd_ne (ne_of_none q ndx)]; exact q
  obtain ⟨l2, S2⟩ := S1.grow e1
  have nx2 : upd H1 dx (.own x) x = none := by rw [upd_ne ne.symm]; exact nx
  obtain ⟨l3, S3⟩ := S2.new (o := .ins C dx []) nx2
  have lone : Lone F σ ds1 x := by
    refine ⟨fun i s h1 h2 h3 => ?_, fun u h => ?_⟩
    · have : ∃ u, H1 x = some u := by
        cases s with
        | non => exact h2.elim
        | sh _ => exact h2.elim
        | ow d' =>
          obtain ⟨a, o', e1, _, e2, _⟩ := S1.ow h1
          rw [h3] at e1
          cases e1
          exact ⟨o', e2⟩
        | bo a d' =>
          obtain ⟨o', e1, _, e2, _⟩ := S1.bo h1
          rw [h3] at e1
          cases e1
          exact ⟨o', e2⟩
      obtain ⟨u, e⟩ := this
      rw [nx] at e
      cases e
    · have := (S1.frn x u h).2
      rw [nx] at this
      cases this
  refine ⟨by rw [List.append_nil, List.length_cons, hv.length, hn], fun a => O1 a ∨ a = x, x, _, vs, .ins C [], xs, .non, .ins C gs, by rw [List.append_nil], .inr rfl, S3.dom, upd_same, .ins .nil, (hv.mono l2).mono l3, hS, fun v H' o' hk ho' hc' hd => ⟨inv_non hd, ?_⟩⟩
  have l4 : Le (fun a => O1 a ∨ a = x) (upd (upd H1 dx (.own x)) x (.ins C dx [])) (fun a => O1 a ∨ a = x) H' := fun b u q => ⟨hk b u (fun z => q.2 (.inr z)) q.1, q.2⟩
  refine k _ x o' H' ((l2.trans l3).trans l4) ⟨S3.len, fun i s y h1 h2 => (S3.sl i s y h1 h2).mono l4 fun th b u ex q1 q2 => ⟨q1, hk b u (fun z => ?_) q2⟩, S3.inj, fun b u q => ⟨(S3.frn b u q).1, hk b u (fun z => ?_) (S3.frn b u q).2⟩, S3.hf, fun b hb => ?_⟩ (.inr rfl) ho' hc' lone
  · subst z; subst ex
    exact lone.held i s h1 th h2
  · subst z
    exact lone.frn u q
  · by_cases e : b = x
    · rw [e]; exact ⟨o', ho'⟩
    · obtain ⟨u, q⟩ := S3.dom b hb
      exact ⟨u, hk b u e q⟩
/-- C(..) -/
theorem dn_make (h : DA ta ds xs ds1) (hn : xs.length + 1 = n) (hS : SB (.ins C []) xs .non (.ins C gs)) : DN (tMake C (SpB n SB) [] E ta) ds (.ins C gs) ds1 := fun F O σ H S' Q k => h F O σ H S' _ fun O1 vs H1 l1 S1 hv =>
  make_core S1 hv hn hS fun O' p o H' l S2 h1 h2 h3 h4 => k O' p o H' (l1.trans l) S2 h1 h2 h3 h4
end

/-! ### a def's body keeps its promise -/
def startD (N : List Str) (xs : List Dt) : List Sl := xs.map Sl.sh ++ List.replicate (N.length - xs.length) Sl.non
theorem sr_start {F : Gr} {O : Addr → Prop} {H : Hp} {N : List Str} {vs : List V} {xs : List Dt} (hv : DvA (gr O H) vs xs) (hF : ∀ a o, F a o → O a ∧ H a = some o) (hd : ∀ a, O a → ∃ o, H a = some o) : SR F O (L2.start N vs) H (startD N xs) := by
  have nh : ∀ (i : Nat) (s : Sl), (startD N xs)[i]? = some s → ¬ s.held := fun i s h hh => by
    unfold startD at h
    by_cases hi : i < xs.length
    · rw [List.getElem?_append_left (by rw [List.length_map]; exact hi), List.getElem?_map] at h
      cases e : xs[i]? with
      | none => rw [e] at h; cases h
      | some y => rw [e] at h; cases h; exact hh
    · rw [List.getElem?_append_right (by rw [List.length_map]; omega)] at h
      have := List.mem_of_getElem? h
      rw [List.mem_replicate] at this
      rw [this.2] at hh
      exact hh
  refine ⟨by unfold L2.start startD; rw [List.length_append, List.length_append, List.length_map, List.length_map, List.length_replicate, List.length_replicate, hv.length], fun i s x h1 h2 => ?_, fun i j s t a _ h1 _ h3 => (nh i s h1 h3).elim, hF, fun i s a o h1 h2 => (nh i s h1 h2).elim, hd⟩
  unfold startD at h1
  unfold L2.start at h2
  by_cases hi : i < xs.length
  · rw [List.getElem?_append_left (by rw [List.length_map]; exact hi), List.getElem?_map] at h1
    rw [List.getElem?_append_left (by rw [List.length_map, hv.length]; exact hi), List.getElem?_map] at h2
    cases e : xs[i]? with
    | none => rw [e] at h1; cases h1
    | some y =>
      rw [e] at h1
      cases h1
      obtain ⟨v, e2, hd⟩ := hv.get e
      rw [e2] at h2
      cases h2
      exact ⟨v, rfl, hd⟩
  · rw [List.getElem?_append_right (by rw [List.length_map]; omega)] at h1
    have := List.mem_of_getElem? h1
    rw [List.mem_replicate] at this
    rw [this.2]
    trivial
/-- a body gives d: by return (shared, or a new object), or by running out (None) -/
def Gives (t : TS) (ds : List Sl) (d : Dt) (ds' : List Sl) : Prop := DS t ds (.rt d ds') ∨ DS t ds (.rn d ds') ∨ (d = .non ∧ DS t ds (.nx ds'))
section
variable {t : TS} {N : List Str} {n : Nat} {vs : List V} {H : Hp} {Q : VK} {E : XK}
theorem back {F : Gr} {O O' : Addr → Prop} {H H' : Hp} {σ : L2.St} {ds : List Sl} (S : SR F O' σ H' ds) (hF : ∀ a o, O a → H a = some o → F a o) (hd : ∀ a, O a → ∃ o, H a = some o) : ∀ a o, gr O' H' a o → gr O H' a o := fun a o h => ⟨h.1, fun z => by
  obtain ⟨u, e⟩ := hd a z
  exact h.2 (S.frn a u (hF a u z e)).1⟩
theorem read_P {S : List Dt → Dt → Prop} (h : SpP n S vs H Q E) (k : ∀ xs d, S xs d → ∃ ds', Gives t (startD N xs) d ds') : t { nx := fun _ H' => Q .non H', rt := Q } (L2.start N vs) H := by
  obtain ⟨_, O, xs, d, hd, hv, hS, q⟩ := h
  obtain ⟨ds', g⟩ := k xs d hS
  have S0 := sr_start (F := fun a o => O a ∧ H a = some o) (N := N) hv (fun a o h => h) hd
  have gw : ∀ O' H' (σ : L2.St), Le O H O' H' → SR (fun a o => O a ∧ H a = some o) O' σ H' ds' → Grow H H' := fun O' H' σ l S a o e => by
    by_cases hO : O a
    · exact (S.frn a o ⟨hO, e⟩).2
    · exact (l a o ⟨e, hO⟩).1
  rcases g with g | g | ⟨rfl, g⟩
  · exact g _ O _ H S0 _ fun O' σ' H' v l S hv => q v H' (gw O' H' σ' l S) (hv.mono (back S (fun a o h1 h2 => ⟨h1, h2⟩) hd))
  · refine g _ O _ H S0 _ fun O' σ' H' p o l S hO ho hc hl => ?_
    obtain ⟨l2, S2⟩ := S.show hl.held hl.frn
    exact q _ H' (gw O' H' σ' l S) ((Dv.cell ⟨ho, fun z => z.2 rfl⟩ (hc.mono l2) : Dv (gr _ H') (.ref p) d).mono (back S2 (fun a o h1 h2 => ⟨h1, h2⟩) hd))
  · exact g _ O _ H S0 _ fun O' σ' H' l S => q .non H' (gw O' H' σ' l S) .non
theorem read_N {S : List Dt → Dt → Prop} (h : SpN n S vs H Q E) (k : ∀ xs d, S xs d → ∃ ds', DS t (startD N xs) (.rn d ds')) : t { nx := fun _ H' => Q .non H', rt := Q } (L2.start N vs) H := by
  obtain ⟨_, O, xs, d, hd, hv, hS, q⟩ := h
  obtain ⟨ds', g⟩ := k xs d hS
  have S0 := sr_start (F := fun a o => O a ∧ H a = some o) (N := N) hv (fun a o h => h) hd
  refine g _ O _ H S0 _ fun O' σ' H' p o l S hO ho hc hl => ?_
  have np : H p = none := by
    cases e : H p with
    | none => rfl
    | some u =>
      by_cases hO' : O p
      · exact absurd ⟨hO', e⟩ (hl.frn u)
      · exact absurd hO (l p u ⟨e, hO'⟩).2
  refine q p o H' (fun a u e => ?_) np ho (hc.mono fun a u h => ⟨h.1, fun z => ?_⟩)
  · by_cases hO' : O a
    · exact (S.frn a u ⟨hO', e⟩).2
    · exact (l a u ⟨e, hO'⟩).1
  · rcases z with z | z
    · obtain ⟨w, e⟩ := hd a z
      exact h.2 (S.frn a w ⟨z, e⟩).1
    · subst z
      exact h.2 hO
theorem read_B {SB : Dt → List Dt → Dt → Dt → Prop} (h : SpB n SB vs H Q E) (hN : 0 < N.length) (k : ∀ g dg xs d dg', SB dg xs d dg' → ∃ ds', ds'[0]? = some (.bo g dg') ∧ Gives t (.bo g dg :: (xs.map Sl.sh ++ List.replicate (N.length - (xs.length + 1)) Sl.non)) d ds') :
    t { nx := fun _ H' => Q .non H', rt := Q } (L2.start N vs) H := by
  obtain ⟨_, O, g, o, rest, dg, xs, d, dg', rfl, hOg, hd, hg, hc, hv, hS, q⟩ := h
  obtain ⟨ds', e0, gv⟩ := k g dg xs d dg' hS
  have S0 : SR (fun a u => (O a ∧ a ≠ g) ∧ H a = some u) O (L2.start N (.ref g :: rest)) H (.bo g dg :: (xs.map Sl.sh ++ List.replicate (N.length - (xs.length + 1)) Sl.non)) := by
    have e1 : L2.start N (.ref g :: rest) = some (.ref g) :: (rest.map some ++ List.replicate (N.length - (rest.length + 1)) none) := rfl
    have B := sr_start (F := fun a u => (O a ∧ a ≠ g) ∧ H a = some u) (N := N.drop 1) hv (fun a o h => ⟨h.1.1, h.2⟩) hd
    have e2 : L2.start (N.drop 1) rest = rest.map some ++ List.replicate (N.length - (rest.length + 1)) none := by
      unfold L2.start
      rw [List.length_drop, show N.length - 1 - rest.length = N.length - (rest.length + 1) by omega]
    have e3 : startD (N.drop 1) xs = xs.map Sl.sh ++ List.replicate (N.length - (xs.length + 1)) Sl.non := by
      unfold startD
      rw [List.length_drop, show N.length - 1 - xs.length = N.length - (xs.length + 1) by omega]
    rw [e2, e3] at B
    rw [e1]
    have nh : ∀ (i : Nat) (s : Sl), (xs.map Sl.sh ++ List.replicate (N.length - (xs.length + 1)) Sl.non)[i]? = some s → ¬ s.held := fun i s h hh => by
      by_cases hi : i < xs.length
      · rw [List.getElem?_append_left (by rw [List.length_map]; exact hi), List.getElem?_map] at h
        cases e : xs[i]? with
        | none => rw [e] at h; cases h
        | some y => rw [e] at h; cases h; exact hh
      · rw [List.getElem?_append_right (by rw [List.length_map]; omega)] at h
        have := List.mem_of_getElem? h
        rw [List.mem_replicate] at this
        rw [this.2] at hh
        exact hh
    refine ⟨by rw [List.length_cons, List.length_cons, B.len], fun i s x h1 h2 => ?_, fun i j s t a hn h1 h2 h3 h4 h5 h6 => ?_, B.frn, fun i s a u h1 h2 h3 h => ?_, hd⟩
    · cases i with
      | zero =>
        cases h1; cases h2
        exact ⟨o, rfl, hOg, hg, hc⟩
      | succ i => exact B.sl i s x h1 h2
    · cases i with
      | zero =>
        cases j with
        | zero => exact hn rfl
        | succ j => exact nh j t h2 h4
      | succ i => exact nh i s h1 h3
    · cases i with
      | zero =>
        cases h3
        exact h.1.2 rfl
      | succ i => exact nh i s h1 h2
  have fin : ∀ O' H' (σ : L2.St), Le O H O' H' → SR (fun a u => (O a ∧ a ≠ g) ∧ H a = some u) O' σ H' ds' → (∀ a u, a ≠ g → H a = some u → H' a = some u) ∧ (∀ a u, gr O' H' a u → gr O H' a u) ∧ ∃ o', H' g = some o' ∧ Cell (gr O H') o' dg' := fun O' H' σ l S => by
    obtain ⟨o', e1, e2, e3, e4⟩ := S.bo e0
    have bk : ∀ a u, gr O' H' a u → gr O H' a u := fun a u h => ⟨h.1, fun z => by
      obtain ⟨w, e⟩ := hd a z
      by_cases ea : a = g
      · exact h.2 (by rw [ea]; exact e2)
      · exact h.2 (S.frn a w ⟨⟨z, ea⟩, e⟩).1⟩
    refine ⟨fun a u hn e => ?_, bk, o', e3, e4.mono bk⟩
    by_cases hO : O a
    · exact (S.frn a u ⟨⟨hO, hn⟩, e⟩).2
    · exact (l a u ⟨e, hO⟩).1
  rcases gv with gv | gv | ⟨rfl, gv⟩
  · refine gv _ O _ H S0 _ fun O' σ' H' v l S hv => ?_
    obtain ⟨f1, f2, o', f3, f4⟩ := fin O' H' σ' l S
    exact q v H' o' f1 f3 f4 (hv.mono f2)
  · refine gv _ O _ H S0 _ fun O' σ' H' p o2 l S hO ho hc2 hl => ?_
    obtain ⟨l2, S2⟩ := S.show hl.held hl.frn
    obtain ⟨f1, f2, o', f3, f4⟩ := fin _ H' σ' (l.trans l2) S2
    exact q _ H' o' f1 f3 f4 ((Dv.cell ⟨ho, fun z => z.2 rfl⟩ (hc2.mono l2) : Dv (gr _ H') (.ref p) d).mono f2)
  · refine gv _ O _ H S0 _ fun O' σ' H' l S => ?_
    obtain ⟨f1, f2, o', f3, f4⟩ := fin O' H' σ' l S
    exact q .non H' o' f1 f3 f4 .non
end
end DL

end

section
set_option Elab.async false
set_option linter.all false
set_option maxRecDepth 100000
set_option autoImplicit false
set_option maxHeartbeats 4000000
namespace DL
open PySem PySem.Spec PyProof.Rows L2
section
variable {F : Gr} {O : Addr → Prop} {σ : L2.St} {H : Hp} {ds ds1 ds2 ds' : List Sl} {te ta tb tc : TE} {tt : TT} {t u : TS} {x y z d : Dt} {r : R2} {i : Nat} {K : PySem.W.Frag} {b : Bool}
theorem de_kon {a : Addr} : DE (tC (.ref a)) ds (.kon a) ds := fun _ O _ H S _ k => k O _ H (Le.refl O H) S (.kon a)
theorem de_ty {n : String} : DE (tC (.ty n)) ds (.ty n) ds := fun _ O _ H S _ k => k O _ H (Le.refl O H) S (.ty n)
theorem rd_mulC {i j : Int} (h : CMul i j) : RD (rI CMul fun i j => .int (i * j)) (.int i) (.int j) (.int (i * j)) := rd_I h
/-- a conditional expression, both ways told -/
theorem de_ifE (h : DT tt ds b ds) (ha : b = true → DE ta ds x ds) (hb : b = false → DE tb ds y ds) : DE (tIf tt ta tb) ds (if b = true then x else y) ds := by
  cases b with
  | true => exact de_ifT h (ha rfl)
  | false => exact de_ifF h (hb rfl)
def toInts : List Dt → Option (List Int)
  | [] => some []
  | .int i :: r => match toInts r with
    | some l => some (i :: l)
    | none => none
  | _ => none
theorem toInts_eq : ∀ {xs : List Dt} {is : List Int}, toInts xs = some is → xs = is.map Dt.int
  | [], is, h => by
    have : is = [] := by simpa [toInts] using h.symm
    rw [this]; rfl
  | .int i :: r, is, h => by
    unfold toInts at h
    cases e : toInts r with
    | none => rw [e] at h; cases h
    | some l =>
      rw [e] at h
      cases h
      rw [toInts_eq e]; rfl
  | .non :: _, _, h => by unfold toInts at h; cases h
  | .bl _ :: _, _, h => by unfold toInts at h; cases h
  | .str _ :: _, _, h => by unfold toInts at h; cases h
  | .li _ :: _, _, h => by unfold toInts at h; cases h
  | .lst _ :: _, _, h => by unfold toInts at h; cases h
  | .tup _ :: _, _, h => by unfold toInts at h; cases h
  | .ins _ _ :: _, _, h => by unfold toInts at h; cases h
  | .ty _ :: _, _, h => by unfold toInts at h; cases h
  | .kon _ :: _, _, h => by unfold toInts at h; cases h
  | .scr _ :: _, _, h => by unfold toInts at h; cases h
theorem dn_liC {ta : TA} {xs : List Dt} {is : List Int} (ha : DA ta ds xs ds1) (e : toInts xs = some is) (hl : xs.length ≤ 1000) : DN (tLst ta) ds (.li is) ds1 := by
  have h := dn_lst ha hl
  rw [toInts_eq e] at h
  exact h.li_of
/-- a whole body's end: what it hands back (new: by a new object), the slots then -/
def Fin (t : TS) (ds : List Sl) (W : Bool → Dt → List Sl → Prop) : Prop := ∃ d ds', (W false d ds' ∧ DS t ds (.rt d ds')) ∨ (W true d ds' ∧ DS t ds (.rn d ds'))
def FinX (t : TS) (ds : List Sl) (W : Bool → Dt → List Sl → Prop) : Prop := Fin t ds W ∨ ∃ ds', W false .non ds' ∧ DS t ds (.nx ds')
variable {W : Bool → Dt → List Sl → Prop}
theorem fin_seq (h : DS t ds (.nx ds1)) (k : Fin u ds1 W) : Fin (tSeq t u) ds W := by
  obtain ⟨d, ds', k | k⟩ := k
  · exact ⟨d, ds', .inl ⟨k.1, ds_seq h k.2⟩⟩
  · exact ⟨d, ds', .inr ⟨k.1, ds_seq h k.2⟩⟩
theorem finx_seq (h : DS t ds (.nx ds1)) (k : FinX u ds1 W) : FinX (tSeq t u) ds W := by
  rcases k with k | ⟨ds', w, k⟩
  · exact .inl (fin_seq h k)
  · exact .inr ⟨ds', w, ds_seq h k⟩
theorem fin_seqX (h : Fin t ds W) : Fin (tSeq t u) ds W := by
  obtain ⟨d, ds', k | k⟩ := h
  · exact ⟨d, ds', .inl ⟨k.1, ds_seqX k.2 fun _ z => nomatch z⟩⟩
  · exact ⟨d, ds', .inr ⟨k.1, ds_seqX k.2 fun _ z => nomatch z⟩⟩
theorem fin_ret (h : DE te ds d ds') (w : W false d ds') : Fin (tRet te) ds W := ⟨d, ds', .inl ⟨w, ds_ret h⟩⟩
theorem fin_retN (h : DN te ds d ds') (w : W true d ds') : Fin (tRet te) ds W := ⟨d, ds', .inr ⟨w, ds_retN h⟩⟩
theorem fin_ifT (h : DT tt ds true ds1) (k : Fin t ds1 W) : Fin (tIfS tt t u) ds W := by
  obtain ⟨d, ds', k | k⟩ := k
  · exact ⟨d, ds', .inl ⟨k.1, ds_ifT h k.2⟩⟩
  · exact ⟨d, ds', .inr ⟨k.1, ds_ifT h k.2⟩⟩
theorem fin_ifF (h : DT tt ds false ds1) (k : Fin u ds1 W) : Fin (tIfS tt t u) ds W := by
  obtain ⟨d, ds', k | k⟩ := k
  · exact ⟨d, ds', .inl ⟨k.1, ds_ifF h k.2⟩⟩
  · exact ⟨d, ds', .inr ⟨k.1, ds_ifF h k.2⟩⟩
/-- if c: .. return; then the rest -/
theorem fin_when {v : TS} (h : DT tt ds b ds1) (h1 : b = true → Fin t ds1 W) (h2 : b = false → Fin v ds1 W) : Fin (tSeq (tIfS tt t tNext) v) ds W := by
  cases b with
  | true => exact fin_seqX (fin_ifT h (h1 rfl))
  | false => exact fin_seq (ds_ifF h ds_next) (h2 rfl)
theorem finx_when {v : TS} (h : DT tt ds b ds1) (h1 : b = true → Fin t ds1 W) (h2 : b = false → FinX v ds1 W) : FinX (tSeq (tIfS tt t tNext) v) ds W := by
  cases b with
  | true => exact .inl (fin_seqX (fin_ifT h (h1 rfl)))
  | false => exact finx_seq (ds_ifF h ds_next) (h2 rfl)
theorem fin_rt (h : DS t ds (.rt d ds')) (w : W false d ds') : Fin t ds W := ⟨d, ds', .inl ⟨w, h⟩⟩
end
section
variable {t : TS} {N : List Str} {n : Nat} {vs : List V} {H : Hp} {Q : VK} {E : XK}
theorem go_P {S : List Dt → Dt → Prop} (h : SpP n S vs H Q E) (k : ∀ xs d, S xs d → Fin t (startD N xs) fun _ e _ => e = d) : t { nx := fun _ H' => Q .non H', rt := Q } (L2.start N vs) H :=
  read_P h fun xs d hS => by
    obtain ⟨e, ds', ⟨q, k⟩ | ⟨q, k⟩⟩ := k xs d hS
    · subst q; exact ⟨ds', .inl k⟩
    · subst q; exact ⟨ds', .inr (.inl k)⟩
theorem go_PX {S : List Dt → Dt → Prop} (h : SpP n S vs H Q E) (k : ∀ xs d, S xs d → FinX t (startD N xs) fun _ e _ => e = d) : t { nx := fun _ H' => Q .non H', rt := Q } (L2.start N vs) H :=
  read_P h fun xs d hS => by
    rcases k xs d hS with ⟨e, ds', ⟨q, k⟩ | ⟨q, k⟩⟩ | ⟨ds', q, k⟩
    · subst q; exact ⟨ds', .inl k⟩
    · subst q; exact ⟨ds', .inr (.inl k)⟩
    · exact ⟨ds', .inr (.inr ⟨q.symm, k⟩)⟩
theorem go_N {S : List Dt → Dt → Prop} (h : SpN n S vs H Q E) (k : ∀ xs d, S xs d → Fin t (startD N xs) fun b e _ => b = true ∧ e = d) : t { nx := fun _ H' => Q .non H', rt := Q } (L2.start N vs) H :=
  read_N h fun xs d hS => by
    obtain ⟨e, ds', ⟨q, k⟩ | ⟨q, k⟩⟩ := k xs d hS
    · cases q.1
    · obtain ⟨_, q⟩ := q
      subst q; exact ⟨ds', k⟩
theorem go_B {SB : Dt → List Dt → Dt → Dt → Prop} (h : SpB n SB vs H Q E) (hN : 0 < N.length) (k : ∀ g dg xs d dg', SB dg xs d dg' → FinX t (.bo g dg :: (xs.map Sl.sh ++ List.replicate (N.length - (xs.length + 1)) Sl.non)) fun _ e ds' => e = d ∧ ds'[0]? = some (.bo g dg')) :
    t { nx := fun _ H' => Q .non H', rt := Q } (L2.start N vs) H :=
  read_B h hN fun g dg xs d dg' hS => by
    rcases k g dg xs d dg' hS with ⟨e, ds', ⟨⟨q, q'⟩, k⟩ | ⟨⟨q, q'⟩, k⟩⟩ | ⟨ds', ⟨q, q'⟩, k⟩
    · subst q; exact ⟨ds', q', .inl k⟩
    · subst q; exact ⟨ds', q', .inr (.inl k)⟩
    · exact ⟨ds', q', .inr (.inr ⟨q.symm, k⟩)⟩
/-- the promises' lengths -/
theorem len_P {S : List Dt → Dt → Prop} : ∀ vs H Q E, SpP n S vs H Q E → vs.length = n := fun _ _ _ _ h => h.1
theorem len_N {S : List Dt → Dt → Prop} : ∀ vs H Q E, SpN n S vs H Q E → vs.length = n := fun _ _ _ _ h => h.1
theorem len_B {S : Dt → List Dt → Dt → Dt → Prop} : ∀ vs H Q E, SpB n S vs H Q E → vs.length = n := fun _ _ _ _ h => h.1
end
end DL

end

section
set_option Elab.async false
set_option linter.all false
set_option maxRecDepth 100000
set_option autoImplicit false
set_option maxHeartbeats 4000000
namespace DL
open PySem PySem.Spec PyProof.Rows L2
/-! ### slots put otherwise -/
section
variable {F : Gr} {O : Addr → Prop} {σ σ2 : L2.St} {H : Hp} {ds ds1 ds2 ds' : List Sl} {te ta tb tc : TE} {tt : TT} {t u tb' : TS} {x y z d : Dt} {r : R2} {i j : Nat} {K : PySem.W.Frag} {b : Bool}
theorem SR.reix (S : SR F O σ H ds) (φ : Nat → Nat) (hl : σ2.length = ds2.length) (h : ∀ (i : Nat) (s : Sl) (x : Option V), ds2[i]? = some s → σ2[i]? = some x → s = .non ∨ (ds[φ i]? = some s ∧ σ[φ i]? = some x))
    (hi : ∀ (i j : Nat) (s t : Sl), ds2[i]? = some s → ds2[j]? = some t → s.held → t.held → φ i = φ j → i = j) : SR F O σ2 H ds2 where
  len := hl
  sl := fun i s x h1 h2 => by
    rcases h i s x h1 h2 with e | ⟨e1, e2⟩
    · rw [e]; trivial
    · exact S.sl _ s x e1 e2
  inj := fun i j s t a hn h1 h2 h3 h4 h5 h6 => by
    rcases h i s _ h1 h5 with e | ⟨e1, e2⟩
    · rw [e] at h3; exact h3
    · rcases h j t _ h2 h6 with e | ⟨e3, e4⟩
      · rw [e] at h4; exact h4
      · exact S.inj (φ i) (φ j) s t a (fun z => hn (hi i j s t h1 h2 h3 h4 z)) e1 e3 h3 h4 e2 e4
  frn := S.frn
  hf := fun i s a o h1 h2 h3 => by
    rcases h i s _ h1 h3 with e | ⟨e1, e2⟩
    · rw [e] at h2; exact h2.elim
    · exact S.hf _ s a o e1 h2 e2
  dom := S.dom
/-- one slot more, in front -/
theorem SR.front {x : Option V} {s : Sl} (S : SR F O σ H ds) (h : SlOk O H x s) (hu : s.held → ∀ a, x = some (.ref a) → (∀ (i : Nat) (t : Sl), ds[i]? = some t → t.held → σ[i]? ≠ some (some (V.ref a))) ∧ ∀ o, ¬ F a o) : SR F O (x :: σ) H (s :: ds) where
  len := by rw [List.length_cons, List.length_cons, S.len]
  sl := fun i t y h1 h2 => by
    cases i with
    | zero => cases h1; cases h2; exact h
    | succ i => exact S.sl i t y h1 h2
  inj := fun i j t t' a hn h1 h2 h3 h4 h5 h6 => by
    cases i with
    | zero =>
      cases h1; cases h5
      cases j with
      | zero => exact hn rfl
      | succ j => exact (hu h3 a rfl).1 j t' h2 h4 h6
    | succ i =>
      cases j with
      | zero =>
        cases h2; cases h6
        exact (hu h4 a rfl).1 i t h1 h3 h5
      | succ j => exact S.inj i j t t' a (fun z => hn (by rw [z])) h1 h2 h3 h4 h5 h6
  frn := S.frn
  hf := fun i t a o h1 h2 h3 => by
    cases i with
    | zero => cases h1; cases h3; exact (hu h2 a rfl).2 o
    | succ i => exact S.hf i t a o h1 h2 h3
  dom := S.dom
/-- several values in a row, shared or each a new object of its own -/
def DM (ta : TA) (ds : List Sl) (ms : List Sl) (ds' : List Sl) : Prop := ∀ (F : Gr) (O : Addr → Prop) (σ : L2.St) (H : Hp), SR F O σ H ds →
  ∀ Q : List V → Hp → Prop, (∀ (O' : Addr → Prop) (vs : List V) (H' : Hp), Le O H O' H' → vs.length = ms.length → SR F O' (vs.map some ++ σ) H' (ms ++ ds') → Q vs H') → ta σ H Q
theorem dm_nil : DM tNil ds [] ds := fun _ O _ H S _ k => k O [] H (Le.refl O H) rfl S
theorem dm_sh {tr : TA} {ms : List Sl} (h : DE te ds d ds1) (k : DM tr ds1 ms ds2) : DM (tCons te tr) ds (.sh d :: ms) ds2 := fun F O σ H S Q q =>
  h F O σ H S _ fun O1 v H1 l1 S1 hv => k F O1 σ H1 S1 _ fun O2 vs H2 l2 hl S2 => q O2 (v :: vs) H2 (l1.trans l2) (by rw [List.length_cons, List.length_cons, hl]) (S2.front ⟨v, rfl, hv.mono l2⟩ fun z => z.elim)
theorem dm_ow {tr : TA} {ms : List Sl} (h : DN te ds d ds1) (k : DM tr ds1 ms ds2) : DM (tCons te tr) ds (.ow d :: ms) ds2 := fun F O σ H S Q q =>
  h F O σ H S _ fun O1 p o H1 l1 S1 hO ho hc hl => by
    refine k _ O1 σ H1 (S1.addF hO ho hl.held) _ fun O2 vs H2 l2 hlen S2 => ?_
    obtain ⟨c1, c2⟩ := S2.frn p o (.inr ⟨rfl, rfl⟩)
    have S3 : SR F O2 (vs.map some ++ σ) H2 (ms ++ ds2) := ⟨S2.len, S2.sl, S2.inj, fun a u h => S2.frn a u (.inl h), fun i s a u h1 h2 h3 h => S2.hf i s a u h1 h2 h3 (.inl h), S2.dom⟩
    refine q O2 (.ref p :: vs) H2 (l1.trans l2) (by rw [List.length_cons, List.length_cons, hlen]) (S3.front ⟨p, o, rfl, c1, c2, hc.mono l2⟩ fun _ a e => ?_)
    cases e
    exact ⟨fun i s h1 h2 h3 => S2.hf i s p o h1 h2 h3 (.inr ⟨rfl, rfl⟩), hl.frn⟩
theorem set_get {α : Type} (l : List α) (i j : Nat) (x : α) : (l.set i x)[j]? = if i = j then (if i < l.length then some x else none) else l[j]? := by
  by_cases e : i = j
  · subst e
    rw [if_pos rfl]
    by_cases h : i < l.length
    · rw [if_pos h, List.getElem?_set_self h]
    · rw [if_neg h, List.getElem?_eq_none (by rw [List.length_set]; omega)]
  · rw [if_neg e, List.getElem?_set_ne e]
theorem ds_parM {ta : TA} {m1 m2 : Sl} (h : DM ta ds [m1, m2] ds1) (hij : i ≠ j) : DS (tPar i j ta) ds (.nx ((ds1.set i m1).set j m2)) := fun F O σ H S D k =>
  h F O σ H S _ fun O1 vs H1 l1 hl S1 => by
    obtain ⟨v, w, rfl⟩ : ∃ v w, vs = [v, w] := by
      match vs, hl with
      | [v, w], _ => exact ⟨v, w, rfl⟩
    refine ⟨v, w, rfl, k O1 _ H1 l1 ?_⟩
    have hlen : σ.length = ds1.length := by
      have := S1.len
      simp only [List.map_cons, List.map_nil, List.cons_append, List.nil_append, List.length_cons] at this
      omega
    refine S1.reix (fun k => if k = j then 1 else if k = i then 0 else k + 2) (by simp [hlen]) (fun m s x h1 h2 => .inr ?_) (fun a b s t _ _ _ _ e => ?_)
    · rw [set_get, set_get] at h1 h2
      rw [List.length_set] at h1 h2
      by_cases e1 : j = m
      · subst e1
        rw [if_pos rfl] at h1 h2
        split at h1
        · split at h2
          · cases h1; cases h2; simp
          · cases h2
        · cases h1
      · rw [if_neg e1] at h1 h2
        by_cases e2 : i = m
        · subst e2
          rw [if_pos rfl] at h1 h2
          split at h1
          · split at h2
            · cases h1; cases h2; simp [hij]
            · cases h2
          · cases h1
        · rw [if_neg e2] at h1 h2
          simp only [if_neg (Ne.symm e1), if_neg (Ne.symm e2)]
          exact ⟨h1, h2⟩
    · split at e <;> split at e <;> (try split at e) <;> (try split at e) <;> omega
theorem ds_par3M {ta : TA} {l : Nat} {m1 m2 m3 : Sl} (h : DM ta ds [m1, m2, m3] ds1) (hij : i ≠ j) (hil : i ≠ l) (hjl : j ≠ l) : DS (tPar3 i j l ta) ds (.nx (((ds1.set i m1).set j m2).set l m3)) := fun F O σ H S D k =>
  h F O σ H S _ fun O1 vs H1 l1 hl S1 => by
    obtain ⟨v, w, w2, rfl⟩ : ∃ v w w2, vs = [v, w, w2] := by
      match vs, hl with
      | [v, w, w2], _ => exact ⟨v, w, w2, rfl⟩
    refine ⟨v, w, w2, rfl, k O1 _ H1 l1 ?_⟩
    have hlen : σ.length = ds1.length := by
      have := S1.len
      simp only [List.map_cons, List.map_nil, List.cons_append, List.nil_append, List.length_cons] at this
      omega
    refine S1.reix (fun k => if k = l then 2 else if k = j then 1 else if k = i then 0 else k + 3) (by simp [hlen]) (fun m s x h1 h2 => .inr ?_) (fun a b s t _ _ _ _ e => ?_)
    · rw [set_get, set_get, set_get] at h1 h2
      simp only [List.length_set] at h1 h2
      by_cases e0 : l = m
      · subst e0
        rw [if_pos rfl] at h1 h2
        split at h1
        · split at h2
          · cases h1; cases h2; simp
          · cases h2
        · cases h1
      · rw [if_neg e0] at h1 h2
        by_cases e1 : j = m
        · subst e1
          rw [if_pos rfl] at h1 h2
          split at h1
          · split at h2
            · cases h1; cases h2; simp [hjl]
            · cases h2
          · cases h1
        · rw [if_neg e1] at h1 h2
          by_cases e2 : i = m
          · subst e2
            rw [if_pos rfl] at h1 h2
            split at h1
            · split at h2
              · cases h1; cases h2; simp [hij, hil]
              · cases h2
            · cases h1
          · rw [if_neg e2] at h1 h2
            simp only [if_neg (Ne.symm e0), if_neg (Ne.symm e1), if_neg (Ne.symm e2)]
            exact ⟨h1, h2⟩
    · split at e <;> split at e <;> (try split at e) <;> (try split at e) <;> (try split at e) <;> (try split at e) <;> omega
/-! ### less is known -/
inductive Weak : List Sl → List Sl → Prop
  | nil : Weak [] []
  | keep {s : Sl} {a b : List Sl} : Weak a b → Weak (s :: a) (s :: b)
  | drop {s : Sl} {a b : List Sl} : Weak a b → Weak (s :: a) (.non :: b)
theorem Weak.refl : ∀ a : List Sl, Weak a a
  | [] => .nil
  | _ :: r => .keep (Weak.refl r)
theorem Weak.get {a b : List Sl} (h : Weak a b) : a.length = b.length ∧ ∀ (i : Nat) (s : Sl), b[i]? = some s → s = .non ∨ a[i]? = some s := by
  induction h with
  | nil => exact ⟨rfl, fun i s h => by simp at h⟩
  | keep _ ih =>
    refine ⟨by rw [List.length_cons, List.length_cons, ih.1], fun i s h => ?_⟩
    cases i with
    | zero => exact .inr h
    | succ i => exact ih.2 i s h
  | drop _ ih =>
    refine ⟨by rw [List.length_cons, List.length_cons, ih.1], fun i s h => ?_⟩
    cases i with
    | zero => cases h; exact .inl rfl
    | succ i => exact ih.2 i s h
theorem SR.weak (S : SR F O σ H ds) (w : Weak ds ds') : SR F O σ H ds' :=
  S.reix (fun i => i) (by rw [S.len, w.get.1]) (fun i s x h1 h2 => (w.get.2 i s h1).imp id fun e => ⟨e, h2⟩) fun _ _ _ _ _ _ _ _ e => e
theorem ds_weak (h : DS t ds (.nx ds1)) (w : Weak ds1 ds2) : DS t ds (.nx ds2) := fun F O σ H S D k => h F O σ H S D fun O1 σ1 H1 l1 S1 => k O1 σ1 H1 l1 (S1.weak w)
theorem ds_weakC (h : DS t ds (.ct ds1)) (w : Weak ds1 ds2) : DS t ds (.ct ds2) := fun F O σ H S D k => h F O σ H S D fun O1 σ1 H1 l1 S1 => k O1 σ1 H1 l1 (S1.weak w)
theorem ds_weakB (h : DS t ds (.bk ds1)) (w : Weak ds1 ds2) : DS t ds (.bk ds2) := fun F O σ H S D k => h F O σ H S D fun O1 σ1 H1 l1 S1 => k O1 σ1 H1 l1 (S1.weak w)
theorem ds_weakL {o : Out} (w : Weak ds ds1) (h : DS t ds1 o) : DS t ds o := fun F O σ H S D k => h F O σ H (S.weak w) D k
theorem dw_weak {wi : TI} {xs : List Dt} (h : DW wi ds xs ds1) (w : Weak ds1 ds2) : DW wi ds xs ds2 := fun F O σ H S R k => h F O σ H S R fun O1 J H1 l1 S1 hw => k O1 J H1 l1 (S1.weak w) hw
theorem fin_weak {W : Bool → Dt → List Sl → Prop} (w : Weak ds ds1) (h : Fin t ds1 W) : Fin t ds W := by
  obtain ⟨d, ds', k | k⟩ := h
  · exact ⟨d, ds', .inl ⟨k.1, ds_weakL w k.2⟩⟩
  · exact ⟨d, ds', .inr ⟨k.1, ds_weakL w k.2⟩⟩
/-! ### loops by a state of one's own -/
theorem tn_nx {g : TG} (h : DG g x ds ds1) (k : DS tb' ds1 (.nx ds2)) (w : Weak ds2 ds') : Turned g tb' x ds ds' := ⟨ds1, h, .inl (ds_weak k w)⟩
theorem tn_ct {g : TG} (h : DG g x ds ds1) (k : DS tb' ds1 (.ct ds2)) (w : Weak ds2 ds') : Turned g tb' x ds ds' := ⟨ds1, h, .inr (ds_weakC k w)⟩
variable {α β : Type} {wi : TI} {g : TG} {ds0 : List Sl}
/-- a for, its items those of l -/
theorem ds_fold {l : List β} {e : β → Dt} (mk : α → List Sl) (f : α → β → α) (inv : Nat → α → Prop) (a0 : α) (hw : DW wi ds (l.map e) (mk a0)) (h0 : inv 0 a0)
    (hs : ∀ i a x, l[i]? = some x → inv i a → Turned g tb' (e x) (mk a) (mk (f a x)) ∧ inv (i + 1) (f a x)) : DS (tFor wi g tb') ds (.nx (mk (l.foldl f a0))) := by
  have key : ∀ n, n ≤ l.length → inv n ((l.take n).foldl f a0) := fun n => by
    induction n with
    | zero => intro _; exact h0
    | succ n ih =>
      intro hn
      have hx : l[n]? = some l[n] := by simp
      rw [List.take_add_one, hx, List.foldl_append]
      exact (hs n _ _ hx (ih (by omega))).2
  have h := ds_for (g := g) (tb := tb') hw (fun i => mk ((l.take i).foldl f a0)) rfl (fun i x hx => by
    rw [List.getElem?_map] at hx
    cases e1 : l[i]? with
    | none => rw [e1] at hx; cases hx
    | some y =>
      rw [e1] at hx
      cases hx
      have hi : i < l.length := (List.getElem?_eq_some_iff.mp e1).1
      have q := (hs i _ y e1 (key i (by omega))).1
      have e2 : (l.take (i + 1)).foldl f a0 = f ((l.take i).foldl f a0) y := by
        rw [List.take_add_one, e1, List.foldl_append]; rfl
      show Turned g tb' (e y) (mk ((l.take i).foldl f a0)) (mk ((l.take (i + 1)).foldl f a0))
      rw [e2]
      exact q) rfl
  rw [List.length_map, List.take_length] at h
  exact h
/-- the items with their places -/
def idx {γ : Type} (n : Nat) : List γ → List (Nat × γ)
  | [] => []
  | x :: r => (n, x) :: idx (n + 1) r
theorem idx_get {γ : Type} : ∀ (l : List γ) (n i : Nat) (p : Nat × γ), (idx n l)[i]? = some p → p.1 = n + i ∧ l[i]? = some p.2
  | [], _, _, _, h => by simp [idx] at h
  | x :: r, n, 0, p, h => by
    simp [idx] at h
    subst h
    exact ⟨rfl, rfl⟩
  | x :: r, n, i + 1, p, h => by
    have := idx_get r (n + 1) i p (by simpa [idx] using h)
    exact ⟨by omega, by simpa using this.2⟩
theorem idx_len {γ : Type} : ∀ (l : List γ) (n : Nat), (idx n l).length = l.length
  | [], _ => rfl
  | x :: r, n => by simp [idx, idx_len r]
theorem pairs_idx (e : β → Dt) : ∀ (l : List β) (n : Nat), pairs n (l.map e) = (idx n l).map fun p => .tup [.int (p.1 : Nat), e p.2]
  | [], _ => rfl
  | x :: r, n => by
    show pairs n (e x :: r.map e) = _
    unfold pairs idx
    rw [pairs_idx e r (n + 1)]
    rfl
/-- a while: c the test, f the turn, m falls -/
def whl (c : α → Bool) (f : α → α) : Nat → α → α
  | 0, a => a
  | n + 1, a => if c a = true then whl c f n (f a) else a
theorem whl_stop (c : α → Bool) (f : α → α) {a : α} (h : c a = false) : ∀ n, whl c f n a = a
  | 0 => rfl
  | n + 1 => by unfold whl; rw [h]; rfl
theorem ds_whl (mk : α → List Sl) (c : α → Bool) (f : α → α) (inv : α → Prop) (ht : ∀ a, inv a → DT tt (mk a) (c a) (mk a)) (hb : ∀ a, inv a → c a = true → DS tb' (mk a) (.nx (mk (f a))) ∧ inv (f a)) :
    ∀ (n : Nat) (a0 : α), inv a0 → c (whl c f n a0) = false → DS (tWhile tt tb') (mk a0) (.nx (mk (whl c f n a0))) := fun n a0 h0 hc => by
  refine ds_while (n := n) ?_
  induction n generalizing a0 with
  | zero =>
    unfold whl at hc ⊢
    exact .stop (hc ▸ ht a0 h0)
  | succ n ih =>
    unfold whl at hc ⊢
    by_cases e : c a0 = true
    · rw [if_pos e] at hc ⊢
      exact .step (e ▸ ht a0 h0) (hb a0 h0 e).1 (ih _ (hb a0 h0 e).2 hc)
    · rw [if_neg e] at hc ⊢
      exact .stop (hc ▸ ht a0 h0)
/-- .. by a measure -/
theorem whl_done (c : α → Bool) (f : α → α) (m : α → Nat) (inv : α → Prop) (hm : ∀ a, inv a → c a = true → inv (f a) ∧ m (f a) < m a) : ∀ (n : Nat) (a : α), inv a → m a ≤ n → c (whl c f n a) = false
  | 0, a, h, hn => by
    unfold whl
    cases e : c a with
    | false => rfl
    | true => have := (hm a h e).2; omega
  | n + 1, a, h, hn => by
    unfold whl
    by_cases e : c a = true
    · rw [if_pos e]
      have := hm a h e
      exact whl_done c f m inv hm n (f a) this.1 (by omega)
    · rw [if_neg e]; simpa using e
end

/-! ### comprehensions over lists of one's own -/
section
variable {ds ds0 : List Sl} {te : TE} {tt : TT} {β : Type} {wi : TI} {g : TG} {vs : List Nat}
theorem lcAcc_B (l : List β) (f : β → Bool) (v : β → Dt) : lcAcc (fun i => (l[i]?).bind fun x => if f x = true then some (v x) else none) l.length = (l.filter f).map v := by
  have key : ∀ n, n ≤ l.length → lcAcc (fun i => (l[i]?).bind fun x => if f x = true then some (v x) else none) n = ((l.take n).filter f).map v := fun n => by
    induction n with
    | zero => intro _; rfl
    | succ n ih =>
      intro hn
      have hx : l[n]? = some l[n] := by simp
      show lcAcc _ n ++ (((l[n]?).bind fun x => if f x = true then some (v x) else none)).toList = _
      rw [ih (by omega), List.take_add_one, hx, List.filter_append, List.map_append]
      by_cases hf : f l[n] = true
      · simp [hf]
      · simp [hf]
  rw [key l.length (Nat.le_refl _), List.take_length]
/-- with a test -/
theorem dn_lcB {l : List β} {e : β → Dt} (f : β → Bool) (v : β → Dt) (hw : DW wi ds (l.map e) ds0) (hz : l.length ≤ 100000) (hd : wipeD vs ds0 = ds0)
    (hs : ∀ x, x ∈ l → ∃ ds1, DGc g vs (e x) ds0 ds1 ∧ DT tt ds1 (f x) ds1 ∧ (f x = true → DE te ds1 (v x) ds1) ∧ wipeD vs ds1 = ds0) : DN (tLc wi g tt te vs) ds (.lst ((l.filter f).map v)) ds0 := by
  have h := dn_lc_core (g := g) (tt := tt) (te := te) (vs := vs) hw (by rw [List.length_map]; exact hz) (fun _ => ds0) (fun i => (l[i]?).bind fun x => if f x = true then some (v x) else none) hd.symm fun i x hx => by
    rw [List.getElem?_map] at hx
    cases e1 : l[i]? with
    | none => rw [e1] at hx; cases hx
    | some y =>
      rw [e1] at hx
      cases hx
      obtain ⟨ds1, h1, h2, h3, h4⟩ := hs y (List.mem_of_getElem? e1)
      refine ⟨ds1, ⟨ds1, ds1, h1, ?_⟩, h4.symm⟩
      cases hf : f y with
      | true => exact .inl ⟨v y, by simp [hf], by rw [← hf]; exact h2, h3 hf⟩
      | false => exact .inr ⟨by simp [hf], by rw [← hf]; exact h2⟩
  rw [List.length_map, lcAcc_B] at h
  exact h
theorem dn_lcBI {l : List β} {e : β → Dt} (f : β → Bool) (v : β → Int) (hw : DW wi ds (l.map e) ds0) (hz : l.length ≤ 100000) (hd : wipeD vs ds0 = ds0)
    (hs : ∀ x, x ∈ l → ∃ ds1, DGc g vs (e x) ds0 ds1 ∧ DT tt ds1 (f x) ds1 ∧ (f x = true → DE te ds1 (.int (v x)) ds1) ∧ wipeD vs ds1 = ds0) : DN (tLc wi g tt te vs) ds (.li ((l.filter f).map v)) ds0 := by
  have h := dn_lcB (g := g) (tt := tt) (te := te) (vs := vs) f (fun x => .int (v x)) hw hz hd hs
  rw [show (l.filter f).map (fun x => Dt.int (v x)) = ((l.filter f).map v).map Dt.int by rw [List.map_map]; rfl] at h
  exact h.li_of
/-- without one -/
theorem dn_mapB {l : List β} {e : β → Dt} (v : β → Dt) (hw : DW wi ds (l.map e) ds0) (hz : l.length ≤ 100000) (hd : wipeD vs ds0 = ds0)
    (hs : ∀ x, x ∈ l → ∃ ds1, DGc g vs (e x) ds0 ds1 ∧ DE te ds1 (v x) ds1 ∧ wipeD vs ds1 = ds0) : DN (tLc wi g tYes te vs) ds (.lst (l.map v)) ds0 := by
  have h := dn_lcB (g := g) (tt := tYes) (te := te) (vs := vs) (fun _ => true) v hw hz hd fun x hx => by
    obtain ⟨ds1, h1, h2, h3⟩ := hs x hx
    exact ⟨ds1, h1, dt_yes, fun _ => h2, h3⟩
  rw [show (l.filter fun _ => true) = l by simp] at h
  exact h
theorem dn_mapBI {l : List β} {e : β → Dt} (v : β → Int) (hw : DW wi ds (l.map e) ds0) (hz : l.length ≤ 100000) (hd : wipeD vs ds0 = ds0)
    (hs : ∀ x, x ∈ l → ∃ ds1, DGc g vs (e x) ds0 ds1 ∧ DE te ds1 (.int (v x)) ds1 ∧ wipeD vs ds1 = ds0) : DN (tLc wi g tYes te vs) ds (.li (l.map v)) ds0 := by
  have h := dn_mapB (g := g) (te := te) (vs := vs) (fun x => .int (v x)) hw hz hd hs
  rw [show l.map (fun x => Dt.int (v x)) = (l.map v).map Dt.int by rw [List.map_map]; rfl] at h
  exact h.li_of
end
section
variable {K : PySem.W.Frag} {ds ds1 ds2 : List Sl} {ta tb tc : TE} {tA : TA} {is : List Int} {xs : List Dt} {x y z : Dt} {r r' : R2} {b c : Bool} {i j : Int}
theorem dw_idxI (h : DA tA ds [.li is] ds1) : DW (iEnum K tA) ds ((idx 0 is).map fun p => .tup [.int (p.1 : Nat), .int p.2]) ds1 := by
  have h2 := dw_enumI (K := K) h
  rw [pairs_idx] at h2
  exact h2
theorem dw_idx (h : DA tA ds [.lst xs] ds1) : DW (iEnum K tA) ds ((idx 0 xs).map fun p => .tup [.int (p.1 : Nat), p.2]) ds1 := by
  have h2 := dw_enum (K := K) h
  have e := pairs_idx (fun d : Dt => d) xs 0
  rw [List.map_id'] at e
  rw [e] at h2
  exact h2
theorem de_chain (ha : DE ta ds x ds1) (hb : DE tb ds1 y ds2) (hc : DE tc ds2 z ds2) (h1 : RD r x y (.bl b)) (h2 : RD r' y z (.bl c)) : DE (tChain r r' ta tb tc) ds (.bl (b && c)) ds2 := fun F O σ H S Q k =>
  ha F O σ H S _ fun O1 v H1 l1 S1 hv => hb F O1 σ H1 S1 _ fun O2 w H2 l2 S2 hw => h1 (gr O2 H2) H2 v w gr_get (hv.mono l2) hw _ fun u hu => by
    rw [inv_bl hu]
    refine ⟨b, rfl, ?_⟩
    cases b with
    | true => exact iteT (hc F O2 σ H2 S2 _ fun O3 w3 H3 l3 S3 hw3 => h2 (gr O3 H3) H3 w w3 gr_get (hw.mono l3) hw3 Q fun u hu => k O3 u H3 ((l1.trans l2).trans l3) S3 hu)
    | false => exact iteF (k O2 _ H2 (l1.trans l2) S2 (.bl false))
theorem cd_min2 : CD (fun xs H Q => ∃ i j, xs = [.int i, .int j] ∧ Q (.int (if j < i then j else i)) H) [.int i, .int j] (.int (if j < i then j else i)) := fun G H vs hg hv Q k => by
  obtain ⟨v, w, rfl, h1, h2⟩ := inv2 hv
  exact ⟨i, j, by rw [inv_int h1, inv_int h2], k _ (.int _)⟩
theorem cd_abs : CD (fun xs H Q => ∃ i, xs = [.int i] ∧ Q (.int (if i < 0 then -i else i)) H) [.int i] (.int (if i < 0 then -i else i)) := fun G H vs hg hv Q k => by
  obtain ⟨v, rfl, h⟩ := inv1 hv
  exact ⟨i, by rw [inv_int h], k _ (.int _)⟩
end
/-! items, whatever the place -/
def gZ (xs : List Int) (i : Int) : Int := (atI xs i).getD 0
def dZ (xs : List Dt) (i : Int) : Dt := (atI xs i).getD .non
theorem ixN_isSome {n : Nat} {i : Int} (h : -(n : Int) ≤ i ∧ i < n) : (ixN n i).isSome = true := by
  unfold ixN
  by_cases h0 : 0 ≤ i
  · rw [if_pos h0, if_pos h.2]; rfl
  · rw [if_neg h0, if_pos h.1]; rfl
theorem ixN_lt {n j : Nat} {i : Int} (h : ixN n i = some j) : j < n := by
  unfold ixN at h
  split at h
  · split at h
    · cases h; omega
    · cases h
  · split at h
    · cases h; omega
    · cases h
theorem atI_ok {α : Type} {xs : List α} {i : Int} (h : -(xs.length : Int) ≤ i ∧ i < xs.length) : (atI xs i).isSome = true := by
  unfold atI
  have h1 := ixN_isSome h
  cases e : ixN xs.length i with
  | none => rw [e] at h1; cases h1
  | some j =>
    have := ixN_lt e
    simp [this]
section
variable {K : PySem.W.Frag} {i : Int} {xs : List Int} {ds : List Dt}
theorem rd_ixZ (h : -(xs.length : Int) ≤ i ∧ i < xs.length) : RD (rIxL K) (.li xs) (.int i) (.int (gZ xs i)) := rd_ixI (by
  have h1 := atI_ok (xs := xs) h
  unfold gZ
  cases e : atI xs i with
  | none => rw [e] at h1; cases h1
  | some j => rfl)
theorem rd_ixSZ (h : -(xs.length : Int) ≤ i ∧ i < xs.length) : RD (rIxL K) (.scr xs) (.int i) (.int (gZ xs i)) := rd_ixS (by
  have h1 := atI_ok (xs := xs) h
  unfold gZ
  cases e : atI xs i with
  | none => rw [e] at h1; cases h1
  | some j => rfl)
theorem rd_ixLZ (h : -(ds.length : Int) ≤ i ∧ i < ds.length) : RD (rIxL K) (.lst ds) (.int i) (dZ ds i) := rd_ixL (by
  have h1 := atI_ok (xs := ds) h
  unfold dZ
  cases e : atI ds i with
  | none => rw [e] at h1; cases h1
  | some j => rfl)
end
/-- xs[k] = v, whatever the place -/
def setZ {α : Type} (xs : List α) (i : Int) (v : α) : List α := match ixN xs.length i with
  | some k => xs.set k v
  | none => xs
section
variable {ds ds1 ds2 : List Sl} {te tb : TE} {s s0 : Sl} {i : Nat} {d : Dt}
theorem ds_setIZ {j k : Int} {xs : List Int} (he : DE te ds (.int j) ds1) (hi : DE tb ds1 (.int k) ds2) (h1 : ds1[i]? = some s0) (hh : s0.held) (h2 : ds2[i]? = some s) (hs : s.has (.li xs)) (hx : -(xs.length : Int) ≤ k ∧ k < xs.length) :
    DS (tAsg te (gSub (tVar i) tb rSetL)) ds (.nx (ds2.set i (s.put (.li (setZ xs k j))))) := by
  have h := ixN_isSome hx
  unfold setZ
  cases e : ixN xs.length k with
  | none => rw [e] at h; cases h
  | some n => exact ds_setI he hi h1 hh h2 hs e
theorem ds_setDZ {k : Int} {xs : List Dt} (he : DE te ds d ds1) (hi : DE tb ds1 (.int k) ds2) (h1 : ds1[i]? = some s0) (hh : s0.held) (h2 : ds2[i]? = some s) (hs : s.has (.lst xs)) (hx : -(xs.length : Int) ≤ k ∧ k < xs.length) :
    DS (tAsg te (gSub (tVar i) tb rSetL)) ds (.nx (ds2.set i (s.put (.lst (setZ xs k d))))) := by
  have h := ixN_isSome hx
  unfold setZ
  cases e : ixN xs.length k with
  | none => rw [e] at h; cases h
  | some n => exact ds_setD he hi h1 hh h2 hs e
end
theorem gZ_nat (xs : List Int) (k : Nat) : gZ xs (k : Int) = (xs[k]?).getD 0 := by
  unfold gZ atI ixN
  rw [if_pos (by omega)]
  by_cases h : (k : Int) < xs.length
  · rw [if_pos h]; simp
  · rw [if_neg h, List.getElem?_eq_none (by omega)]; rfl
theorem setZ_nat {α : Type} (xs : List α) (k : Nat) (v : α) : setZ xs (k : Int) v = xs.set k v := by
  unfold setZ ixN
  rw [if_pos (by omega)]
  by_cases h : (k : Int) < xs.length
  · rw [if_pos h]; simp
  · rw [if_neg h]
    show xs = xs.set k v
    rw [List.set_eq_of_length_le (by omega)]
theorem setZ_len {α : Type} (xs : List α) (k : Int) (v : α) : (setZ xs k v).length = xs.length := by
  unfold setZ
  split
  · rw [List.length_set]
  · rfl
end DL

end

section
set_option Elab.async false
set_option linter.all false
set_option maxRecDepth 100000
set_option autoImplicit false
set_option maxHeartbeats 4000000
/-! an own error class, its __init__: super().__init__(value); self.value = value -/
namespace DL
open PySem PySem.W PySem.Calls PySem.Spec PyProof.Rows L2 NdefX
section
variable {X : Cx} {pins : List (Addr × Obj)} {σ : L2.St} {H : Hp} {s : Shared} {E : Value → Shared → Prop}
theorem ld_slot {i : Nat} {x : Str} {v : V} {Q : Value → Shared → Prop} (I : Inv X pins σ H s) (hN : X.N[i]? = some x) (hv : Vis X.env.scope x) (e : σ[i]? = some (some v)) (h : ∀ u, RelV v u → Q u s) (hcd : (x == ("__classdict__" : Str)) = false := by decide) :
    wpAny (model X.prog X.w) X.A (loadName X.env x) Q E s := by
  obtain ⟨m, hn, hl⟩ := I.loc
  obtain ⟨u, r, l⟩ := hl i x v hN e hv
  rcases l with ⟨hk, hm⟩ | ⟨hk, c, hc, hcell⟩
  · exact wpAny_loadName_local I.ok.kind hk hn hm (h u r)
  · rcases hk with hk | hk
    · exact wpAny_loadName_cell I.ok.kind hk hc hcell (h u r)
    · exact wpAny_loadName_free I.ok.kind hk hc hcell (h u r) hcd
theorem ld_bltN {x : Str} {u : Value} {Q : Value → Shared → Prop} (I : Inv X pins σ H s) (hg : Gl X x) (hm : X.mg x = none) (hv : bootBuiltins x = some u) (h : Q u s) (hn : x ≠ "__name__" := by decide) :
    wpAny (model X.prog X.w) X.A (loadName X.env x) Q E s := by
  obtain ⟨mb, h1, h2⟩ := I.mod.blt
  unfold loadName
  simp only [Env.blockKind, I.ok.kind, show X.env.kindOf x = some .globalImplicit from hg, ScopeKind.isAnnotationScope, Bool.false_and, Bool.false_eq_true, if_false]
  exact (Calls.loadGlobal_builtin (by rw [I.ok.glob]; exact I.mod.glob.keeps I.bk) hm (by rw [I.ok.blt]; exact h1.keeps I.bk) ((h2 x hn).trans hv) h)
/-- what the written part says of an own error class whose __init__ says super().__init__(..) -/
structure SupC (K : PySem.W.Frag) (C : Addr) : Prop where
  ox : OexC K C
  top : nsIn K cStatics "thirdparty.any" = some none
  sup : ks_superIn K C C "__init__" = some (some (.builtin "ValueError.__init__"))
  val : subIn K (.ref C) (.type "ValueError") = some true
  sub : subIn K (.ref C) (.ref C) = some true
theorem clsIn_obj {K : PySem.W.Frag} {C : Addr} {cd : ClassData} (h : clsIn K C = some cd) : ∃ o, K.lookup C = some o ∧ o.data = .cls cd := by
  unfold clsIn at h
  split at h
  · rename_i c d cd' sl ho
    cases h
    exact ⟨_, ho, rfl⟩
  · cases h
/-- super().__init__(e), e a name -/
theorem run_sup {f cc a C : Addr} {of oc : Obj} {fd : FuncData} {ar : Arg} {vs : Array Value} {file : Str} {tf : Tok} {body : List Stmt} {x : Str} {y : V} {i j k : Nat} {p0 p1 p2 p3 p4 p5 : Pos} {pl : Sem Bool}
    (I : Inv X pins σ H s) (T : SupC X.K C) (ea : H a = some (exo a C none)) (hks : Gl X "super") (hm : X.mg "super" = none) (hkc : X.env.kindOf "__class__" = some .free) (hfu : X.env.func = some f) (hf : X.K.lookup f = some of) (hfd : of.data = .func fd)
    (hp : (fd.params.posonlyargs ++ fd.params.args).head? = some ar) (hco : X.env.code = .ref cc) (hcc : X.K.lookup cc = some oc) (hoc : oc.data = .fields vs) (hvs : vs[2]? = some (.str file tf)) (hfile : ((X.prog.main.file : Str) == file) = true)
    (htop : (X.prog.main.scope.names.lookup ("super" : Str)).isSome = false)
    (hi : X.N[i]? = some "__class__") (vi : Vis X.env.scope "__class__") (ei : σ[i]? = some (some (.ref C)))
    (hj : X.N[j]? = some ar.arg) (vj : Vis X.env.scope ar.arg) (ej : σ[j]? = some (some (.ref a))) (hjc : (ar.arg == ("__classdict__" : Str)) = false)
    (hk : X.N[k]? = some x) (vk : Vis X.env.scope x) (ek : σ[k]? = some (some y)) (hkn : (x == ("__classdict__" : Str)) = false) (hkd : (x == ("__debug__" : Str)) = false)
    (hst : interactive X.env = false) (hsw : swapsWith (.Call (.Attribute (.Call (.Name "super" p0) [] [] p1) "__init__" p2) [.Name x p3] [] p4) none p5.line X.env = pure false)
    (hev : eval (.Call (.Attribute (.Call (.Name "super" p0) [] [] p1) "__init__" p2) [.Name x p3] [] p4) X.env = (do
      let ov ← attributeBase (.Call (.Name "super" p0) [] [] p1) "__init__" X.env (eval (.Call (.Name "super" p0) [] [] p1) X.env)
      standAt p2.atName
      let (f, first) ← holding [ov] (getMethod ov "__init__" pl)
      callWith p4 f first (backTo p4 (starEach [.Name x p3] X.env)) [])) :
    PySem.wpAt (model X.prog X.w) X.A (.func body X.env) (exec (.Expr (.Call (.Attribute (.Call (.Name "super" p0) [] [] p1) "__init__" p2) [.Name x p3] [] p4) p5) X.env) (fun fl s' => fl = .next ∧ Inv X pins σ H s') E s := by
  obtain ⟨nm, qn, N, bs, bm, sn, sub, ab, col, dd, k0, k1, k2, k3, k5, hC, hbm⟩ := T.ox.cls
  have hcl : PySem.W.clsIn X.K C = some { name := nm, bases := bs, mro := .ref C :: bm, ns := N, qualname := qn, hasDict := true, slotNames := sn, subclasses := sub, abstract := ab, collection := col, hasDel := false } := by unfold PySem.W.clsIn; rw [hC] <;> rfl
  refine ks_wpAt_Expr_any (ks_wpAt_MethodCall (pl := pl) ?_ hev) hst hsw
  refine ks_wpAt_super_base hks hkc (by decide) hfu (I.kIn _ _ hf) hfd hp hco (I.kIn _ _ hcc) hoc hvs hfile htop ?_
  refine ld_bltN I hks hm Boot.«super» ⟨rfl, ?_⟩
  refine ld_slot I hi vi ei fun u1 r1 => ?_
  obtain rfl : u1 = Value.ref C := r1
  refine ld_slot I hj vj ej (fun u2 r2 => ?_) hjc
  obtain rfl : u2 = Value.ref a := r2
  obtain ⟨t1, ho⟩ := exo_at I.hok ea
  obtain ⟨oC, hoC, hoD⟩ := clsIn_obj hcl
  obtain ⟨hp', g, d, t, os⟩ := s
  have XI := I.kIn
  refine ks_wpAny_isType_cls (XI _ _ hoC) hoD ⟨rfl, ?_⟩
  refine ks_wpAny_call_super (XI _ _ hoC) hoD ho rfl (fun c => by simp) (looks_subIn XI T.sub) fun h1 e1 kp1 => ?_
  have I1 : Inv X pins σ H ⟨h1, g, d, t, os⟩ := I.kept kp1
  have hs := T.sup
  unfold ks_superIn at hs
  rw [hcl] at hs
  have IA : InstAt h1 a ({ cls := .ref C, dict := none, data := .fields #[.ref t1, .none, .none, .none, .bool false, .none] } : Obj) C none := ⟨kp1 _ _ ho, rfl, rfl, trivial⟩
  refine kxs_getMethod kxs_ValueError e1 (looks_opaque I1.kIn T.top) (l₀ := .ref C :: bm) (fun A Q E s k q => wpAny_bind ((looks_clsIn I1.kIn hcl) A _ E s k (wpAny_pure q))) rfl I1.kIn hs (IA.type.andThen (looks_subIn I1.kIn T.val)) (ks_ne I1.kIn IA hcl) (by decide) ?_
  have kp2 : ∀ b o, h1.get? b = some o → (h1.push (kxs_mw "ValueError.__init__" a)).get? b = some o := fun b o e => Heap.get?_push_of_some _ e
  have I2 : Inv X pins σ H ⟨h1.push (kxs_mw "ValueError.__init__" a), g, d, t + 1, os⟩ := I1.kept kp2
  refine kxs_callWith (i := "ValueError.__init__") (x := a) rfl ?_
  refine evalArgs_plain (spliced_cons (wpAny_Name (ld_slot I2 hk vk ek (fun u3 r3 => ?_) hkn) hkd))
  refine spliced_nil ⟨Heap.get?_push_at rfl rfl, ?_⟩
  have hu : (h1.push (kxs_mw "ValueError.__init__" a)).get? h1.objs.size = some (kxs_mw "ValueError.__init__" a) := Heap.get?_push_at rfl rfl
  refine wpAny_call (codeAny_of_tree ?_)
  show wpAny _ X.A.in1 (callAny (.ref h1.objs.size) ⟨[u3], []⟩) _ _ _
  simp only [callAny]
  refine wpAny_bind (wpAny_load hu ?_)
  simp only [kxs_mw, show (Value.type "method-wrapper" == Value.type "method" || Value.type "method-wrapper" == Value.type "builtin_function_or_method" || Value.type "method-wrapper" == Value.type "method-wrapper") = true by decide, if_true]
  refine KFB.if_so (by decide) ?_
  obtain ⟨t2, ho2⟩ := exo_at I2.hok ea
  refine wpAny_bind (check_bound_init F.excBase_ValueError.toExcCallFacts (I2.kIn _ _ hC) ho2 rfl ?_)
  refine wpAny_bind (wpAny_pure (wpAny_pure ?_))
  refine ⟨plainId_quiet F.excBase_ValueError.init.plain _, codeAny_builtin F.excBase_ValueError.initEntry ?_⟩
  refine exc_init_tree (cls := .ref C) (t0 := t2) (dv := none) (c2 := .none) (c3 := .none) (b4 := .bool false) ho2 (by show 1 ≤ sizeLine; decide) fun h' kp3 hx _ => ?_
  have J := I2.write (t' := t + 1) (x := a) (e := a) (o := exo a C none) (by rw [ea]; exact True.intro) (.inl rfl) kp3 ⟨_, hx⟩ (exo_ok hx)
  have eu : upd H a (exo a C none) = H := by
    funext b
    by_cases hb : b = a
    · rw [hb, upd_same, ea]
    · rw [upd_ne hb]
  rw [eu] at J
  exact ⟨True.intro, J⟩
end
/-- the body super().__init__(value); self.value = value -/
abbrev supS1 (p0 p1 p2 p3 p4 p5 : Pos) : Stmt := .Expr (.Call (.Attribute (.Call (.Name "super" p0) [] [] p1) "__init__" p2) [.Name "value" p3] [] p4) p5
abbrev supS2 (q0 q1 q2 q3 : Pos) : Stmt := .Assign [.Attribute (.Name "self" q0) "value" q1] (.Name "value" q2) q3
/-- the def of such an __init__ -/
structure SupF (P : Program) (K : PySem.W.Frag) (C : Addr) (qual : Str) (st : Stmt) (f : Addr) (fd : FuncData) : Prop where
  ex : ∃ (oc : Value) (od : Option Addr) (dV kV doc pm : Value) (an : Option Addr) (cc : Addr) (ct : Value) (osl : Array (Option Value)) (cell : Addr),
    fd = fnX "__init__" qual (defArgs st) (defBody st) (defScope st) [("__class__", cell)] dV kV doc pm an (.ref cc) ct ∧ K.lookup f = some ⟨oc, od, .func fd, osl⟩ ∧ codeIn K (.ref cc) qual = true ∧
    (∃ oe, K.lookup cell = some oe ∧ oe.data = .cell (some (.ref C))) ∧ ∃ (oe : Obj) (vs : Array Value) (file : Str) (tf : Tok), K.lookup cc = some oe ∧ oe.data = .fields vs ∧ vs[2]? = some (.str file tf) ∧ ((P.main.file : Str) == file) = true
  top : (P.main.scope.names.lookup ("super" : Str)).isSome = false
def SpE (C : Addr) : Sp := fun vs H Q _ => ∃ a y, vs = [.ref a, y] ∧ H a = some (exo a C none) ∧ ∀ dx, H dx = none → dx ≠ a → Q .non (upd (upd H dx (exd dx [("value", y)])) a (exo a C (some dx)))
theorem fnok_sup {P : Program} {w : World} {K : PySem.W.Frag} {mg : Str → Option Value} {base : Heap} {C f : Addr} {fd : FuncData} {qual : Str} {st : Stmt} {k : Nat} {p0 p1 p2 p3 p4 p5 q0 q1 q2 q3 : Pos} (F : SupF P K C qual st f fd) (T : SupC K C)
    (S : NScope ["self", "value", "__class__"] ["self", "value"] ["__class__"] (defScope st)) (hm : mg "super" = none) (hno : findIn K (.ref C) "value" = some none)
    (hbd : defBody st = [supS1 p0 p1 p2 p3 p4 p5, supS2 q0 q1 q2 q3]) (har : ∃ ar, ((defArgs st).posonlyargs ++ (defArgs st).args).head? = some ar ∧ ar.arg = "self")
    (hgl : ∀ (L : Addr) (cd : Value) (cl : List (Str × Addr)), (envX qual (defScope st) L f cd cl).kindOf "super" = some .globalImplicit)
    (hev : ∀ (L : Addr) (cd : Value) (cl : List (Str × Addr)), ∃ pl : Sem Bool, eval (.Call (.Attribute (.Call (.Name "super" p0) [] [] p1) "__init__" p2) [.Name "value" p3] [] p4) (envX qual (defScope st) L f cd cl) = (do
      let ov ← attributeBase (.Call (.Name "super" p0) [] [] p1) "__init__" (envX qual (defScope st) L f cd cl) (eval (.Call (.Name "super" p0) [] [] p1) (envX qual (defScope st) L f cd cl))
      standAt p2.atName
      let (fn, first) ← holding [ov] (getMethod ov "__init__" pl)
      callWith p4 fn first (backTo p4 (starEach [.Name "value" p3] (envX qual (defScope st) L f cd cl))) [])) :
    FnOk P w K mg base CX0 (k + 1) f fd ["self", "value"] (SpE C) := by
  obtain ⟨oc, od, dV, kV, doc, pm, an, cc, ct, osl, cell, rfl, lk, hcd, ⟨oe, lc, hcc⟩, ob, bs, file, tf, lo, hob, hbs, hfile⟩ := F.ex
  refine ⟨fun vs H Q E h => ?_, fun A outer s H args us vs Q E hr e0 hb r hsp => ?_⟩
  · obtain ⟨a, y, rfl, _⟩ := h
    rfl
  obtain ⟨a, y, rfl, ea, q⟩ := hsp
  have KX : K.In s.heap := e0.mod.kin.keeps fun b o e => (e0.bs b o e).1
  have lim : s.heap.NoLimit := e0.mod.nolimit.keeps fun b o e => (e0.bs b o e).1
  refine codeAny_call_function hr.depth (KX _ _ lk) rfl S.co S.gen rfl (codeRec_of KX hcd) (hb _ _ _ _ ?_)
  refine wpAny_newFunctionEnv S.nocell (fun ⟨n, _⟩ hy => S.par n (List.of_mem_zip hy).1) (fun h₁ hns hsb => ⟨lim.fresh _ hsb, ?_⟩) S.kind
  let G : NF := ⟨"__init__", qual, defArgs st, defBody st, defScope st, [("__class__", cell)], cc⟩
  show codeAny _ _ (.func (defBody st) (envF G f s.heap.objs.size)) _ _
  refine ks_codeAny_funcAt ?_
  have kp : ∀ b o, s.heap.get? b = some o → h₁.get? b = some o := fun b o e => hsb.extBut b o (Nat.ne_of_lt (Heap.lt_size e)) (Heap.get?_push_of_some _ e)
  have hcellH : H cell = none := (e0.bs cell oe (e0.mod.kin _ _ lc)).2
  have CA : CellsAt G.cl ["__class__"] [some (.ref C)] s.heap H := by
    refine ⟨rfl, fun y c e => ?_, fun x y c e1 e2 => ?_, fun i y e => ?_⟩
    · have e : ([("__class__", cell)] : List (Str × Addr)).lookup y = some c := e
      have : c = cell := by
        simp only [List.lookup] at e
        split at e
        · exact (Option.some.inj e).symm
        · cases e
      subst this
      exact ⟨hcellH, _, oe, KX _ _ lc, hcc⟩
    · have k1 : ∀ z c, ([("__class__", cell)] : List (Str × Addr)).lookup z = some c → z = "__class__" := fun z c e => by
        simp only [List.lookup] at e
        split at e
        · rename_i h; exact eq_of_beq h
        · cases e
      rw [k1 x c e1, k1 y c e2]
    · cases i with
      | zero =>
        cases e
        exact ⟨cell, rfl, fun v hv => by cases hv; exact ⟨_, rfl, oe, KX _ _ lc, hcc⟩⟩
      | succ i => simp at e
  have I := inv_startN (CX := CX0) (P := P) (w := w) (E := E) (F := G) (f := f) (tk := s.toks + ((["self", "value"] : List Str).zip us).length) S hr.hd e0 rfl r CA hns kp
  obtain ⟨ar, ha1, ha2⟩ := har
  obtain ⟨pl, hev⟩ := hev s.heap.objs.size (.ref cc) [("__class__", cell)]
  show PySem.wpAt _ _ _ (execs (defBody st) _) _ _ _
  rw [hbd]
  refine ks_wpAt_execs_cons (ks_wpAt_mono (run_sup (i := 2) (j := 0) (k := 1) (y := y) (ar := ar) (pl := pl) (p0 := p0) (p1 := p1) (p2 := p2) (p3 := p3) (p4 := p4) (p5 := p5) (body := [supS1 p0 p1 p2 p3 p4 p5, supS2 q0 q1 q2 q3]) I T ea (hgl _ _ _) hm (S.frk "__class__" (by simp)) rfl lk rfl ha1 rfl lo hob hbs hfile F.top rfl (.inr (.inr (S.frk "__class__" (by simp)))) rfl (by rw [ha2]; rfl) (by rw [ha2]; exact .inl (S.par "self" (by simp))) rfl (by rw [ha2]; decide)
    rfl (.inl (S.par "value" (by simp))) rfl (by decide) (by decide) (by show ((defScope st).kind == ScopeKind.module && _) = false; rw [S.kind]; rfl) rfl hev) (fun fl s' h => ?_) fun _ _ h => h)
  obtain ⟨rfl, J⟩ := h
  refine wpAt_of_wpAny ?_
  have hps : PSs (ncx CX0 P w K mg base ["self", "value", "__class__"] G f A outer s H E) [supS2 q0 q1 q2 q3] (tOst K "value" (tVar 0) (tVar 1)) := pss_one (ps_ost (pe_var rfl (.inl (S.par "self" (by simp)))) (pe_var rfl (.inl (S.par "value" (by simp)))))
  refine wpAny_mono (hps.run [] _ _ H { nx := fun _ H' => Q .non H', rt := Q } J ⟨y, rfl, .ref a, rfl, a, C, rfl, T.ox, hno, .inl ⟨ea, q⟩⟩) (fun fl s' hs => ?_) fun e s' hs => hs
  have fin : ∀ {σ' : L2.St} {H' : Hp} {v : V} {u : Value}, Inv (ncx CX0 P w K mg base ["self", "value", "__class__"] G f A outer s H E) [] σ' H' s' → L2.RelV v u → Q v H' → CE outer P w H s Q u s' :=
    fun {σ' H' v u} J rv q => ⟨v, H', J.os, J.bare, J.base, J.hok, rv, q⟩
  cases fl with
  | ret u =>
    obtain ⟨v, σ', H', J, rv, q⟩ := hs
    exact fin J rv q
  | next =>
    obtain ⟨σ', H', J, q⟩ := hs
    exact fin (v := V.non) (u := Value.none) J rfl q
  | brk =>
    obtain ⟨_, _, _, q⟩ := hs
    exact False.elim q
  | cont =>
    obtain ⟨_, _, _, q⟩ := hs
    exact False.elim q
end DL

end

section
set_option Elab.async false
set_option linter.all false
set_option maxRecDepth 100000
set_option autoImplicit false
set_option maxHeartbeats 4000000
/-! defs that are called where no repr is under way; repr of data -/
namespace DL
open PySem PySem.Spec PyProof.Rows L2
/-- a def's promise where no guard stands (repr of a list tells the list) -/
structure FnG (P : Program) (w : World) (K : PySem.W.Frag) (mg : Str → Option Value) (base : Heap) (CX : CXT) (k : Nat) (f : Addr) (fd : FuncData) (ps : List Str) (sp : Sp) : Prop where
  len : ∀ vs H Q E, sp vs H Q E → vs.length = ps.length
  run : ∀ (A : Around) (outer : List Env) (s : Shared) (H : Hp) (args : Args) (us : List Value) (vs : List V) (Q : VK) (E : XK), A.guards = some [] → Room k A → Env0 P w K mg base A outer s H → BindsTo s fd args (ps.zip us) → Vals vs us → sp vs H Q E →
    codeAny (model P w) A (.call (.ref f) args) (CR CX outer P w H s Q E) s
section
variable {P : Program} {w : World} {K : PySem.W.Frag} {mg : Str → Option Value} {base : Heap} {CX : CXT}
/-- its rule -/
theorem fng_of {x qual : Str} {st : Stmt} {f : Addr} {fd : FuncData} {N ps : List Str} {k : Nat} {sp : Sp} (F : Fun K x qual st f fd) (S : FnScope N ps (defScope st)) (len : ∀ vs H Q E, sp vs H Q E → vs.length = ps.length)
    (hbody : ∀ (cdv : Value) (A : Around) (outer : List Env) (s : Shared) (H : Hp) (vs : List V) (Q : VK) (E : XK), A.guards = some [] → Room k (A.deeper (envOfC qual (defScope st) s.heap.objs.size f cdv)) → sp vs H Q E →
      ∃ t, PSs (cxOf CX P w K mg base N qual (defScope st) f cdv A outer s H E) (defBody st) t ∧ t { nx := fun _ H' => Q .non H', rt := Q } (L2.start N vs) H) : FnG P w K mg base CX (k + 1) f fd ps sp := by
  obtain ⟨oc, od, kV, doc, pm, an, cdv, ct, osl, rfl, lk, hcd⟩ := F.ex
  refine ⟨len, fun A outer s H args us vs Q E hg hr e0 hb r hsp => ?_⟩
  obtain ⟨t, ht, hq⟩ := hbody cdv A outer s H vs Q E hg (hr.deeper _) hsp
  have hl := len _ _ _ _ hsp
  have KX : K.In s.heap := e0.mod.kin.keeps fun b o e => (e0.bs b o e).1
  have lim : s.heap.NoLimit := e0.mod.nolimit.keeps fun b o e => (e0.bs b o e).1
  have hkind : ∀ y ∈ ps.zip us, (defScope st).names.lookup y.1 = some .local ∨ ((defScope st).names.lookup y.1 = some .cell ∧ ((cellsFrom (s.heap.objs.size + 1) (defScope st).names []).lookup y.1).isSome = true) := fun ⟨n, v⟩ hy =>
    (S.par n (List.of_mem_zip hy).1).imp id fun q => ⟨q, PySem.W.cellsFrom_some _ _ _ (.inl q)⟩
  refine codeAny_call_function hr.depth (KX _ _ lk) rfl S.co S.gen rfl (PySem.W.codeRec_of KX hcd) (hb _ _ _ _ (wpAny_newFunctionEnv_cells S.kind hkind fun env he s1 x => ?_))
  subst he
  refine ⟨lim.keeps x.toInCall.keep, codeAny_func (wpAny_mono (ht.run [] s1 _ H _ (inv_start S hr.hd e0 hl r x) hq) (fun fl s' hs => ?_) fun e s' hs => hs)⟩
  cases fl with
  | ret u =>
    obtain ⟨v, σ', H', J, rv, q⟩ := hs
    exact ⟨v, H', J.os, J.bare, J.base, J.hok, rv, q⟩
  | next =>
    obtain ⟨σ', H', J, q⟩ := hs
    exact ⟨V.non, H', J.os, J.bare, J.base, J.hok, rfl, q⟩
  | brk => exact hs.choose_spec.choose_spec.2.elim
  | cont => exact hs.choose_spec.choose_spec.2.elim
end
section
variable {X : Cx} {CX : CXT} {k : Nat} {f : Addr} {fd : FuncData} {ps : List Str} {sp : Sp} {dvs : List V} {ds : List Value} {E : XK} {x : Str} {p pos : Pos} {e : Expr} {es : List Expr} {t : TA}
/-- its call -/
theorem pe_callG (F : FnG X.prog X.w X.K X.mg X.base CX k f fd ps sp) (hG : X.A.guards = some []) (hr : Room k X.A) (hg : Gl X x) (hm : X.mg x = some (.ref f)) (hk : PySem.W.keepIn X.K (.ref f) = true) (hb : Binds X.K fd ps ds) (hd : Vals dvs ds) (hx : Passes CX X E)
    (ha : PA X (e :: es) t) (hdb : (x == ("__debug__" : Str)) = false := by decide) (he : starEach (e :: es) X.env = (false, eval e X.env) :: starEach es X.env := by rfl) (hpl : (backTo pos (starEach es X.env)).any (·.1) = false := by rfl) :
    PE X (.Call (.Name x p) (e :: es) [] pos) (tCall sp dvs E t) := by
  refine ⟨fun pins s σ H Q I h => wpAny_Call_Name_kw (ld_glob I hg hm ?_ hdb)⟩
  refine PySem.W.callWith_K (h₀ := X.base) I.ok.mod.kin hk (thn (ha.run pos pins s σ H _ I h) fun us s1 ⟨vs, H1, I1, r, q⟩ => ⟨I1.kIn, ?_⟩) he hpl
  have r2 : Vals (vs ++ dvs) (us ++ ds) := r.append hd
  have hl : (us ++ ds).length = ps.length := by rw [← r2.length]; exact F.len _ _ _ _ q
  refine wpAny_call (codeAny_mono (F.run X.A X.stack s1 H1 ⟨us, []⟩ (us ++ ds) (vs ++ dvs) Q E hG hr I1.env0 (hb s1 us I1.kIn hl) r2 q) fun r s' hq => ?_)
  cases r with
  | error e => exact hx pins σ H1 s1 e s' I1 hq
  | ok fl =>
    cases fl with
    | ret u => exact I1.after hq
    | next => exact False.elim hq
    | brk => exact False.elim hq
    | cont => exact False.elim hq
end
/-! ### repr -/
/-- its text is told -/
structure Rp (d : PyData) : Prop where
  sh : d.showable = true
  di : d.hasDict = false
  dp : d.depth ≤ 20
  sz : d.shown.length ≤ sizeLine
def rRepr (K : PySem.W.Frag) : List V → Hp → VK → Prop := fun xs H Q => ∃ v d, xs = [v] ∧ Dp K H v d ∧ Rp d ∧ Q (.str d.shown) H
theorem call_repr {X : Cx} (hG : X.A.guards = some []) (hu : X.A.units + 64 < cLine) : CallR X (.builtin "repr") (rRepr X.K) := by
  intro pins s σ H xs us Q I r h
  obtain ⟨v, d, rfl, hd, hR, q⟩ := h
  cases r with
  | cons ru rr =>
    cases rr
    obtain ⟨as, rd⟩ := Dp.reads I d _ _ hd ru
    have fin : ∀ (s' : Shared) (tk : Tok), Inv X pins σ H s' → EP X pins σ Q (.str d.shown tk) s' := fun s' tk J => ⟨.str d.shown, H, J, ⟨tk, rfl⟩, q⟩
    have go : ∀ a : Addr, Reads s.heap (.ref a) d as → wpAny (model X.prog X.w) X.A (call (.builtin "repr") [.ref a]) (EP X pins σ Q) X.xe s := fun a rd =>
      repr_of_reads' rd hR.sh (fun z => by rw [hR.di] at z; cases z) hG (by have := hR.dp; omega) (fun _ _ z => z) (fun h' u tk k => fin _ _ (I.kept k)) hR.sz
    cases hd with
    | non => cases ru; exact PySem.P.repr_of_none (fin _ _ (I.tok _))
    | bl b => cases ru; exact PySem.P.repr_of_bool (fin _ _ (I.tok _))
    | int i =>
      obtain ⟨t, rfl⟩ := ru
      exact PySem.P.repr_of_int (by have := hR.sh; unfold PyData.showable at this; exact of_decide_eq_true this) (fin _ _ (I.tok _))
    | str x =>
      obtain ⟨t, rfl⟩ := ru
      exact PySem.P.repr_of_str (fin _ _ (I.tok _)) hR.sz
    | lst h1 h2 => cases ru; exact go _ rd
    | tup h1 h2 => cases ru; exact go _ rd
/-- data whose text is told -/
def RpD (d : Dt) : Prop := plain d = true ∧ Rp (toPy d)
theorem cd_repr {K : PySem.W.Frag} {x : Dt} (h : RpD x) : CD (rRepr K) [x] (.str (toPy x).shown) := fun G H vs hg hv Q k => by
  obtain ⟨v, rfl, hx⟩ := inv1 hv
  exact ⟨v, _, rfl, dp_of hg hx h.1, h.2, k _ (.str _)⟩
end DL

end

section
set_option Elab.async false
set_option linter.all false
set_option maxRecDepth 100000
set_option autoImplicit false
set_option maxHeartbeats 4000000
/-! raising by data -/
namespace DL
open PySem PySem.Spec PyProof.Rows L2
/-- as SpB, or it raises an own error with a value: SX the object's content, the other arguments, the class, the value -/
def SpBX (n : Nat) (SB : Dt → List Dt → Dt → Dt → Prop) (SX : Dt → List Dt → Addr → Dt → Prop) : Sp := fun vs H Q E => vs.length = n ∧ ∃ (O : Addr → Prop) (g : Addr) (o : HO) (rest : List V) (dg : Dt) (xs : List Dt), vs = .ref g :: rest ∧ O g ∧ (∀ a, O a → ∃ o, H a = some o) ∧
  H g = some o ∧ Cell (gr O H) o dg ∧ DvA (gr O H) rest xs ∧
  ((∃ d dg', SB dg xs d dg' ∧ ∀ v H' o', (∀ a u, a ≠ g → H a = some u → H' a = some u) → H' g = some o' → Cell (gr O H') o' dg' → Dv (gr O H') v d → Q v H') ∨
   ∃ (C : Addr) (dv : Dt), SX dg xs C dv ∧ ∀ (dd : Addr) (v : V) (H' : Hp) (o' : HO), (∀ a u, a ≠ g → H a = some u → H' a = some u) → H' g = some o' → gr O H' dd (.xd [("value", v)]) → Dv (gr O H') v dv → E (.ref C) (some dd) H')
section
variable {n : Nat} {SB : Dt → List Dt → Dt → Dt → Prop} {SX : Dt → List Dt → Addr → Dt → Prop} {vs : List V} {H : Hp} {Q : VK} {E : XK}
theorem SpB.toX (h : SpB n SB vs H Q E) : SpBX n SB SX vs H Q E := by
  obtain ⟨hl, O, g, o, rest, dg, xs, d, dg', e, hO, hd, hg, hc, hv, hS, q⟩ := h
  exact ⟨hl, O, g, o, rest, dg, xs, e, hO, hd, hg, hc, hv, .inl ⟨d, dg', hS, q⟩⟩
theorem len_BX : ∀ vs H Q E, SpBX n SB SX vs H Q E → vs.length = n := fun _ _ _ _ h => h.1
end
def Inc (s1 s2 : Sp) : Prop := ∀ vs H Q E, s1 vs H Q E → s2 vs H Q E
theorem Inc.refl (s : Sp) : Inc s s := fun _ _ _ _ h => h
/-! ### a new instance, its __init__ raising or not -/
section
variable {ds ds1 ds2 : List Sl} {ta : TA} {xs : List Dt} {n : Nat} {SB : Dt → List Dt → Dt → Dt → Prop} {SX : Dt → List Dt → Addr → Dt → Prop} {E : XK} {C : Addr} {gs : List (Str × Dt)}
variable {F : Gr} {σ : L2.St} {dv : Dt} {Ce : Addr}
theorem dn_makeX {sp : Sp} (ic : Inc (SpBX n SB SX) sp) (h : DA ta ds xs ds1) (hn : xs.length + 1 = n) (hS : SB (.ins C []) xs .non (.ins C gs)) : DN (tMake C sp [] E ta) ds (.ins C gs) ds1 := fun F O σ H S' Q k => h F O σ H S' _ fun O1 vs H1 l1 S1 hv =>
  fun x dx nx ndx ne => ic _ _ _ _ (make_core (E := E) S1 hv hn hS (fun O' p o H' l S2 h1 h2 h3 h4 => k O' p o H' (l1.trans l) S2 h1 h2 h3 h4) x dx nx ndx ne).toX
/-- .. raising -/
theorem make_coreX {O1 : Addr → Prop} {H1 : Hp} {vs : List V} {Q : VK} (S1 : SR F O1 σ H1 ds1) (hv : DvA (gr O1 H1) vs xs) (hn : xs.length + 1 = n) (hS : SX (.ins C []) xs Ce dv)
    (k : ∀ (O' : Addr → Prop) (dd : Addr) (v : V) (H' : Hp), Le O1 H1 O' H' → SR F O' σ H' ds1 → gr O' H' dd (.xd [("value", v)]) → Dv (gr O' H') v dv → E (.ref Ce) (some dd) H') :
    ∀ x dx, H1 x = none → H1 dx = none → dx ≠ x → SpBX n SB SX (.ref x :: (vs ++ [])) (upd (upd H1 dx (.own x)) x (.ins C dx [])) Q E := fun x dx nx ndx ne => by
  have e1 : ∀ a u, H1 a = some u → upd H1 dx (.own x) a = some u := fun a u q => by rw [upd_ne (ne_of_none q ndx)]; exact q
  obtain ⟨l2, S2⟩ := S1.grow e1
  have nx2 : upd H1 dx (.own x) x = none := by rw [upd_ne ne.symm]; exact nx
  obtain ⟨l3, S3⟩ := S2.new (o := .ins C dx []) nx2
  refine ⟨by rw [List.append_nil, List.length_cons, hv.length, hn], fun a => O1 a ∨ a = x, x, _, vs, .ins C [], xs, by rw [List.append_nil], .inr rfl, S3.dom, upd_same, .ins .nil, (hv.mono l2).mono l3, .inr ⟨Ce, dv, hS, fun dd v H' o' hk ho' hdd hd => ?_⟩⟩
  have l4 : Le (fun a => O1 a ∨ a = x) (upd (upd H1 dx (.own x)) x (.ins C dx [])) (fun a => O1 a ∨ a = x) H' := fun b u q => ⟨hk b u (fun z => q.2 (.inr z)) q.1, q.2⟩
  have heldx : ∀ (i : Nat) (s : Sl), ds1[i]? = some s → s.held → σ[i]? ≠ some (some (V.ref x)) := fun i s h1 h2 h3 => by
    have : ∃ u, H1 x = some u := by
      cases s with
      | non => exact h2.elim
      | sh _ => exact h2.elim
      | ow d' =>
        obtain ⟨a, o', e1, _, e2, _⟩ := S1.ow h1
        rw [h3] at e1
        cases e1
        exact ⟨o', e2⟩
      | bo a d' =>
        obtain ⟨o', e1, _, e2, _⟩ := S1.bo h1
        rw [h3] at e1
        cases e1
        exact ⟨o', e2⟩
    obtain ⟨u, e⟩ := this
    rw [nx] at e
    cases e
  have frnx : ∀ u, ¬ F x u := fun u h => by
    have := (S1.frn x u h).2
    rw [nx] at this
    cases this
  refine k _ dd v H' ((l2.trans l3).trans l4) ⟨S3.len, fun i s y h1 h2 => (S3.sl i s y h1 h2).mono l4 fun th b u ex q1 q2 => ⟨q1, hk b u (fun z => ?_) q2⟩, S3.inj, fun b u q => ⟨(S3.frn b u q).1, hk b u (fun z => ?_) (S3.frn b u q).2⟩, S3.hf, fun b hb => ?_⟩ hdd hd
  · subst z; subst ex
    exact heldx i s h1 th h2
  · subst z
    exact frnx u q
  · by_cases e : b = x
    · rw [e]; exact ⟨o', ho'⟩
    · obtain ⟨u, q⟩ := S3.dom b hb
      exact ⟨u, hk b u e q⟩
/-- C(f = .., p = ..): the keywords' values in the other order -/
theorem dn_makeK0 {sp : Sp} (ic : Inc (SpBX n SB SX) sp) (h : DA ta ds xs ds1) (hn : xs.length + 1 = n) (hS : SB (.ins C []) xs.reverse .non (.ins C gs)) {m : Nat} (hm : xs.length = m) : DN (tMakeK C 0 m sp (fun vs zs => vs ++ zs.reverse) E tNil ta) ds (.ins C gs) ds1 := fun F O σ H S' Q k => h F O σ H S' _ fun O1 vs H1 l1 S1 hv =>
  ⟨rfl, by rw [hv.length, hm], fun x dx nx ndx ne => by
    have hr : ∀ {G : Gr} {vs : List V} {xs : List Dt}, DvA G vs xs → DvA G vs.reverse xs.reverse := fun {G vs} => by
      induction vs with
      | nil => intro xs h; cases h; exact .nil
      | cons v vs ih =>
        intro xs h
        cases h with
        | cons h1 h2 =>
          rw [List.reverse_cons, List.reverse_cons]
          exact (ih h2).append (.cons h1 .nil)
    have := (make_core (E := E) (Q := Q) S1 (hr hv) (n := n) (by rw [List.length_reverse]; exact hn) hS (fun O' p o H' l S2 h1 h2 h3 h4 => k O' p o H' (l1.trans l) S2 h1 h2 h3 h4) x dx nx ndx ne).toX (SX := SX)
    rw [List.append_nil] at this
    exact ic _ _ _ _ this⟩
end
/-! ### what is raised is wished for at the caller's slots -/
section
variable {X : Cx} {CX : CXT} {k : Nat} {f C : Addr} {fd : FuncData} {ps : List Str} {sp : Sp} {E : L2.St → XK} {x : Str} {p pos : Pos} {e : Expr} {es : List Expr} {t : TA}
def tMakeS (C : Addr) (sp : Sp) (E : L2.St → XK) (t : TA) : TE := fun σ H Q => tMake C sp [] (E σ) t σ H Q
theorem pe_makeS (M : Mk X.K C f) (F : FnOk X.prog X.w X.K X.mg X.base CX k f fd ps sp) (hr : Room (k + 1) X.A) (hg : Gl X x) (hm : X.mg x = some (.ref C)) (hb : Binds X.K fd ps []) (hx : ∀ σ, PassesAt CX X σ (E σ))
    (ha : PA X (e :: es) t) (hdb : (x == ("__debug__" : Str)) = false := by decide) (he : starEach (e :: es) X.env = (false, eval e X.env) :: starEach es X.env := by rfl) (hpl : (backTo pos (starEach es X.env)).any (·.1) = false := by rfl) :
    PE X (.Call (.Name x p) (e :: es) [] pos) (tMakeS C sp E t) := by
  refine ⟨fun pins s σ H Q I h => wpAny_Call_Name_kw (ld_glob I hg hm ?_ hdb)⟩
  refine PySem.W.callWith_K (h₀ := X.base) I.ok.mod.kin M.kp (thn (ha.run pos pins s σ H _ I h) fun us s1 ⟨vs, H1, I1, r, q⟩ => ⟨I1.kIn, ?_⟩) he hpl
  have hq := q (s1.heap.objs.size + 1) s1.heap.objs.size (I1.hok.fresh (Nat.le_succ _)) (I1.hok.fresh (Nat.le_refl _)) (Nat.ne_of_lt (Nat.lt_succ_self _))
  have I2 := Inv.made (C := C) I1
  have r2 : Vals (V.ref (s1.heap.objs.size + 1) :: (vs ++ [])) (Value.ref (s1.heap.objs.size + 1) :: (us ++ [])) := .cons rfl (r.append .nil)
  have hl : (Value.ref (s1.heap.objs.size + 1) :: us ++ []).length = ps.length := by
    have e := r2.length
    rw [F.len _ _ _ _ hq] at e
    exact e.symm
  refine wpAny_call (make_map (f := f) I1.kIn M.makes M.init (beq_iff_eq.mp M.fn) (codeAny_mono (F.run _ X.stack _ _ ⟨Value.ref (s1.heap.objs.size + 1) :: us, []⟩ (Value.ref (s1.heap.objs.size + 1) :: (us ++ [])) _ _ (E σ) (hr.make C us [])
    (I2.env0.make C us []) (by have z := hb _ (Value.ref (s1.heap.objs.size + 1) :: us) I2.kIn hl; exact z) r2 hq) fun r s' hq' => ?_))
  cases r with
  | error e => exact hx σ pins _ _ e s' I2 hq'
  | ok fl =>
    cases fl with
    | ret u =>
      obtain ⟨v, H', I3, rv, ev, q3⟩ := I2.after hq'
      subst ev
      exact ⟨rv, ⟨V.ref (s1.heap.objs.size + 1), H', I3, rfl, q3⟩⟩
    | next => exact False.elim hq'
    | brk => exact False.elim hq'
    | cont => exact False.elim hq'
end
/-! ### statements that raise -/
def DX (t : TS) (W : WX) (ds : List Sl) (C : Addr) (dv : Dt) (ds' : List Sl) : Prop := ∀ (F : Gr) (O : Addr → Prop) (σ : L2.St) (H : Hp), SR F O σ H ds → ∀ D : Ends,
  (∀ (O' : Addr → Prop) (σ' : L2.St) (H' : Hp) (dd : Addr) (v : V), Le O H O' H' → SR F O' σ' H' ds' → gr O' H' dd (.xd [("value", v)]) → Dv (gr O' H') v dv → W (.ref C) (some dd) σ' H') → t D σ H
section
variable {ds ds1 ds2 ds' : List Sl} {t u : TS} {W : WX} {C : Addr} {dv x : Dt} {tt : TT} {ta : TA} {b : Bool}
theorem dx_seqX (h : DX t W ds C dv ds') : DX (tSeq t u) W ds C dv ds' := fun F O σ H S D k => h F O σ H S { D with nx := u D } k
theorem dx_seq (h : DS t ds (.nx ds1)) (k : DX u W ds1 C dv ds') : DX (tSeq t u) W ds C dv ds' := fun F O σ H S D q => h F O σ H S { D with nx := u D } fun O1 σ1 H1 l1 S1 => k F O1 σ1 H1 S1 D fun O' σ' H' dd v l => q O' σ' H' dd v (l1.trans l)
theorem dx_ifT (h : DT tt ds true ds1) (k : DX t W ds1 C dv ds') : DX (tIfS tt t u) W ds C dv ds' := fun F O σ H S D q => h F O σ H S _ fun O1 H1 l1 S1 => iteT (k F O1 σ H1 S1 D fun O' σ' H' dd v l => q O' σ' H' dd v (l1.trans l))
/-- raise C(x), C's __init__ keeping the value -/
theorem dx_raise (h : DA ta ds [x] ds1) : DX (fun _ σ H => tMkO C (SpE C) [] ta σ H fun cls d H' => W cls d σ H') W ds C x ds1 := fun F O σ H S D k => h F O σ H S _ fun O1 vs H1 l1 S1 hv => by
  obtain ⟨v, rfl, hx⟩ := inv1 hv
  refine ⟨(by decide : 1 ≤ 1000), fun a ha => ⟨a, v, rfl, upd_same, fun dx hdx hne => ⟨rfl, dx, [("value", v)], upd_same, by rw [upd_ne hne, upd_same], ?_, ?_⟩⟩⟩
  · rw [upd_ne hne] at hdx; exact hdx
  · have hdx1 : H1 dx = none := by rw [upd_ne hne] at hdx; exact hdx
    have e : ∀ b o, H1 b = some o → upd (del (upd (upd (upd H1 a (exo a C none)) dx (exd dx [("value", v)])) a (exo a C (some dx))) a) dx (.xd [("value", v)]) b = some o := fun b o q => by
      rw [upd_ne (ne_of_none q hdx1), del_ne (ne_of_none q ha), upd_ne (ne_of_none q ha), upd_ne (ne_of_none q hdx1), upd_ne (ne_of_none q ha)]
      exact q
    obtain ⟨l, S2⟩ := S1.grow e
    exact k O1 σ _ dx v (l1.trans l) S2 ⟨upd_same, S1.fresh hdx1⟩ (hx.mono l)
end
end DL

end

section
set_option Elab.async false
set_option linter.all false
set_option maxRecDepth 100000
set_option autoImplicit false
set_option maxHeartbeats 4000000
/-! an own ==; a body that may raise; what a suite asks of an error -/
namespace DL
open PySem PySem.Spec PyProof.Rows L2
/-! ### an own == -/
def rOwn (K : PySem.W.Frag) (C : Addr) (sp : Sp) : R2 := fun x y H Q => ∃ (a dx : Addr) (fs : List (Str × V)) (tb : Value), x = .ref a ∧ H a = some (.ins C dx fs) ∧ TyX K H y tb ∧ PySem.W.notFirst K C tb = true ∧ sp [x, y] H (fun v H' => ∃ b, v = .bl b ∧ Q (.bl b) H') E0
section
variable {X : Cx} {CX : CXT} {n : Nat} {C f : Addr} {fd : FuncData} {ps : List Str} {sp : Sp}
theorem op_own (F : FnOk X.prog X.w X.K X.mg X.base CX n f fd ps sp) (hs : PySem.W.findIn X.K (.ref C) "__eq__" = some (some (.ref f))) (hf : PySem.W.isFn X.K (.ref f) = true) (hb : Binds X.K fd ps []) (hx : Passes CX X E0) (hr : Room n X.A) : OpR X (compareOp .Eq) (rOwn X.K C sp) := by
  intro pins s σ H x y v u Q I rx ry h
  obtain ⟨a, dx, fs, tb, rfl, ha, ty, hn, hsp⟩ := h
  obtain rfl : v = Value.ref a := rx
  obtain ⟨mA, J, _⟩ := ins_get I.hok ha
  obtain ⟨od, J, _⟩ := J.look
  obtain ⟨m, hF⟩ := I.fr
  obtain ⟨P, Z, hP, _⟩ := kit_of I ry ty
  refine PySem.W.cmp_ofEq (PySem.W.cmp_K (op := .Eq) (tb := tb) hr.units0 hF I.ok.mod.kin J (Z.ty _ _ I.kIn hP) hn hs hf ?_)
  have hl := F.len _ _ _ _ hsp
  refine wpAny_call (codeAny_mono (F.run X.A X.stack s H ⟨[.ref a, u], []⟩ [.ref a, u] [.ref a, y] _ E0 hr I.env0 (by
    have := hb s [.ref a, u] I.kIn (by simpa using hl)
    simpa using this) (.cons rfl (.cons ry .nil)) hsp) fun r s' hq => ?_)
  cases r with
  | error e => exact hx pins σ H s e s' I hq
  | ok fl =>
    cases fl with
    | ret w =>
      obtain ⟨z, H', I', rz, b, ez, q⟩ := I.after hq
      subst ez
      obtain rfl : w = Value.bool b := rz
      exact ⟨.bl b, H', I', rfl, q⟩
    | next => exact False.elim hq
    | brk => exact False.elim hq
    | cont => exact False.elim hq
end
section
variable {K : PySem.W.Frag} {ds ds1 ds2 : List Sl} {ta tb : TE} {C : Addr} {gs : List (Str × Dt)} {y : Dt} {b : Bool} {S : List Dt → Dt → Prop}
theorem de_own (ha : DE ta ds (.ins C gs) ds1) (hb : DE tb ds1 y ds2) (hk : Kinded K y) (hn : PySem.W.notFirst K C (tyD y) = true) (hS : S [.ins C gs, y] (.bl b)) : DE (tOp (rOwn K C (SpP 2 S)) ta tb) ds (.bl b) ds2 := fun F O σ H Sr Q k =>
  ha F O σ H Sr _ fun O1 v H1 l1 S1 hv => hb F O1 σ H1 S1 _ fun O2 w H2 l2 S2 hw => by
    obtain ⟨a, dx, fs, rfl, g, kf⟩ := inv_ins (hv.mono l2)
    refine ⟨a, dx, fs, tyD y, rfl, g.1, tyX_of gr_get hw hk, hn, rfl, O2, _, .bl b, S2.dom, .cons (hv.mono l2) (.cons hw .nil), hS, fun v' H' hg hd => ⟨b, inv_bl hd, ?_⟩⟩
    obtain ⟨l3, S3⟩ := S2.grow hg
    exact k O2 _ H' ((l1.trans l2).trans l3) S3 (.bl b)
end
/-! ### a body that may raise -/
theorem sr_startB {O : Addr → Prop} {H : Hp} {N : List Str} {g : Addr} {o : HO} {dg : Dt} {rest : List V} {xs : List Dt} (hN : 0 < N.length) (hOg : O g) (hd : ∀ a, O a → ∃ o, H a = some o) (hg : H g = some o) (hc : Cell (gr O H) o dg) (hv : DvA (gr O H) rest xs) :
    SR (fun a u => (O a ∧ a ≠ g) ∧ H a = some u) O (L2.start N (.ref g :: rest)) H (.bo g dg :: (xs.map Sl.sh ++ List.replicate (N.length - (xs.length + 1)) Sl.non)) := by
  have e1 : L2.start N (.ref g :: rest) = some (.ref g) :: (rest.map some ++ List.replicate (N.length - (rest.length + 1)) none) := rfl
  have B := sr_start (F := fun a u => (O a ∧ a ≠ g) ∧ H a = some u) (N := N.drop 1) hv (fun a o h => ⟨h.1.1, h.2⟩) hd
  have e2 : L2.start (N.drop 1) rest = rest.map some ++ List.replicate (N.length - (rest.length + 1)) none := by
    unfold L2.start
    rw [List.length_drop, show N.length - 1 - rest.length = N.length - (rest.length + 1) by omega]
  have e3 : startD (N.drop 1) xs = xs.map Sl.sh ++ List.replicate (N.length - (xs.length + 1)) Sl.non := by
    unfold startD
    rw [List.length_drop, show N.length - 1 - xs.length = N.length - (xs.length + 1) by omega]
  rw [e2, e3] at B
  rw [e1]
  have nh : ∀ (i : Nat) (s : Sl), (xs.map Sl.sh ++ List.replicate (N.length - (xs.length + 1)) Sl.non)[i]? = some s → ¬ s.held := fun i s h hh => by
    rcases List.mem_append.mp (List.mem_of_getElem? h) with z | z
    · obtain ⟨d, _, rfl⟩ := List.mem_map.mp z
      exact hh
    · rw [(List.mem_replicate.mp z).2] at hh
      exact hh
  refine ⟨by rw [List.length_cons, List.length_cons, B.len], fun i s x h1 h2 => ?_, fun i j s t a hn h1 h2 h3 h4 h5 h6 => ?_, B.frn, fun i s a u h1 h2 h3 h => ?_, hd⟩
  · cases i with
    | zero =>
      cases h1; cases h2
      exact ⟨o, rfl, hOg, hg, hc⟩
    | succ i => exact B.sl i s x h1 h2
  · cases i with
    | zero =>
      cases j with
      | zero => exact hn rfl
      | succ j => exact nh j t h2 h4
    | succ i => exact nh i s h1 h3
  · cases i with
    | zero =>
      cases h3
      exact h.1.2 rfl
    | succ i => exact nh i s h1 h2
theorem go_BX {t : TS} {N : List Str} {n : Nat} {vs : List V} {H : Hp} {Q : VK} {E : XK} {SB : Dt → List Dt → Dt → Dt → Prop} {SX : Dt → List Dt → Addr → Dt → Prop} (h : SpBX n SB SX vs H Q E) (hN : 0 < N.length)
    (k : ∀ g dg xs d dg', SB dg xs d dg' → FinX t (.bo g dg :: (xs.map Sl.sh ++ List.replicate (N.length - (xs.length + 1)) Sl.non)) fun _ e ds' => e = d ∧ ds'[0]? = some (.bo g dg'))
    (kx : ∀ g dg xs C dv, SX dg xs C dv → ∃ ds' dg', DX t (fun cls d _ H => E cls d H) (.bo g dg :: (xs.map Sl.sh ++ List.replicate (N.length - (xs.length + 1)) Sl.non)) C dv ds' ∧ ds'[0]? = some (.bo g dg')) :
    t { nx := fun _ H' => Q .non H', rt := Q } (L2.start N vs) H := by
  obtain ⟨hl, O, g, o, rest, dg, xs, rfl, hO, hd, hg, hc, hv, h | h⟩ := h
  · obtain ⟨d, dg', hS, q⟩ := h
    exact go_B (n := n) (E := E) ⟨hl, O, g, o, rest, dg, xs, d, dg', rfl, hO, hd, hg, hc, hv, hS, q⟩ hN k
  · obtain ⟨C, dv, hS, q⟩ := h
    obtain ⟨ds', dg', hx, e0⟩ := kx g dg xs C dv hS
    refine hx _ O _ H (sr_startB hN hO hd hg hc hv) _ fun O' σ' H' dd v l S hdd hdv => ?_
    obtain ⟨o', e1, e2, e3, e4⟩ := S.bo e0
    have bk : ∀ a u, gr O' H' a u → gr O H' a u := fun a u h => ⟨h.1, fun z => by
      obtain ⟨w, e⟩ := hd a z
      by_cases ea : a = g
      · exact h.2 (by rw [ea]; exact e2)
      · exact h.2 (S.frn a w ⟨⟨z, ea⟩, e⟩).1⟩
    refine q dd v H' o' (fun a u hn e => ?_) e3 (bk _ _ hdd) (hdv.mono bk)
    by_cases hO : O a
    · exact (S.frn a u ⟨⟨hO, hn⟩, e⟩).2
    · exact (l a u ⟨e, hO⟩).1
/-! ### isinstance(error, C) -/
def rIsD (K : PySem.W.Frag) (a : Addr) (cls : Value) (d : Option Addr) : List V → Hp → VK → Prop := fun xs H Q => ∃ (D C dd : Addr) (fs : List (Str × V)) (b : Bool), xs = [.ref a, .ref C] ∧ cls = .ref D ∧ d = some dd ∧ H dd = some (.xd fs) ∧ ExcC K D ∧ PySem.W.kitOne K (.ref D) (.ref C) = some b ∧ Q (.bl b) H
theorem kitx_excD {K : PySem.W.Frag} {x D : Addr} {ox : Obj} (T : ExcC K D) : PySem.W.KitX K (.ref x) (.ref D) (fun h => ∃ od, PySem.W.InstAt h x ox D od) where
  ty := fun _ _ _ ⟨_, I⟩ => I.type
  it := fun M h X _ => by
    obtain ⟨cd, hc, _⟩ := PySem.W.any_some T.hd
    obtain ⟨o, ho, hod⟩ := clsIn_obj hc
    intro A' Q' E' s' k q
    obtain ⟨hp, g, d, t, os⟩ := s'
    exact ks_wpAny_isType_cls (k _ _ (X _ _ ho)) hod q
  ne := fun h tp dd its n sl X htp => (PySem.W.handS_kitx_exc (x := x) (ox := ox) T.hg T.hk T.hs T.hd T.ha T.hn T.ht T.hm).ne h tp dd its n sl X htp
  ca := fun X ⟨od, I⟩ k => PySem.W.kx_classE X I T.hg T.hk T.hs (PySem.W.findObj_dataE (by obtain ⟨cd, hc, _⟩ := PySem.W.any_some T.hd; rw [hc]; rfl) T.ha T.hn T.ht) T.hm k
theorem call_isD {X : Cx} {a : Addr} {cls : Value} {d : Option Addr} {oe : Obj} {pn : List (Addr × Obj)} (hz : Zc cls d oe) (hf : ∃ vs, oe.data = .fields vs) : CallR (X.suite a ((a, oe) :: pn)) (.builtin "isinstance") (rIsD X.K a cls d) := by
  intro pins s σ H xs us Q I r h
  obtain ⟨D, C, dd, fs, b, rfl, rfl, rfl, ea, T, e, q⟩ := h
  cases r with
  | cons rx rr =>
    cases rr with
    | cons rt rr =>
      cases rr
      cases rx
      cases rt
      obtain ⟨hget, _⟩ := I.pin (a, oe) (List.mem_append.mpr (.inl List.mem_cons_self))
      obtain ⟨vs, hv⟩ := hf
      have hx : ObjOk X.prog X.w H s.heap dd (.xd fs) := I.hok dd _ ea
      obtain ⟨mA, hns, hr⟩ := hx
      obtain ⟨od, ho, hl⟩ := lookIn_ns hns
      have J : PySem.W.InstAt s.heap a oe D (some od) := ⟨hget, hz.1, by unfold PySem.W.notCls; rw [hv] <;> rfl, by rw [hz.2]; exact ho⟩
      exact PySem.W.kia_one (kitx_excD (x := a) (ox := oe) T) I.kIn ⟨_, J⟩ e (fun z => nomatch z) fun tk => ⟨.bl b, H, I.kept (t' := tk) fun _ _ z => z, rfl, q⟩
/-! ### in a suite: the dict of the error stands at dd -/
section
variable {F : Gr} {O : Addr → Prop} {σ : L2.St} {H : Hp} {ds : List Sl} {K : PySem.W.Frag}
/-- isinstance(error, C) -/
theorem sx_is {a D C dd : Addr} {fs : List (Str × V)} {b : Bool} {i : Nat} {Q : Bool → Hp → Prop} (S : SR F O σ H ds) (hi : ds[i]? = some (.sh (.kon a))) (hd : H dd = some (.xd fs)) (T : ExcC K D) (hk : PySem.W.kitOne K (.ref D) (.ref C) = some b) (k : Q b H) :
    tB (tCB (rIsD K a (.ref D) (some dd)) (tCons (tVar i) (tCons (tC (.ref C)) tNil))) σ H Q := by
  obtain ⟨v, e, hv⟩ := S.sh hi
  rw [inv_kon hv] at e
  exact ⟨_, e, D, C, dd, fs, b, rfl, rfl, rfl, hd, T, hk, b, rfl, k⟩
/-- error.value -/
theorem sx_val {a D dd : Addr} {v : V} {i : Nat} {Q : VK} (S : SR F O σ H ds) (hi : ds[i]? = some (.sh (.kon a))) (hd : H dd = some (.xd [("value", v)])) (k : Q v H) : tXf a (.ref D) (some dd) D "value" (tVar i) σ H Q := by
  obtain ⟨w, e, hv⟩ := S.sh hi
  rw [inv_kon hv] at e
  exact ⟨_, e, rfl, rfl, dd, _, v, rfl, hd, by simp [List.lookup], k⟩
end
/-! ### try: x = C(..) except .. as e: .. -/
section
variable {K : PySem.W.Frag} {ds ds1 : List Sl} {ta : TA} {xs : List Dt} {n : Nat} {SB : Dt → List Dt → Dt → Dt → Prop} {SX : Dt → List Dt → Addr → Dt → Prop} {C Ce : Addr} {gs : List (Str × Dt)} {dv : Dt} {c : Value} {i j : Nat} {ts : Addr → Value → Option Addr → TS} {Wout : WX}
theorem ds_tryN {sp : Sp} (ic : Inc (SpBX n SB SX) sp) (h : DA ta ds xs ds1) (hn : xs.length + 1 = n) (hS : SB (.ins C []) xs .non (.ins C gs)) :
    DS (fun D σ H => tAsg (tMakeS C sp (WE (wAs K c i ts Wout D)) ta) (gName j) D σ H) ds (.nx (ds1.set j (.sh (.ins C gs)))) := fun F O σ H S D k =>
  (ds_set (i := j) (DE.ofN (dn_makeX ic (E := WE (wAs K c i ts Wout D) σ) h hn hS))) F O σ H S D k
theorem ds_tryX {dsE : List Sl} {sp : Sp} (ic : Inc (SpBX n SB SX) sp) (h : DA ta ds xs ds1) (hn : xs.length + 1 = n) (hS : SX (.ins C []) xs Ce dv) (hb : PySem.W.exmOne K (.ref Ce) c = some true)
    (suite : ∀ (F : Gr) (O' : Addr → Prop) (σ' : L2.St) (H' : Hp) (a dd : Addr) (v : V), SR F O' σ' H' (ds1.set i (.sh (.kon a))) → gr O' H' dd (.xd [("value", v)]) → Dv (gr O' H') v dv →
      ∀ D' : Ends, (∀ (O2 : Addr → Prop) (σ2 : L2.St) (H2 : Hp), Le O' H' O2 H2 → SR F O2 σ2 H2 dsE → D'.nx σ2 H2) → ts a (.ref Ce) (some dd) D' σ' H') :
    DS (fun D σ H => tAsg (tMakeS C sp (WE (wAs K c i ts Wout D)) ta) (gName j) D σ H) ds (.nx (dsE.set i .non)) := fun F O σ H S D k =>
  h F O σ H S _ fun O1 vs H1 l1 S1 hv => fun x dx h1 h2 h3 => ic _ _ _ _ (make_coreX (SB := SB) (Q := fun v H2 => v = V.non ∧ gName j (V.ref x) σ H2 D.nx) (E := WE (wAs K c i ts Wout D) σ) S1 hv hn hS (fun O' dd v H' l S2 hdd hdv => ⟨true, hb, fun _ a ha =>
    suite F O' _ H' a dd v (S2.setSh (.kon a)) hdd hdv _ fun O2 σ2 H2 l2 S3 => k O2 _ H2 ((l1.trans l).trans l2) (by
      have := S3.wipe (vs := [i])
      exact this), fun z => nomatch z⟩) x dx h1 h2 h3)
end
end DL

end

section
set_option Elab.async false
set_option linter.all false
set_option maxRecDepth 100000
set_option autoImplicit false
/-! mirrors: what the program's small functions are worth -/
namespace Mi
open L2
def lastI (xs : List Int) : Int := (xs.getLast?).getD 0
def cTrim (xs : List Int) : Bool := !decide (xs = []) && decide (lastI xs = 0)
def trim (xs : List Int) : List Int := DL.whl cTrim List.dropLast xs.length xs
/-- rests by p, without the noughts behind -/
def norm (p : Int) (xs : List Int) : List Int := trim (xs.map (· % p))
def gI (xs : List Int) (i : Nat) : Int := (xs[i]?).getD 0
theorem atI_gI {xs : List Int} {i : Nat} (h : i < xs.length) : atI xs (i : Int) = some (gI xs i) := by
  unfold gI
  rw [atI_nat (v := xs[i]) (by simp [h])]
  simp [h]
theorem atI_lastI {xs : List Int} (h : xs ≠ []) : atI xs (-1) = some (lastI xs) := by
  have e := atI_last (xs.dropLast) (xs.getLast h)
  rw [List.dropLast_concat_getLast] at e
  rw [e]
  unfold lastI
  rw [List.getLast?_eq_some_getLast h]
  rfl
theorem trim_stop (xs : List Int) : cTrim (trim xs) = false := by
  refine DL.whl_done cTrim List.dropLast List.length (fun _ => True) (fun a _ h => ⟨trivial, ?_⟩) xs.length xs trivial (Nat.le_refl _)
  unfold cTrim at h
  rw [Bool.and_eq_true_iff] at h
  have h1 : a ≠ [] := by simpa using h.1
  rw [List.length_dropLast]
  have := List.length_pos_iff.mpr h1
  omega
theorem cTrim_ne {xs : List Int} (h : cTrim xs = true) : xs ≠ [] := by
  unfold cTrim at h
  rw [Bool.and_eq_true_iff] at h
  simpa using h.1
theorem whl_len (n : Nat) : ∀ xs : List Int, (DL.whl cTrim List.dropLast n xs).length ≤ xs.length := by
  induction n with
  | zero => intro xs; exact Nat.le_refl _
  | succ n ih =>
    intro xs
    unfold DL.whl
    split
    · refine Nat.le_trans (ih _) ?_
      rw [List.length_dropLast]
      omega
    · exact Nat.le_refl _
theorem trim_len (xs : List Int) : (trim xs).length ≤ xs.length := whl_len _ xs
theorem whl_mem (n : Nat) : ∀ (xs : List Int) (x : Int), x ∈ DL.whl cTrim List.dropLast n xs → x ∈ xs := by
  induction n with
  | zero => intro xs x h; exact h
  | succ n ih =>
    intro xs x h
    unfold DL.whl at h
    split at h
    · exact (List.dropLast_sublist _).subset (ih _ x h)
    · exact h
theorem trim_mem {xs : List Int} {x : Int} (h : x ∈ trim xs) : x ∈ xs := whl_mem _ xs x h
theorem norm_len (p : Int) (xs : List Int) : (norm p xs).length ≤ xs.length := by
  have := trim_len (xs.map (· % p))
  rw [List.length_map] at this
  exact this
theorem norm_mem {p : Int} (hp : 0 < p) {xs : List Int} {x : Int} (h : x ∈ norm p xs) : 0 ≤ x ∧ x < p := by
  obtain ⟨y, _, rfl⟩ := List.mem_map.mp (trim_mem h)
  exact ⟨Int.emod_nonneg _ (by omega), Int.emod_lt_of_pos _ hp⟩
theorem gI_mem {xs : List Int} {i : Nat} (h : i < xs.length) : gI xs i ∈ xs := by
  unfold gI
  simp [h]
abbrev CMul1 (x : Int) : Prop := -(2 ^ 64) < x ∧ x < 2 ^ 64
theorem gZ_gI (xs : List Int) (k : Nat) : DL.gZ xs (k : Int) = gI xs k := DL.gZ_nat xs k
theorem gZ_last {xs : List Int} : DL.gZ xs (-1) = lastI xs := by
  by_cases h : xs = []
  · subst h; rfl
  · unfold DL.gZ
    rw [atI_lastI h]; rfl
/-! sums -/
def szI (a b : List Int) : Int := if (b.length : Int) > a.length then b.length else a.length
def addL (a b : List Int) : List Int := (List.range (szI a b).toNat).map fun i => gI (a ++ List.replicate (szI a b - a.length).toNat 0) i + gI (b ++ List.replicate (szI a b - b.length).toNat 0) i
def padd (p : Int) (a b : List Int) : List Int := norm p (addL a b)
def pneg (p : Int) (a : List Int) : List Int := norm p (a.map fun x => 0 - x)
def psub (p : Int) (a b : List Int) : List Int := padd p a (pneg p b)
def pscale (p : Int) (a : List Int) (n : Int) : List Int := norm p (a.map fun x => x * n)
theorem szI_le (a b : List Int) : (a.length : Int) ≤ szI a b ∧ (b.length : Int) ≤ szI a b ∧ szI a b ≤ a.length + b.length := by
  unfold szI
  split <;> omega
theorem addL_len (a b : List Int) : ((addL a b).length : Int) = szI a b := by
  unfold addL
  have := szI_le a b
  rw [List.length_map, List.length_range]
  omega
theorem padd_len (p : Int) (a b : List Int) : (padd p a b).length ≤ a.length + b.length := by
  have h1 := norm_len p (addL a b)
  have h2 := addL_len a b
  have h3 := szI_le a b
  unfold padd
  omega
theorem pneg_len (p : Int) (a : List Int) : (pneg p a).length ≤ a.length := by
  have h1 := norm_len p (a.map fun x => 0 - x)
  rw [List.length_map] at h1
  exact h1
theorem psub_len (p : Int) (a b : List Int) : (psub p a b).length ≤ a.length + b.length := by
  have h1 := padd_len p a (pneg p b)
  have h2 := pneg_len p b
  unfold psub
  omega
/-! products -/
def mulStep2 (at1 : Nat) (low : Int) (found : List Int) (q : Nat × Int) : List Int := DL.setZ found ((at1 : Int) + (q.1 : Int)) (DL.gZ found ((at1 : Int) + (q.1 : Int)) + low * q.2)
theorem mulStep2_eq (at1 : Nat) (low : Int) (found : List Int) (q : Nat × Int) : mulStep2 at1 low found q = found.set (at1 + q.1) (gI found (at1 + q.1) + low * q.2) := by
  unfold mulStep2
  rw [← Int.natCast_add, gZ_gI, DL.setZ_nat]
def mulStep (b : List Int) (found : List Int) (q : Nat × Int) : List Int := (DL.idx 0 b).foldl (mulStep2 q.1 q.2) found
def mulL (a b : List Int) : List Int := (DL.idx 0 a).foldl (mulStep b) (List.replicate ((a.length : Int) + (b.length : Int)).toNat 0)
def pmul (p : Int) (a b : List Int) : List Int := norm p (mulL a b)
theorem foldl_len {β : Type} (f : List Int → β → List Int) (h : ∀ l x, (f l x).length = l.length) : ∀ (xs : List β) (l : List Int), (xs.foldl f l).length = l.length
  | [], _ => rfl
  | x :: r, l => by rw [List.foldl_cons, foldl_len f h r, h]
theorem mulStep_len (b found : List Int) (q : Nat × Int) : (mulStep b found q).length = found.length := foldl_len _ (fun l x => DL.setZ_len _ _ _) _ _
theorem mulL_len (a b : List Int) : (mulL a b).length = a.length + b.length := by
  unfold mulL
  rw [foldl_len _ (mulStep_len b), List.length_replicate]
  omega
theorem pmul_len (p : Int) (a b : List Int) : (pmul p a b).length ≤ a.length + b.length := by
  have := norm_len p (mulL a b)
  rw [mulL_len] at this
  exact this
/-! inverses -/
def invs (p n : Int) : List Int := ((List.range (p - 1).toNat).filter fun k : Nat => decide ((1 + (k : Int)) * n % p = 1)).map fun k : Nat => 1 + (k : Int)
def inv (p n : Int) : Int := gI (invs p n) 0
def isInv (p n : Int) : Prop := invs p n ≠ []
/-! division -/
abbrev mxI (i j : Int) : Int := if j > i then j else i
def parAt (one other : List Int) (k : Nat) : Int := (one.length : Int) - (other.length : Int) + (k : Int) * -1
def parNum (p : Int) (other : List Int) (back a : Int) (r : List Int) : Int := DL.gZ r (a + (other.length : Int) - 1) * back % p
def parStep2 (p a n : Int) (r : List Int) (q : Nat × Int) : List Int := DL.setZ r (a + (q.1 : Int)) ((DL.gZ r (a + (q.1 : Int)) - n * q.2) % p)
def parRow (p a n : Int) (other r : List Int) : List Int := (DL.idx 0 other).foldl (parStep2 p a n) r
def parStep (p : Int) (one other : List Int) (back : Int) (s : List Int × List Int) (k : Nat) : List Int × List Int :=
  (parRow p (parAt one other k) (parNum p other back (parAt one other k) s.1) other s.1, DL.setZ s.2 (parAt one other k) (parNum p other back (parAt one other k) s.1))
def parN (one other : List Int) : Nat := ((one.length : Int) - (other.length : Int) - (-1)).toNat
def parL (p : Int) (one other : List Int) : List Int × List Int :=
  (List.range (parN one other)).foldl (parStep p one other (inv p (DL.gZ other (-1)))) (one, List.replicate (mxI ((one.length : Int) - (other.length : Int) + 1) 0).toNat 0)
def parQ (p : Int) (one other : List Int) : List Int := norm p (parL p one other).2
def parR (p : Int) (one other : List Int) : List Int := norm p (parL p one other).1
theorem parRow_len (p a n : Int) (other r : List Int) : (parRow p a n other r).length = r.length := foldl_len _ (fun l x => DL.setZ_len _ _ _) _ _
theorem parStep_len (p : Int) (one other : List Int) (back : Int) (s : List Int × List Int) (k : Nat) : (parStep p one other back s k).1.length = s.1.length ∧ (parStep p one other back s k).2.length = s.2.length := ⟨parRow_len _ _ _ _ _, DL.setZ_len _ _ _⟩
end Mi

end

section
set_option Elab.async false
set_option linter.all false
set_option maxRecDepth 100000
set_option autoImplicit false
namespace Mi
open L2 DL
theorem idx_lt {γ : Type} {l : List γ} {i : Nat} {q : Nat × γ} (h : (idx 0 l)[i]? = some q) : q.1 < l.length := by
  have h1 := idx_get _ _ _ _ h
  have h3 := (List.getElem?_eq_some_iff.mp h1.2).1
  omega
theorem inv_mem {p n : Int} (h : isInv p n) : inv p n ∈ invs p n := gI_mem (List.length_pos_iff.mpr h)
theorem inv_bd {p n : Int} (h : isInv p n) : 1 ≤ inv p n ∧ inv p n < p ∧ inv p n * n % p = 1 := by
  have h1 := inv_mem h
  unfold invs at h1
  obtain ⟨k, hk, e⟩ := List.mem_map.mp h1
  obtain ⟨hk1, hk2⟩ := List.mem_filter.mp hk
  have := List.mem_range.mp hk1
  rw [← e]
  exact ⟨by omega, by omega, by simpa using hk2⟩
theorem parNum_bd {p : Int} (hp : 0 < p) (other : List Int) (back a : Int) (r : List Int) : 0 ≤ parNum p other back a r ∧ parNum p other back a r < p := ⟨Int.emod_nonneg _ (by omega), Int.emod_lt_of_pos _ hp⟩
theorem parF_len (p : Int) (one other : List Int) (back : Int) : ∀ (l : List Nat) (s : List Int × List Int), (l.foldl (parStep p one other back) s).1.length = s.1.length ∧ (l.foldl (parStep p one other back) s).2.length = s.2.length
  | [], _ => ⟨rfl, rfl⟩
  | k :: l, s => by
    have h1 := parF_len p one other back l (parStep p one other back s k)
    have h2 := parStep_len p one other back s k
    exact ⟨h1.1.trans h2.1, h1.2.trans h2.2⟩
theorem parL_len (p : Int) (one other : List Int) : (parL p one other).1.length = one.length ∧ (parL p one other).2.length ≤ one.length + 1 := by
  have h := parF_len p one other (inv p (gZ other (-1))) (List.range (parN one other)) (one, List.replicate (mxI ((one.length : Int) - (other.length : Int) + 1) 0).toNat 0)
  refine ⟨h.1, ?_⟩
  have h2 : (parL p one other).2.length = _ := h.2
  rw [h2, List.length_replicate]
  unfold mxI
  split <;> omega
end Mi

end

section
set_option Elab.async false
set_option linter.all false
set_option maxRecDepth 100000
set_option autoImplicit false
/-! coefficients -/
namespace Mi
open L2 DL
theorem gI_nil (i : Nat) : gI [] i = 0 := by unfold gI; simp
theorem gI_zero (x : Int) (r : List Int) : gI (x :: r) 0 = x := by unfold gI; simp
theorem gI_succ (x : Int) (r : List Int) (i : Nat) : gI (x :: r) (i + 1) = gI r i := by unfold gI; simp
theorem gI_ge {xs : List Int} {i : Nat} (h : xs.length ≤ i) : gI xs i = 0 := by
  unfold gI
  rw [List.getElem?_eq_none h]; rfl
theorem gI_lt {xs : List Int} {i : Nat} (h : i < xs.length) : gI xs i = xs[i] := by
  unfold gI
  simp [h]
theorem gI_map (f : Int → Int) (h0 : f 0 = 0) (xs : List Int) (i : Nat) : gI (xs.map f) i = f (gI xs i) := by
  unfold gI
  rw [List.getElem?_map]
  cases xs[i]? with
  | none => exact h0.symm
  | some x => rfl
theorem gI_set (xs : List Int) (k : Nat) (v : Int) (i : Nat) : gI (xs.set k v) i = if i = k ∧ k < xs.length then v else gI xs i := by
  by_cases h : i = k
  · subst h
    by_cases h2 : i < xs.length
    · rw [if_pos ⟨rfl, h2⟩]
      unfold gI
      rw [List.getElem?_set_self h2]; rfl
    · rw [if_neg (fun z => h2 z.2), List.set_eq_of_length_le (by omega)]
  · rw [if_neg (fun z => h z.1)]
    unfold gI
    rw [List.getElem?_set_ne (Ne.symm h)]
theorem gI_rep (n : Nat) (i : Nat) : gI (List.replicate n 0) i = 0 := by
  unfold gI
  rw [List.getElem?_replicate]
  split <;> rfl
theorem gI_app (xs ys : List Int) (i : Nat) : gI (xs ++ ys) i = if i < xs.length then gI xs i else gI ys (i - xs.length) := by
  unfold gI
  by_cases h : i < xs.length
  · rw [if_pos h, List.getElem?_append_left h]
  · rw [if_neg h, List.getElem?_append_right (by omega)]
theorem lastI_gI (xs : List Int) : lastI xs = gI xs (xs.length - 1) := by
  unfold lastI gI
  rw [List.getLast?_eq_getElem?]
theorem gI_dropLast {xs : List Int} (h : lastI xs = 0) (i : Nat) : gI xs.dropLast i = gI xs i := by
  by_cases h1 : i < xs.length - 1
  · unfold gI
    rw [List.getElem?_dropLast, if_pos h1]
  · rw [gI_ge (by rw [List.length_dropLast]; omega)]
    by_cases h2 : i < xs.length
    · rw [show i = xs.length - 1 by omega, ← lastI_gI, h]
    · rw [gI_ge (by omega)]
theorem gI_whl (n : Nat) : ∀ (xs : List Int) (i : Nat), gI (whl cTrim List.dropLast n xs) i = gI xs i := by
  induction n with
  | zero => intro xs i; rfl
  | succ n ih =>
    intro xs i
    unfold whl
    split
    · rename_i h
      rw [ih]
      unfold cTrim at h
      rw [Bool.and_eq_true_iff] at h
      exact gI_dropLast (by simpa using h.2) i
    · rfl
theorem gI_trim (xs : List Int) (i : Nat) : gI (trim xs) i = gI xs i := gI_whl _ xs i
theorem gI_norm (p : Int) (xs : List Int) (i : Nat) : gI (norm p xs) i = gI xs i % p := by
  unfold norm
  rw [gI_trim, gI_map (fun x => x % p) (Int.zero_emod p)]
/-- no noughts behind -/
def Nz (xs : List Int) : Prop := cTrim xs = false
theorem nz_norm (p : Int) (xs : List Int) : Nz (norm p xs) := trim_stop _
theorem nz_last {xs : List Int} (h : Nz xs) (hn : xs ≠ []) : gI xs (xs.length - 1) ≠ 0 := by
  unfold Nz cTrim at h
  rw [← lastI_gI]
  simpa [hn] using h
theorem nz_len {xs : List Int} {m : Nat} (h : Nz xs) (k : ∀ i, m ≤ i → gI xs i = 0) : xs.length ≤ m := by
  by_cases hn : xs = []
  · rw [hn]; exact Nat.zero_le _
  · have h1 := nz_last h hn
    by_cases h2 : xs.length ≤ m
    · exact h2
    · exact absurd (k _ (by omega)) h1
theorem nz_ext {xs ys : List Int} (h1 : Nz xs) (h2 : Nz ys) (k : ∀ i, gI xs i = gI ys i) : xs = ys := by
  have l1 : xs.length ≤ ys.length := nz_len h1 fun i hi => by rw [k, gI_ge hi]
  have l2 : ys.length ≤ xs.length := nz_len h2 fun i hi => by rw [← k, gI_ge hi]
  refine List.ext_getElem (by omega) fun i h3 h4 => ?_
  rw [← gI_lt h3, ← gI_lt h4, k]
/-- rests by p, no noughts behind -/
structure Nm (p : Int) (xs : List Int) : Prop where
  bd : ∀ x ∈ xs, 0 ≤ x ∧ x < p
  nz : Nz xs
theorem nm_norm {p : Int} (hp : 0 < p) (xs : List Int) : Nm p (norm p xs) := ⟨fun x h => norm_mem hp h, nz_norm p xs⟩
theorem Nm.gI {p : Int} {xs : List Int} (hp : 0 < p) (h : Nm p xs) (i : Nat) : 0 ≤ Mi.gI xs i ∧ Mi.gI xs i < p := by
  by_cases hi : i < xs.length
  · exact h.bd _ (gI_mem hi)
  · rw [gI_ge (by omega)]; omega
theorem Nm.mod {p : Int} {xs : List Int} (hp : 0 < p) (h : Nm p xs) (i : Nat) : Mi.gI xs i % p = Mi.gI xs i := Int.emod_eq_of_lt (h.gI hp i).1 (h.gI hp i).2
theorem Nm.eq {p : Int} {xs ys : List Int} (h1 : Nm p xs) (h2 : Nm p ys) (k : ∀ i, Mi.gI xs i = Mi.gI ys i) : xs = ys := nz_ext h1.nz h2.nz k
theorem Nm.nil (p : Int) : Nm p [] := ⟨fun _ h => by simp at h, rfl⟩
theorem Nm.lead {p : Int} {xs : List Int} (hp : 0 < p) (h : Nm p xs) (hn : xs ≠ []) : 0 < gZ xs (-1) ∧ gZ xs (-1) < p := by
  rw [gZ_last, lastI_gI]
  have h1 := h.gI hp (xs.length - 1)
  have h2 := nz_last h.nz hn
  omega
/-! the small primes -/
def PP (p : Int) : Prop := p = 3 ∨ p = 5 ∨ p = 7 ∨ p = 11 ∨ p = 13
theorem PP.bd {p : Int} (h : PP p) : 0 < p ∧ p < 1000 := by unfold PP at h; omega
instance (p n : Int) : Decidable (isInv p n) := inferInstanceAs (Decidable (invs p n ≠ []))
theorem isInv_all : ∀ p ∈ [(3 : Int), 5, 7, 11, 13], ∀ n ∈ List.range 13, (n : Int) < p → 0 < n → isInv p (n : Int) := by decide +kernel
theorem PP.inv {p n : Int} (h : PP p) (h1 : 0 < n) (h2 : n < p) : isInv p n := by
  have hp := h.bd
  have := isInv_all p (by unfold PP at h; simp; omega) n.toNat (List.mem_range.mpr (by unfold PP at h; omega)) (by omega) (by omega)
  rwa [Int.toNat_of_nonneg (by omega)] at this
theorem Nm.inv {p : Int} {xs : List Int} (hp : PP p) (h : Nm p xs) (hn : xs ≠ []) : isInv p (gZ xs (-1)) := hp.inv (h.lead hp.bd.1 hn).1 (h.lead hp.bd.1 hn).2
/-! division's rows -/
theorem row_go (p n : Int) (A : Nat) : ∀ (other : List Int) (m : Nat) (r : List Int), A + m + other.length ≤ r.length → ∀ i, gI ((idx m other).foldl (parStep2 p (A : Int) n) r) i = if A + m ≤ i ∧ i < A + m + other.length then (gI r i - n * gI other (i - (A + m))) % p else gI r i
  | [], m, r, h, i => by
    rw [if_neg (by simp only [List.length_nil]; omega)]; rfl
  | x :: l, m, r, h, i => by
    rw [List.length_cons] at h
    have hr : parStep2 p (A : Int) n r (m, x) = r.set (A + m) ((gI r (A + m) - n * x) % p) := by
      unfold parStep2
      rw [← Int.natCast_add, gZ_gI, setZ_nat]
    show gI ((idx (m + 1) l).foldl (parStep2 p (A : Int) n) (parStep2 p (A : Int) n r (m, x))) i = _
    rw [hr, row_go p n A l (m + 1) _ (by rw [List.length_set]; omega), gI_set]
    rw [List.length_cons]
    by_cases h1 : i = A + m
    · subst h1
      rw [if_neg (by omega), if_pos ⟨rfl, by omega⟩, if_pos (by omega), Nat.sub_self, gI_zero]
    · have e0 : ∀ v : Int, (if i = A + m ∧ A + m < r.length then v else gI r i) = gI r i := fun v => if_neg fun z => h1 z.1
      rw [e0]
      by_cases h2 : A + m ≤ i ∧ i < A + m + (l.length + 1)
      · rw [if_pos (by omega), if_pos h2, show i - (A + m) = (i - (A + (m + 1))) + 1 by omega, gI_succ]
      · rw [if_neg (by omega), if_neg h2]
theorem gI_row (p n : Int) (A : Nat) (other r : List Int) (h : A + other.length ≤ r.length) (i : Nat) : gI (parRow p (A : Int) n other r) i = if A ≤ i ∧ i < A + other.length then (gI r i - n * gI other (i - A)) % p else gI r i := row_go p n A other 0 r h i
/-- one row of the division, by coefficients -/
def red (p : Int) (other : List Int) (back : Int) (A : Nat) (c : Nat → Int) : Nat → Int := fun i =>
  if A ≤ i ∧ i < A + other.length then (c i - c (A + other.length - 1) * back % p * gI other (i - A)) % p else c i
/-- rows from A - 1 down to 0 -/
def reds (p : Int) (other : List Int) (back : Int) : Nat → (Nat → Int) → Nat → Int
  | 0, c => c
  | A + 1, c => reds p other back A (red p other back A c)
theorem red_top {p : Int} {other : List Int} {back : Int} (hb : back * gI other (other.length - 1) % p = 1) (ho : 0 < other.length) (A : Nat) (c : Nat → Int) : red p other back A c (A + other.length - 1) = 0 := by
  unfold red
  rw [if_pos (by omega), show A + other.length - 1 - A = other.length - 1 by omega]
  generalize c (A + other.length - 1) = x
  generalize gI other (other.length - 1) = y at hb ⊢
  have h1 : (x * back % p * y) % p = x % p := by
    rw [Int.mul_emod, Int.emod_emod, ← Int.mul_emod, Int.mul_assoc, Int.mul_emod, hb, Int.mul_one, Int.emod_emod]
  rw [Int.sub_emod, h1, Int.sub_self, Int.zero_emod]
theorem reds_top {p : Int} {other : List Int} {back : Int} (hb : back * gI other (other.length - 1) % p = 1) (ho : 0 < other.length) : ∀ (A : Nat) (c : Nat → Int), (∀ i, A + other.length - 1 ≤ i → c i = 0) → ∀ i, other.length - 1 ≤ i → reds p other back A c i = 0
  | 0, c, h, i, hi => h i (by omega)
  | A + 1, c, h, i, hi => by
    unfold reds
    refine reds_top hb ho A _ (fun j hj => ?_) i hi
    by_cases e : j = A + other.length - 1
    · rw [e]; exact red_top hb ho A c
    · unfold red
      rw [if_neg (by omega)]
      exact h j (by omega)
theorem gI_pstep {p : Int} {one other : List Int} {back : Int} {s : List Int × List Int} {k A : Nat} (h1 : s.1.length = one.length) (ho : 0 < other.length) (hA : A + k + other.length = one.length) (i : Nat) : gI (parStep p one other back s k).1 i = red p other back A (gI s.1) i := by
  have ha : parAt one other k = (A : Int) := by unfold parAt; omega
  unfold parStep
  show gI (parRow p (parAt one other k) (parNum p other back (parAt one other k) s.1) other s.1) i = _
  rw [ha, gI_row p (parNum p other back (A : Int) s.1) A other s.1 (by omega) i]
  unfold red parNum
  rw [show (A : Int) + (other.length : Int) - 1 = ((A + other.length - 1 : Nat) : Int) by omega, gZ_gI]
theorem red_congr {p : Int} {other : List Int} {back : Int} {A : Nat} {c d : Nat → Int} (h : ∀ i, c i = d i) (i : Nat) : red p other back A c i = red p other back A d i := by
  rw [show c = d from funext h]
theorem reds_congr {p : Int} {other : List Int} {back : Int} {A : Nat} {c d : Nat → Int} (h : ∀ i, c i = d i) (i : Nat) : reds p other back A c i = reds p other back A d i := by
  rw [show c = d from funext h]
theorem gI_fold {p : Int} {one other : List Int} {back : Int} (ho : 0 < other.length) : ∀ (A k : Nat) (s : List Int × List Int), s.1.length = one.length → A + k + other.length = one.length + 1 → ∀ i, gI (((List.range' k A).foldl (parStep p one other back) s).1) i = reds p other back A (gI s.1) i
  | 0, k, s, _, _, i => by
    rw [List.range'_zero]
    unfold reds
    rfl
  | A + 1, k, s, h1, hA, i => by
    rw [List.range'_succ, List.foldl_cons, gI_fold ho A (k + 1) _ ((parStep_len _ _ _ _ _ _).1.trans h1) (by omega)]
    show _ = reds p other back A (red p other back A (gI s.1)) i
    exact reds_congr (fun j => gI_pstep (k := k) (A := A) h1 ho (by omega) j) i
/-- how many rows -/
def rows (one other : List Int) : Nat := one.length + 1 - other.length
theorem gI_parL {p : Int} {one other : List Int} (ho : 0 < other.length) (i : Nat) : gI (parL p one other).1 i = reds p other (inv p (gZ other (-1))) (rows one other) (gI one) i := by
  unfold parL rows
  by_cases h : other.length ≤ one.length + 1
  · have e : parN one other = one.length + 1 - other.length := by unfold parN; omega
    rw [e, List.range_eq_range']
    exact gI_fold (one := one) ho (one.length + 1 - other.length) 0 (one, List.replicate (mxI ((one.length : Int) - (other.length : Int) + 1) 0).toNat 0) rfl (by show _ + 0 + _ = _; omega) i
  · have e : parN one other = 0 := by unfold parN; omega
    rw [e, show one.length + 1 - other.length = 0 by omega]
    rfl
theorem gI_parR {p : Int} {one other : List Int} (ho : 0 < other.length) (i : Nat) : gI (parR p one other) i = reds p other (inv p (gZ other (-1))) (rows one other) (gI one) i % p := by
  unfold parR
  rw [gI_norm, gI_parL ho]
theorem lead_gI (xs : List Int) : gZ xs (-1) = gI xs (xs.length - 1) := by rw [gZ_last, lastI_gI]
theorem parR_len {p : Int} {one other : List Int} (ho : other ≠ []) (hi : isInv p (gZ other (-1))) : (parR p one other).length < other.length := by
  have hpos := List.length_pos_iff.mpr ho
  have hb := (inv_bd hi).2.2
  have : (parR p one other).length ≤ other.length - 1 := by
    refine nz_len (nz_norm _ _) fun i h => ?_
    rw [gI_parR hpos, reds_top (by rw [← lead_gI]; exact hb) hpos _ _ (fun j hj => gI_ge (by unfold rows at hj; omega)) i h]
    exact Int.zero_emod p
  omega
theorem nm_parR {p : Int} (hp : 0 < p) (one other : List Int) : Nm p (parR p one other) := nm_norm hp _
theorem nm_parQ {p : Int} (hp : 0 < p) (one other : List Int) : Nm p (parQ p one other) := nm_norm hp _
theorem parQ_len (p : Int) (one other : List Int) : (parQ p one other).length ≤ one.length + 1 := Nat.le_trans (norm_len _ _) (parL_len p one other).2
theorem padd_max (p : Int) (a b : List Int) (m : Nat) (h1 : a.length ≤ m) (h2 : b.length ≤ m) : (padd p a b).length ≤ m := by
  have h3 := norm_len p (addL a b)
  have h4 := addL_len a b
  have h5 : szI a b ≤ m := by unfold szI; split <;> omega
  unfold padd
  omega
theorem psub_max (p : Int) (a b : List Int) (m : Nat) (h1 : a.length ≤ m) (h2 : b.length ≤ m) : (psub p a b).length ≤ m := padd_max p a _ m h1 (Nat.le_trans (pneg_len p b) h2)
end Mi

end

section
set_option Elab.async false
set_option linter.all false
set_option maxRecDepth 100000
set_option autoImplicit false
/-! the common factor -/
namespace Mi
open L2 DL
theorem whl_inv {α : Type} (c : α → Bool) (f : α → α) (I : α → Prop) (h : ∀ a, I a → c a = true → I (f a)) : ∀ (n : Nat) (a : α), I a → I (whl c f n a)
  | 0, a, h0 => h0
  | n + 1, a, h0 => by
    unfold whl
    by_cases e : c a = true
    · rw [if_pos e]; exact whl_inv c f I h n _ (h a h0 e)
    · rw [if_neg e]; exact h0
abbrev T3 := List Int × List Int × List Int
abbrev t3 (x : T3) : Dt := .tup [.li x.1, .li x.2.1, .li x.2.2]
def euT (s : T3 × T3) : Bool := !decide (s.2.1 = [])
def euS (p : Int) (s : T3 × T3) : T3 × T3 := (s.2, (parR p s.1.1 s.2.1, psub p s.1.2.1 (pmul p (parQ p s.1.1 s.2.1) s.2.2.1), psub p s.1.2.2 (pmul p (parQ p s.1.1 s.2.1) s.2.2.2)))
def euE (p : Int) (one other : List Int) : T3 × T3 := whl euT (euS p) other.length ((one, [1], []), (other, [], [1]))
def comE (p : Int) (E : T3 × T3) : T3 :=
  if E.1.1 = [] then ([], [], [])
  else (pscale p E.1.1 (inv p (gZ E.1.1 (-1))), pscale p E.1.2.1 (inv p (gZ E.1.1 (-1))), pscale p E.1.2.2 (inv p (gZ E.1.1 (-1))))
def com (p : Int) (one other : List Int) : T3 := comE p (euE p one other)
/-- what the loop keeps -/
structure EuI (p : Int) (s : T3 × T3) : Prop where
  n1 : Nm p s.1.1
  n2 : Nm p s.2.1
  l1 : s.1.1.length ≤ 20
  l2 : s.2.1.length ≤ 20
  a1 : s.1.2.1.length + s.2.1.length * 21 ≤ 421
  a2 : s.1.2.2.length + s.2.1.length * 21 ≤ 421
  b1 : s.2.2.1.length + s.2.1.length * 21 ≤ 421
  b2 : s.2.2.2.length + s.2.1.length * 21 ≤ 421
/-- what a turn may lean on -/
structure EuF (p : Int) (s : T3 × T3) : Prop where
  ne : s.2.1 ≠ []
  iv : isInv p (gZ s.2.1 (-1))
  q : (parQ p s.1.1 s.2.1).length ≤ 21
  r : (parR p s.1.1 s.2.1).length < s.2.1.length
  nr : Nm p (parR p s.1.1 s.2.1)
  qb : ∀ x ∈ parQ p s.1.1 s.2.1, CMul1 x
  m1 : (pmul p (parQ p s.1.1 s.2.1) s.2.2.1).length ≤ 21 + s.2.2.1.length
  m2 : (pmul p (parQ p s.1.1 s.2.1) s.2.2.2).length ≤ 21 + s.2.2.2.length
theorem Nm.cm {p : Int} {xs : List Int} (hp : p < 1000) (h : Nm p xs) : ∀ x ∈ xs, CMul1 x := fun x hx => by
  have := h.bd x hx
  exact ⟨by omega, by omega⟩
theorem EuI.facts {p : Int} (hp : PP p) {s : T3 × T3} (h : EuI p s) (hc : euT s = true) : EuF p s := by
  have ne : s.2.1 ≠ [] := by unfold euT at hc; simpa using hc
  have iv := h.n2.inv hp ne
  have q : (parQ p s.1.1 s.2.1).length ≤ 21 := Nat.le_trans (parQ_len _ _ _) (by have := h.l1; omega)
  exact ⟨ne, iv, q, parR_len ne iv, nm_parR hp.bd.1 _ _, (nm_parQ hp.bd.1 _ _).cm hp.bd.2, Nat.le_trans (pmul_len _ _ _) (by omega), Nat.le_trans (pmul_len _ _ _) (by omega)⟩
theorem EuI.step {p : Int} (hp : PP p) {s : T3 × T3} (h : EuI p s) (hc : euT s = true) : EuI p (euS p s) ∧ (euS p s).2.1.length < s.2.1.length := by
  have f := h.facts hp hc
  have hL : 1 ≤ s.2.1.length := List.length_pos_iff.mpr f.ne
  have nr := f.nr
  have q1 := f.r; have q2 := h.l2; have q3 := f.m1; have q4 := f.m2; have q5 := h.a1; have q6 := h.a2; have q7 := h.b1; have q8 := h.b2
  have c1 := psub_max p s.1.2.1 (pmul p (parQ p s.1.1 s.2.1) s.2.2.1) (421 - (s.2.1.length - 1) * 21) (by omega) (by omega)
  have c2 := psub_max p s.1.2.2 (pmul p (parQ p s.1.1 s.2.1) s.2.2.2) (421 - (s.2.1.length - 1) * 21) (by omega) (by omega)
  have n2 := h.n2
  clear h f hc
  unfold euS
  obtain ⟨⟨a1, a2, a3⟩, b1, b2, b3⟩ := s
  dsimp only at *
  generalize parR p a1 b1 = r at *
  generalize psub p a2 (pmul p (parQ p a1 b1) b2) = x at *
  generalize psub p a3 (pmul p (parQ p a1 b1) b3) = y at *
  refine ⟨⟨n2, nr, q2, ?_, ?_, ?_, ?_, ?_⟩, q1⟩
  all_goals dsimp only
  all_goals omega
theorem EuI.start {p : Int} {one other : List Int} (h1 : Nm p one) (h2 : Nm p other) (l1 : one.length ≤ 20) (l2 : other.length ≤ 19) : EuI p ((one, [1], []), (other, [], [1])) := by
  refine ⟨h1, h2, l1, Nat.le_trans l2 (by decide), ?_, ?_, ?_, ?_⟩
  · show 1 + other.length * 21 ≤ 421
    omega
  · show 0 + other.length * 21 ≤ 421
    omega
  · show 0 + other.length * 21 ≤ 421
    omega
  · show 1 + other.length * 21 ≤ 421
    omega
theorem eu_stop {p : Int} (hp : PP p) {one other : List Int} (h1 : Nm p one) (h2 : Nm p other) (l1 : one.length ≤ 20) (l2 : other.length ≤ 19) : euT (euE p one other) = false :=
  whl_done euT (euS p) (fun s => s.2.1.length) (EuI p) (fun a h hc => h.step hp hc) other.length _ (EuI.start h1 h2 l1 l2) (Nat.le_refl _)
theorem eu_inv {p : Int} (hp : PP p) {one other : List Int} (h1 : Nm p one) (h2 : Nm p other) (l1 : one.length ≤ 20) (l2 : other.length ≤ 19) : EuI p (euE p one other) :=
  whl_inv euT (euS p) (EuI p) (fun a h hc => (h.step hp hc).1) other.length _ (EuI.start h1 h2 l1 l2)
theorem cut_len {α : Type} (xs : List α) (lo hi : Option Int) : (cut xs lo hi).length ≤ xs.length := by
  unfold cut
  rw [List.length_take, List.length_drop]
  omega
theorem idx_mem {γ : Type} {l : List γ} {q : Nat × γ} (h : q ∈ idx 0 l) : q.1 < l.length ∧ q.2 ∈ l := by
  obtain ⟨i, h⟩ := List.mem_iff_getElem?.mp h
  exact ⟨idx_lt h, List.mem_of_getElem? (idx_get _ _ _ _ h).2⟩
/-- the slope -/
def slope (p : Int) (one : List Int) : List Int := norm p (cut ((idx 0 one).map fun q => (q.1 : Int) * q.2) (some 1) none)
end Mi

end

section
set_option Elab.async false
set_option linter.all false
set_option maxRecDepth 100000
set_option autoImplicit false
/-! values that are handed in: what the tests say of them -/
namespace Mi
open PySem L2 DL
def isWh : Dt → Bool
  | .int _ => true
  | _ => false
def Sc (d : Dt) : Prop := d = .non ∨ (∃ b, d = .bl b) ∨ (∃ i, d = .int i) ∨ ∃ s, d = .str s
def isBt (v : Dt) (lo hi : Int) : Bool := match v with
  | .int i => decide (i ≥ lo) && decide (i ≤ hi)
  | _ => false
/-- the rests by p -/
def okI (p i : Int) : Bool := decide (i ≥ 0) && decide (i ≤ p - 1)
def polL (p : Int) (xs : List Int) : Bool := decide (xs.length ≤ 61) && (decide (xs.filter (fun i => !okI p i) = []) && (decide (xs = []) || !decide (gZ xs (-1) = 0)))
def pol (p : Int) (v : Dt) : Bool := match v with
  | .li xs => polL p xs
  | _ => false
/-- the values that are tried -/
inductive Vk : Dt → Prop
  | li (xs : List Int) (h : xs.length ≤ 100) : Vk (.li xs)
  | rep (d : Dt) (n : Nat) (h : n ≤ 50) (hd : d = .non ∨ d = .bl true) : Vk (.lst (List.replicate (n + 1) d))
  | non : Vk .non
  | str (s : PySem.Str) : Vk (.str s)
  | tup (ds : List Dt) : Vk (.tup ds)
def crvL (p : Int) (xs : List Int) : Bool := polL p xs && (inV (.int (xs.length : Int)) [.int 2, .int 4, .int 6, .int 8] && (decide (gZ xs (-1) = 1) && decide ((com p xs (slope p xs)).1 = [1])))
def crv (p : Int) (v : Dt) : Bool := match v with
  | .li xs => crvL p xs
  | _ => false
theorem polL_nm {p : Int} {xs : List Int} (h : polL p xs = true) : Nm p xs ∧ xs.length ≤ 61 := by
  unfold polL at h
  rw [Bool.and_eq_true_iff, Bool.and_eq_true_iff] at h
  obtain ⟨h1, h2, h3⟩ := h
  refine ⟨⟨fun x hx => ?_, ?_⟩, of_decide_eq_true h1⟩
  · have h4 := of_decide_eq_true h2
    rw [List.filter_eq_nil_iff] at h4
    have h5 := h4 x hx
    simp [okI] at h5
    omega
  · unfold Nz cTrim
    rw [gZ_last] at h3
    by_cases e : xs = []
    · simp [e]
    · simpa [e] using h3
end Mi
namespace Mi
open PySem L2 DL
theorem isWh_no {v : Dt} (h : ¬ ∃ i, v = .int i) (hs : Sc v) : isWh v = false := by
  rcases hs with rfl | ⟨b, rfl⟩ | ⟨i, rfl⟩ | ⟨x, rfl⟩
  · rfl
  · rfl
  · exact absurd ⟨i, rfl⟩ h
  · rfl
theorem isBt_no {v : Dt} (h : ¬ ∃ i, v = .int i) (lo hi : Int) : isBt v lo hi = false := by
  unfold isBt
  split
  · exact absurd ⟨_, rfl⟩ h
  · rfl
theorem DEq {te : TE} {ds ds' : List Sl} {b : Bool} (h : DE te ds (.bl (false || b)) ds') : DE te ds (.bl b) ds' := h
theorem DEq2 {te : TE} {ds ds' : List Sl} {a b : Bool} (e : a = b) (h : DE te ds (.bl a) ds') : DE te ds (.bl b) ds' := e ▸ h
theorem rep_sc {d x : Dt} {n : Nat} (hd : d = .non ∨ d = .bl true) (h : x ∈ List.replicate n d) : Sc x := by
  rw [(List.mem_replicate.mp h).2]
  rcases hd with rfl | rfl
  · exact .inl rfl
  · exact .inr (.inl ⟨_, rfl⟩)
theorem rep_bt {d x : Dt} {n : Nat} {lo hi : Int} (hd : d = .non ∨ d = .bl true) (h : x ∈ List.replicate n d) : (!isBt x lo hi) = true := by
  rw [(List.mem_replicate.mp h).2]
  rcases hd with rfl | rfl <;> rfl
theorem toPys_rep (d : Dt) : ∀ n : Nat, toPys (List.replicate n d) = List.replicate n (toPy d)
  | 0 => rfl
  | n + 1 => by
    rw [List.replicate_succ, List.replicate_succ]
    unfold toPys
    rw [toPys_rep d n]
theorem plains_rep {d : Dt} (h : plain d = true) : ∀ n : Nat, plains (List.replicate n d) = true
  | 0 => rfl
  | n + 1 => by
    rw [List.replicate_succ]
    unfold plains
    rw [h, plains_rep h n]
    rfl
theorem lay_rep {d : PyData} (h : d.canLay0 = true) : ∀ n : Nat, PyData.canLayAll0 (List.replicate n d) = true
  | 0 => rfl
  | n + 1 => by
    rw [List.replicate_succ]
    unfold PyData.canLayAll0
    rw [h, lay_rep h n]
    rfl
theorem depth_rep {d : PyData} (h : d.depth = 0) : ∀ n : Nat, PyData.depthAll (List.replicate n d) = 0
  | 0 => rfl
  | n + 1 => by
    rw [List.replicate_succ]
    unfold PyData.depthAll
    rw [h, depth_rep h n]
    rfl
theorem rep_shp {d : Dt} {n : Nat} (hd : d = .non ∨ d = .bl true) (hn : n ≤ 50) : shp (.lst (((List.replicate (n + 1) d).filter fun _ => true).map fun d => d)) = true := by
  have e : ((List.replicate (n + 1) d).filter fun _ => true).map (fun d => d) = List.replicate (n + 1) d := by simp
  rw [e]
  have h1 : plain d = true := by rcases hd with rfl | rfl <;> (unfold DL.plain; rfl)
  have h2 : (toPy d).canLay0 = true := by rcases hd with rfl | rfl <;> (unfold toPy PyData.canLay0; rfl)
  have h3 : (toPy d).depth = 0 := by rcases hd with rfl | rfl <;> (unfold toPy PyData.depth; rfl)
  unfold shp
  rw [show plain (.lst (List.replicate (n + 1) d)) = true by unfold DL.plain; exact plains_rep h1 _, Bool.true_and]
  unfold toPy
  rw [toPys_rep]
  unfold SeqAt.shaped
  rw [show PyData.canLay0 (.list (List.replicate (n + 1) (toPy d))) = true by unfold PyData.canLay0; exact lay_rep h2 _, Bool.true_and]
  refine decide_eq_true ?_
  unfold PyData.depth
  rw [depth_rep h3]
  decide
theorem rep_ne {d : Dt} {n : Nat} (hd : d = .non ∨ d = .bl true) : (!PyData.eqv (toPy (.lst (((List.replicate (n + 1) d).filter fun _ => true).map fun d => d))) (toPy (.lst []))) = true := by
  have e : ((List.replicate (n + 1) d).filter fun _ => true).map (fun d => d) = List.replicate (n + 1) d := by simp
  rw [e]
  unfold toPy
  rw [toPys_rep]
  rfl
theorem RDeq {r : R2} {x y : Dt} {a b : Bool} (e : a = b) (h : RD r x y (.bl a)) : RD r x y (.bl b) := e ▸ h
theorem polL_1 {p : Int} {xs : List Int} (h : ¬ xs.length ≤ 61) : polL p xs = false := by
  unfold polL
  rw [decide_eq_false h]
  rfl
theorem polL_2 {p : Int} {xs : List Int} (h : ¬ xs.filter (fun i => !okI p i) = []) : polL p xs = false := by
  unfold polL
  rw [decide_eq_false h]
  simp
theorem polL_3 {p : Int} {xs : List Int} (h1 : xs.length ≤ 61) (h : xs.filter (fun i => !okI p i) = []) : polL p xs = (decide (xs = []) || !decide (gZ xs (-1) = 0)) := by
  unfold polL
  rw [decide_eq_true h, decide_eq_true h1]
  rfl
/-- a list's length is told -/
def Lv (v : Dt) : Prop := match v with
  | .li xs => xs.length ≤ 100
  | _ => True
theorem pol_no {p : Int} {v : Dt} (h : ¬ ∃ xs, v = .li xs) : pol p v = false := by
  unfold pol
  split
  · exact absurd ⟨_, rfl⟩ h
  · rfl
theorem crv_no {p : Int} {v : Dt} (h : ¬ ∃ xs, v = .li xs) : crv p v = false := by
  unfold crv
  split
  · exact absurd ⟨_, rfl⟩ h
  · rfl
theorem nm_slope {p : Int} (hp : 0 < p) (xs : List Int) : Nm p (slope p xs) := nm_norm hp _
theorem slope_len (p : Int) (xs : List Int) : (slope p xs).length ≤ xs.length := by
  refine Nat.le_trans (norm_len _ _) (Nat.le_trans (cut_len _ _ _) ?_)
  rw [List.length_map, idx_len]
  exact Nat.le_refl _
end Mi

end

section
set_option Elab.async false
set_option linter.all false
set_option maxRecDepth 100000
set_option autoImplicit false
set_option maxHeartbeats 4000000
/-! great powers, bit_length, == of unlike flat things -/
namespace DL
open PySem PySem.Spec PyProof.Rows L2
def CPowW (i j : Int) : Prop := 0 ≤ j ∧ (Builtin.Int.intBits i : Int) * j ≤ 2 ^ 27
theorem op_powW {X : Cx} : OpR X (binaryOp .Pow) (rI CPowW fun i j => .int (i ^ j.toNat)) := opI fun _ _ _ _ _ _ _ hc q => pow_int hc.1 hc.2 q
section
variable {K : PySem.W.Frag} {ds ds1 : List Sl} {te : TE} {i j : Int} {s : PySem.Str}
theorem rd_powW (h : CPowW i j) : RD (rI CPowW fun i j => .int (i ^ j.toNat)) (.int i) (.int j) (.int (i ^ j.toNat)) := rd_I h
theorem de_bits (h : DE te ds (.int i) ds1) : DE (tBits te) ds (.int (Builtin.Int.intBits i : Nat)) ds1 := fun F O σ H S Q k => h F O σ H S _ fun O1 v H1 l1 S1 hv => ⟨i, inv_int hv, k O1 _ H1 l1 S1 (.int _)⟩
theorem rd_eqNS : RD rEq .non (.str s) (.bl false) := fun G H v w _ hv hw Q k => by
  rw [inv_non hv, inv_str hw]
  refine ⟨rfl, ?_⟩
  have e : decide (V.non = V.str s) = false := by simp
  rw [e]
  exact k _ (.bl _)
theorem bits_small {b : Int} (h0 : 0 < b) (h1 : b < 536870912) : (1 + (Builtin.Int.intBits b : Nat) / (30 : Int)).toNat = 1 := by
  have h2 : b.natAbs.log2 < 29 := (Nat.log2_lt (by omega)).mpr (by omega)
  have h3 : Builtin.Int.intBits b < 30 := by
    unfold Builtin.Int.intBits
    split <;> omega
  omega
end
section
variable {wi : TI} {g : TG} {tb : TS} {x : Dt} {ds ds0 ds' : List Sl} {xs ys : List Dt}
theorem DW.eq (h : DW wi ds xs ds0) (e : xs = ys) : DW wi ds ys ds0 := e ▸ h
/-- a loop over one thing -/
theorem ds_once (hw : DW wi ds [x] ds0) (h : Turned g tb x ds0 ds') : DS (tFor wi g tb) ds (.nx ds') :=
  ds_for hw (fun i => if i = 0 then ds0 else ds') rfl (fun i y hy => by
    cases i with
    | zero =>
      cases hy
      exact h
    | succ i => simp at hy) rfl
end
end DL

end

section
set_option Elab.async false
set_option linter.all false
set_option maxRecDepth 100000
set_option autoImplicit false
set_option maxHeartbeats 4000000
/-! one argument held, given back as it was -/
namespace DL
open PySem PySem.Spec PyProof.Rows L2
def SpU (s1 s2 : Sp) : Sp := fun vs H Q E => s1 vs H Q E ∨ s2 vs H Q E
theorem Inc.l (s1 s2 : Sp) : Inc s1 (SpU s1 s2) := fun _ _ _ _ h => .inl h
theorem Inc.r (s1 s2 : Sp) : Inc s2 (SpU s1 s2) := fun _ _ _ _ h => .inr h
theorem len_U {s1 s2 : Sp} {n : Nat} (h1 : ∀ vs H Q E, s1 vs H Q E → vs.length = n) (h2 : ∀ vs H Q E, s2 vs H Q E → vs.length = n) : ∀ vs H Q E, SpU s1 s2 vs H Q E → vs.length = n := fun vs H Q E h => h.elim (h1 vs H Q E) (h2 vs H Q E)
/-- argument 1 is held, its content is dj, ahead and behind -/
def SpH (n : Nat) (S : Dt → Dt → List Dt → Dt → Prop) : Sp := fun vs H Q _ => vs.length = n ∧ ∃ (O : Addr → Prop) (a : Addr) (o : HO) (v0 : V) (rest : List V) (x0 dj : Dt) (xr : List Dt) (d : Dt), (∀ a, O a → ∃ o, H a = some o) ∧ vs = v0 :: .ref a :: rest ∧ O a ∧ H a = some o ∧ Cell (gr O H) o dj ∧ Dv (gr O H) v0 x0 ∧ DvA (gr O H) rest xr ∧ S x0 dj xr d ∧
  ∀ v H' o', (∀ b u, b ≠ a → H b = some u → H' b = some u) → H' a = some o' → Cell (gr O H') o' dj → Dv (gr O H') v d → Q v H'
theorem len_H {n : Nat} {S : Dt → Dt → List Dt → Dt → Prop} : ∀ vs H Q E, SpH n S vs H Q E → vs.length = n := fun _ _ _ _ h => h.1
/-- an __init__ of two arguments, the second one held -/
def SpI (S : Dt → Dt → Dt → Dt → Dt → Prop) : Sp := fun vs H Q _ => ∃ (O : Addr → Prop) (g a : Addr) (o oa : HO) (v1 : V) (dg x1 dj d dg' : Dt), (∀ a, O a → ∃ o, H a = some o) ∧ vs = [.ref g, v1, .ref a] ∧ g ≠ a ∧ O g ∧ O a ∧ H g = some o ∧ Cell (gr O H) o dg ∧ H a = some oa ∧ Cell (gr O H) oa dj ∧ Dv (gr O H) v1 x1 ∧ S dg x1 dj d dg' ∧
  ∀ v H' o' oa', (∀ b u, b ≠ g → b ≠ a → H b = some u → H' b = some u) → H' g = some o' → Cell (gr O H') o' dg' → H' a = some oa' → Cell (gr O H') oa' dj → Dv (gr O H') v d → Q v H'
theorem len_I {S : Dt → Dt → Dt → Dt → Dt → Prop} : ∀ vs H Q E, SpI S vs H Q E → vs.length = 3 := fun _ _ _ _ h => by
  obtain ⟨O, g, a, o, oa, v1, dg, x1, dj, d, dg', _, rfl, _⟩ := h
  rfl
/-- the entry: the arguments as slots -/
theorem sr_startM {O : Addr → Prop} {H : Hp} {N : List Str} {vs : List V} {ms : List Sl} (hl : vs.length = ms.length) (hs : ∀ (i : Nat) (s : Sl) (v : V), ms[i]? = some s → vs[i]? = some v → SlOk O H (some v) s)
    (hd : ∀ (i j : Nat) (s t : Sl) (a : Addr), i ≠ j → ms[i]? = some s → ms[j]? = some t → s.held → t.held → vs[i]? = some (.ref a) → vs[j]? = some (.ref a) → False) (dom : ∀ a, O a → ∃ o, H a = some o) :
    SR (fun a u => (O a ∧ ∀ (i : Nat) (s : Sl), ms[i]? = some s → s.held → vs[i]? ≠ some (.ref a)) ∧ H a = some u) O (L2.start N vs) H (ms ++ List.replicate (N.length - ms.length) Sl.non) := by
  have gl : ∀ {i : Nat} {s : Sl}, (ms ++ List.replicate (N.length - ms.length) Sl.non)[i]? = some s → ms[i]? = some s ∨ s = .non := fun {i s} h => by
    by_cases hi : i < ms.length
    · rw [List.getElem?_append_left hi] at h
      exact .inl h
    · rw [List.getElem?_append_right (by omega)] at h
      exact .inr (List.mem_replicate.mp (List.mem_of_getElem? h)).2
  have gv : ∀ {i : Nat} {s : Sl} {x : Option V}, ms[i]? = some s → (L2.start N vs)[i]? = some x → ∃ v, vs[i]? = some v ∧ x = some v := fun {i s x} h h2 => by
    have hi : i < vs.length := by rw [hl]; exact (List.getElem?_eq_some_iff.mp h).1
    unfold L2.start at h2
    rw [List.getElem?_append_left (by rw [List.length_map]; exact hi), List.getElem?_map] at h2
    cases e : vs[i]? with
    | none => rw [e] at h2; cases h2
    | some v => rw [e] at h2; cases h2; exact ⟨v, rfl, rfl⟩
  refine ⟨by unfold L2.start; rw [List.length_append, List.length_append, List.length_map, List.length_replicate, List.length_replicate, hl], fun i s x h1 h2 => ?_, fun i j s t a hn h1 h2 h3 h4 h5 h6 => ?_, fun a u h => ⟨h.1.1, h.2⟩, fun i s a u h1 h2 h3 h => ?_, dom⟩
  · rcases gl h1 with z | rfl
    · obtain ⟨v, e, rfl⟩ := gv z h2
      exact hs i s v z e
    · trivial
  · rcases gl h1 with z | rfl
    · rcases gl h2 with z2 | rfl
      · obtain ⟨v, e, q⟩ := gv z h5
        obtain ⟨v2, e2, q2⟩ := gv z2 h6
        cases q; cases q2
        exact hd i j s t a hn z z2 h3 h4 e e2
      · exact h4
    · exact h3
  · rcases gl h1 with z | rfl
    · obtain ⟨v, e, q⟩ := gv z h3
      cases q
      exact h.1.2 i s z h2 e
    · exact h2
section
variable {t : TS} {N : List Str} {n : Nat} {vs : List V} {H : Hp} {Q : VK} {E : XK}
theorem go_H {S : Dt → Dt → List Dt → Dt → Prop} (h : SpH n S vs H Q E) (k : ∀ a x0 dj xr d, S x0 dj xr d → Fin t ((.sh x0 :: .bo a dj :: xr.map Sl.sh) ++ List.replicate (N.length - (xr.length + 2)) Sl.non) fun _ e ds' => e = d ∧ ds'[1]? = some (.bo a dj)) :
    t { nx := fun _ H' => Q .non H', rt := Q } (L2.start N vs) H := by
  obtain ⟨hl, O, a, o, v0, rest, x0, dj, xr, d, dom, rfl, hO, ha, hc, h0, hr, hS, q⟩ := h
  have S0 := sr_startM (N := N) (vs := v0 :: .ref a :: rest) (ms := .sh x0 :: .bo a dj :: xr.map Sl.sh) (by simp [hr.length]) (fun i s v h1 h2 => by
    match i, h1, h2 with
    | 0, h1, h2 => cases h1; cases h2; exact ⟨_, rfl, h0⟩
    | 1, h1, h2 => cases h1; cases h2; exact ⟨o, rfl, hO, ha, hc⟩
    | i + 2, h1, h2 =>
      have h1 : (xr.map Sl.sh)[i]? = some s := h1
      have h2 : rest[i]? = some v := h2
      rw [List.getElem?_map] at h1
      obtain ⟨x, e, hx⟩ := hr.getV h2
      rw [e] at h1
      cases h1
      exact ⟨v, rfl, hx⟩) (fun i j s t b hn h1 h2 h3 h4 _ _ => by
    have only : ∀ (i : Nat) (s : Sl), (Sl.sh x0 :: Sl.bo a dj :: xr.map Sl.sh)[i]? = some s → s.held → i = 1 := fun i s h hh => by
      match i, h with
      | 0, h => cases h; exact hh.elim
      | 1, h => rfl
      | i + 2, h =>
        have h : (xr.map Sl.sh)[i]? = some s := h
        obtain ⟨x, _, rfl⟩ := List.mem_map.mp (List.mem_of_getElem? h)
        exact hh.elim
    exact hn ((only i s h1 h3).trans (only j t h2 h4).symm)) dom
  have hF : ∀ b u, O b → b ≠ a → H b = some u → ((O b ∧ ∀ (i : Nat) (s : Sl), (Sl.sh x0 :: Sl.bo a dj :: xr.map Sl.sh)[i]? = some s → s.held → (v0 :: V.ref a :: rest)[i]? ≠ some (.ref b)) ∧ H b = some u) := fun b u hb hn e => ⟨⟨hb, fun i s h hh h2 => by
    match i, h, h2 with
    | 0, h, _ => cases h; exact hh.elim
    | 1, _, h2 => cases h2; exact hn rfl
    | i + 2, h, _ =>
      have h : (xr.map Sl.sh)[i]? = some s := h
      obtain ⟨x, _, rfl⟩ := List.mem_map.mp (List.mem_of_getElem? h)
      exact hh.elim⟩, e⟩
  have eN : (Sl.sh x0 :: Sl.bo a dj :: xr.map Sl.sh).length = xr.length + 2 := by simp
  rw [eN] at S0
  obtain ⟨e, ds', k⟩ := k a x0 dj xr d hS
  have fin : ∀ (O' : Addr → Prop) (H' : Hp) (σ' : L2.St), ds'[1]? = some (.bo a dj) → Le O H O' H' → SR _ O' σ' H' ds' → (∀ b u, b ≠ a → H b = some u → H' b = some u) ∧ (∀ b u, gr O' H' b u → gr O H' b u) ∧ ∃ o', H' a = some o' ∧ Cell (gr O H') o' dj := fun O' H' σ' e1 l S => by
    obtain ⟨o', e1, e2, e3, e4⟩ := S.bo e1
    have bk : ∀ b u, gr O' H' b u → gr O H' b u := fun b u h => ⟨h.1, fun z => by
      obtain ⟨w, e⟩ := dom b z
      by_cases eb : b = a
      · exact h.2 (by rw [eb]; exact e2)
      · exact h.2 (S.frn b w (hF b w z eb e)).1⟩
    refine ⟨fun b u hn e => ?_, bk, o', e3, e4.mono bk⟩
    by_cases hb : O b
    · exact (S.frn b u (hF b u hb hn e)).2
    · exact (l b u ⟨e, hb⟩).1
  rcases k with ⟨⟨q1, q2⟩, k⟩ | ⟨⟨q1, q2⟩, k⟩
  · subst q1
    refine k _ O _ H S0 _ fun O' σ' H' v l S hv => ?_
    obtain ⟨f1, f2, o', f3, f4⟩ := fin O' H' σ' q2 l S
    exact q v H' o' f1 f3 f4 (hv.mono f2)
  · subst q1
    refine k _ O _ H S0 _ fun O' σ' H' p o2 l S hO ho hc2 hl => ?_
    obtain ⟨l2, S2⟩ := S.show hl.held hl.frn
    obtain ⟨f1, f2, o', f3, f4⟩ := fin _ H' σ' q2 (l.trans l2) S2
    exact q _ H' o' f1 f3 f4 ((Dv.cell ⟨ho, fun z => z.2 rfl⟩ (hc2.mono l2) : Dv (gr _ H') (.ref p) _).mono f2)
end
section
variable {F : Gr} {O1 : Addr → Prop} {σ : L2.St} {H1 : Hp} {ds ds1 ds2 : List Sl} {i : Nat} {s s0 : Sl} {x0 dj d : Dt} {xr : List Dt} {n : Nat} {te0 : TE} {tr : TA} {E : XK}
theorem callH_core {S : Dt → Dt → List Dt → Dt → Prop} {Q : VK} {a : Addr} {v0 : V} {rest : List V} (S1 : SR F O1 σ H1 ds1) (hi : ds1[i]? = some s) (hs : s.has dj) (ea : σ[i]? = some (some (.ref a))) (h0 : Dv (gr O1 H1) v0 x0) (hr : DvA (gr O1 H1) rest xr) (hn : xr.length + 2 = n) (hS : S x0 dj xr d)
    (k : ∀ (O' : Addr → Prop) (v : V) (H' : Hp), Le O1 H1 O' H' → SR F O' σ H' (ds1.set i (s.put dj)) → Dv (gr O' H') v d → Q v H') : SpH n S (v0 :: .ref a :: rest) H1 Q E := by
  obtain ⟨a', o, ea', hO, ho, hc⟩ := S1.has hi hs
  rw [ea] at ea'
  cases ea'
  refine ⟨by simp [hr.length]; omega, O1, a, o, v0, rest, x0, dj, xr, d, S1.dom, rfl, hO, ho, hc, h0, hr, hS, fun v H' o' hk ho' hc' hd => ?_⟩
  obtain ⟨l2, S2⟩ := S1.swap hi hs.held ea hO hk ho' hc'
  exact k O1 v H' l2 S2 hd
/-- f(e, x, ..), x held -/
theorem de_callH {S : Dt → Dt → List Dt → Dt → Prop} {sp : Sp} (ic : Inc (SpH n S) sp) (h0 : DE te0 ds x0 ds1) (hi0 : ds1[i]? = some s0) (hh : s0.held) (hr : DA tr ds1 xr ds2) (h1 : ds2[i]? = some s) (hs : s.has dj) (hn : xr.length + 2 = n) (hS : S x0 dj xr d) :
    DE (tCall sp [] E (tCons te0 (tCons (tVar i) tr))) ds d (ds2.set i (s.put dj)) := fun F O σ H S' Q k => h0 F O σ H S' _ fun O1 v0 H1 l1 S1 hv0 => by
  obtain ⟨a, ea⟩ := S1.addr hi0 hh
  refine ⟨_, ea, hr F O1 σ H1 S1 _ fun O2 vs H2 l2 S2 hvs => ic _ _ _ _ ?_⟩
  rw [List.append_nil]
  exact callH_core S2 h1 hs ea (hv0.mono l2) hvs hn hS fun O' v H' l S3 hd => k O' v H' ((l1.trans l2).trans l) S3 hd
/-! ### held things lent, the answer flat -/
def Flat (d : Dt) : Prop := ∀ (G G' : Gr) (v : V), Dv G v d → Dv G' v d
theorem flat_bl {b : Bool} : Flat (.bl b) := fun G G' v h => by rw [inv_bl h]; exact .bl b
theorem flat_int {i : Int} : Flat (.int i) := fun G G' v h => by rw [inv_int h]; exact .int i
theorem flat_non : Flat .non := fun G G' v h => by rw [inv_non h]; exact .non
theorem callL_core {S : List Dt → Dt → Prop} {Q : VK} {a : Addr} {v0 : V} {rest : List V} (S1 : SR F O1 σ H1 ds1) (hi : ds1[i]? = some s) (hs : s.has dj) (ea : σ[i]? = some (some (.ref a))) (h0 : Dv (gr O1 H1) v0 x0) (hr : DvA (gr O1 H1) rest xr) (hn : xr.length + 2 = n) (hS : S (x0 :: dj :: xr) d) (hf : Flat d)
    (k : ∀ (O' : Addr → Prop) (v : V) (H' : Hp), Le O1 H1 O' H' → SR F O' σ H' ds1 → Dv (gr O' H') v d → Q v H') : SpP n S (v0 :: .ref a :: rest) H1 Q E := by
  obtain ⟨a', o, ea', hO, ho, hc⟩ := S1.has hi hs
  rw [ea] at ea'
  cases ea'
  have up : ∀ b u, gr O1 H1 b u → gr (fun x => O1 x ∧ x ≠ a) H1 b u := fun b u h => ⟨h.1, fun z => h.2 z.1⟩
  refine ⟨by simp [hr.length]; omega, fun x => O1 x ∧ x ≠ a, x0 :: dj :: xr, d, fun b h => S1.dom b h.1, .cons (h0.mono up) (.cons (.cell ⟨ho, fun z => z.2 rfl⟩ (hc.mono up)) (hr.mono up)), hS, fun v H' hg hd => ?_⟩
  obtain ⟨l, S2⟩ := S1.grow hg
  exact k O1 v H' l S2 (hf _ _ _ hd)
theorem de_callL {S : List Dt → Dt → Prop} {sp : Sp} (ic : Inc (SpP n S) sp) (h0 : DE te0 ds x0 ds1) (hi0 : ds1[i]? = some s0) (hh : s0.held) (hr : DA tr ds1 xr ds2) (h1 : ds2[i]? = some s) (hs : s.has dj) (hn : xr.length + 2 = n) (hf : Flat d) (hS : S (x0 :: dj :: xr) d) :
    DE (tCall sp [] E (tCons te0 (tCons (tVar i) tr))) ds d ds2 := fun F O σ H S' Q k => h0 F O σ H S' _ fun O1 v0 H1 l1 S1 hv0 => by
  obtain ⟨a, ea⟩ := S1.addr hi0 hh
  refine ⟨_, ea, hr F O1 σ H1 S1 _ fun O2 vs H2 l2 S2 hvs => ic _ _ _ _ ?_⟩
  rw [List.append_nil]
  exact callL_core S2 h1 hs ea (hv0.mono l2) hvs hn hS hf fun O' v H' l S3 hd => k O' v H' ((l1.trans l2).trans l) S3 hd
/-- f(e, ..) by the promise that holds all shared -/
theorem de_callP {S : List Dt → Dt → Prop} {sp : Sp} {ta : TA} {xs : List Dt} (ic : Inc (SpP n S) sp) (h : DA ta ds xs ds1) (hn : xs.length = n) (hS : S xs d) : DE (tCall sp [] E ta) ds d ds1 := fun F O σ H S' Q k => h F O σ H S' _ fun O1 vs H1 l1 S1 hv => ic _ _ _ _ (by
  refine ⟨by rw [List.append_nil, hv.length, hn], O1, xs, d, S1.dom, by rw [List.append_nil]; exact hv, hS, fun v H' hg hd => ?_⟩
  obtain ⟨l2, S2⟩ := S1.grow hg
  exact k O1 v H' (l1.trans l2) S2 hd)
/-- list(x), x held: a list of ints -/
theorem dn_cbPI {r : List V → Hp → VK → Prop} {xs ys : List Int} (h : ds[i]? = some s) (hs : s.has (.li xs)) (hr : CN r [.li xs] (.li ys)) : DN (tCB r (tCons (tVar i) tNil)) ds (.li ys) ds := fun F O σ H S Q k => by
  obtain ⟨a, o, ea, hO, ho, hc⟩ := S.has h hs
  refine ⟨_, ea, hr (fun b u => H b = some u) H [.ref a] (fun _ _ h => h) (.cons (.cell ho (hc.mono fun _ _ h => h.1)) .nil) Q fun p o2 hp hc2 => ?_⟩
  have hc3 : Cell (gr O H) o2 (.li ys) := by
    cases hc2
    exact .li ys
  exact made_new S hp hc3 k
/-- an own thing is given up: shared from now on -/
theorem ds_freeze {t : TS} {o : Out} {d : Dt} (h : ds[i]? = some (.ow d)) (k : DS t (ds.set i (.sh d)) o) : DS t ds o := fun F O σ H S D q => by
  obtain ⟨a, o', e, hO, ho, hc, l, S'⟩ := S.freeze h
  exact k F _ σ H S' D (q.le l)
theorem fin_freeze {t : TS} {W : Bool → Dt → List Sl → Prop} {d : Dt} (h : ds[i]? = some (.ow d)) (k : Fin t (ds.set i (.sh d)) W) : Fin t ds W := by
  obtain ⟨e, ds', k | k⟩ := k
  · exact ⟨e, ds', .inl ⟨k.1, ds_freeze h k.2⟩⟩
  · exact ⟨e, ds', .inr ⟨k.1, ds_freeze h k.2⟩⟩
end
end DL

end

section
set_option Elab.async false
set_option linter.all false
set_option maxRecDepth 100000
set_option autoImplicit false
set_option maxHeartbeats 4000000
/-! an instance made of a held thing -/
namespace DL
open PySem PySem.Spec PyProof.Rows L2
section
variable {t : TS} {N : List Str} {vs : List V} {H : Hp} {Q : VK} {E : XK}
theorem go_I {S : Dt → Dt → Dt → Dt → Dt → Prop} (h : SpI S vs H Q E) (k : ∀ g a dg x1 dj d dg', S dg x1 dj d dg' → FinX t ([.bo g dg, .sh x1, .bo a dj] ++ List.replicate (N.length - 3) Sl.non) fun _ e ds' => e = d ∧ ds'[0]? = some (.bo g dg') ∧ ds'[2]? = some (.bo a dj)) :
    t { nx := fun _ H' => Q .non H', rt := Q } (L2.start N vs) H := by
  obtain ⟨O, g, a, o, oa, v1, dg, x1, dj, d, dg', dom, rfl, hga, hOg, hOa, hg, hcg, ha, hca, h1, hS, q⟩ := h
  have S0 := sr_startM (N := N) (vs := [.ref g, v1, .ref a]) (ms := [.bo g dg, .sh x1, .bo a dj]) rfl (fun i s v h1' h2 => by
    match i, h1', h2 with
    | 0, h1', h2 => cases h1'; cases h2; exact ⟨o, rfl, hOg, hg, hcg⟩
    | 1, h1', h2 => cases h1'; cases h2; exact ⟨_, rfl, h1⟩
    | 2, h1', h2 => cases h1'; cases h2; exact ⟨oa, rfl, hOa, ha, hca⟩) (fun i j s t b hn h1' h2 h3 h4 h5 h6 => by
    match i, j, h1', h2, h5, h6 with
    | 0, 0, _, _, _, _ => exact hn rfl
    | 0, 1, _, h2, _, _ => cases h2; exact h4
    | 0, 2, _, _, h5, h6 => cases h5; cases h6; exact hga rfl
    | 1, _, h1', _, _, _ => cases h1'; exact h3
    | 2, 0, _, _, h5, h6 => cases h5; cases h6; exact hga rfl
    | 2, 1, _, h2, _, _ => cases h2; exact h4
    | 2, 2, _, _, _, _ => exact hn rfl) dom
  have hF : ∀ b u, O b → b ≠ g → b ≠ a → H b = some u → ((O b ∧ ∀ (i : Nat) (s : Sl), ([.bo g dg, .sh x1, .bo a dj] : List Sl)[i]? = some s → s.held → ([.ref g, v1, .ref a] : List V)[i]? ≠ some (.ref b)) ∧ H b = some u) := fun b u hb n1 n2 e => ⟨⟨hb, fun i s h hh h2 => by
    match i, h, h2 with
    | 0, _, h2 => cases h2; exact n1 rfl
    | 1, h, _ => cases h; exact hh
    | 2, _, h2 => cases h2; exact n2 rfl⟩, e⟩
  have fin : ∀ (O' : Addr → Prop) (H' : Hp) (σ' : L2.St) (ds' : List Sl), ds'[0]? = some (.bo g dg') → ds'[2]? = some (.bo a dj) → Le O H O' H' → SR _ O' σ' H' ds' → (∀ b u, b ≠ g → b ≠ a → H b = some u → H' b = some u) ∧ (∀ b u, gr O' H' b u → gr O H' b u) ∧ (∃ o', H' g = some o' ∧ Cell (gr O H') o' dg') ∧ ∃ o', H' a = some o' ∧ Cell (gr O H') o' dj := fun O' H' σ' ds' e1 e2 l S => by
    obtain ⟨og, _, g2, g3, g4⟩ := S.bo e1
    obtain ⟨oa', _, a2, a3, a4⟩ := S.bo e2
    have bk : ∀ b u, gr O' H' b u → gr O H' b u := fun b u h => ⟨h.1, fun z => by
      obtain ⟨w, e⟩ := dom b z
      by_cases eb : b = g
      · exact h.2 (by rw [eb]; exact g2)
      · by_cases eb2 : b = a
        · exact h.2 (by rw [eb2]; exact a2)
        · exact h.2 (S.frn b w (hF b w z eb eb2 e)).1⟩
    refine ⟨fun b u n1 n2 e => ?_, bk, ⟨og, g3, g4.mono bk⟩, oa', a3, a4.mono bk⟩
    by_cases hb : O b
    · exact (S.frn b u (hF b u hb n1 n2 e)).2
    · exact (l b u ⟨e, hb⟩).1
  rcases k g a dg x1 dj d dg' hS with ⟨e, ds', ⟨⟨q1, q2, q3⟩, k⟩ | ⟨⟨q1, q2, q3⟩, k⟩⟩ | ⟨ds', ⟨q1, q2, q3⟩, k⟩
  · subst q1
    refine k _ O _ H S0 _ fun O' σ' H' v l S hv => ?_
    obtain ⟨f1, f2, ⟨o1, f3, f4⟩, o2, f5, f6⟩ := fin O' H' σ' ds' q2 q3 l S
    exact q v H' o1 o2 f1 f3 f4 f5 f6 (hv.mono f2)
  · subst q1
    refine k _ O _ H S0 _ fun O' σ' H' p o2 l S hO ho hc2 hl => ?_
    obtain ⟨l2, S2⟩ := S.show hl.held hl.frn
    obtain ⟨f1, f2, ⟨o1, f3, f4⟩, o3, f5, f6⟩ := fin _ H' σ' ds' q2 q3 (l.trans l2) S2
    exact q _ H' o1 o3 f1 f3 f4 f5 f6 ((Dv.cell ⟨ho, fun z => z.2 rfl⟩ (hc2.mono l2) : Dv (gr _ H') (.ref p) _).mono f2)
  · subst q1
    refine k _ O _ H S0 _ fun O' σ' H' l S => ?_
    obtain ⟨f1, f2, ⟨o1, f3, f4⟩, o2, f5, f6⟩ := fin O' H' σ' ds' q2 q3 l S
    exact q .non H' o1 o2 f1 f3 f4 f5 f6 .non
end
section
variable {F : Gr} {O1 : Addr → Prop} {σ : L2.St} {H1 : Hp} {ds ds1 : List Sl} {i j : Nat} {s s0 : Sl} {x0 dj : Dt} {te0 : TE} {E : XK} {C : Addr} {gs : List (Str × Dt)} {S : Dt → Dt → Dt → Dt → Dt → Prop}
theorem makeI_core {Q : VK} {a : Addr} {v0 : V} (S1 : SR F O1 σ H1 ds1) (hi : ds1[i]? = some s) (hs : s.has dj) (ea : σ[i]? = some (some (.ref a))) (h0 : Dv (gr O1 H1) v0 x0) (hS : S (.ins C []) x0 dj .non (.ins C gs))
    (k : ∀ (O' : Addr → Prop) (v : V) (H' : Hp), Le O1 H1 O' H' → SR F O' σ H' (ds1.set i (s.put dj)) → Dv (gr O' H') v (.ins C gs) → Q v H') :
    ∀ x dx, H1 x = none → H1 dx = none → dx ≠ x → SpI S (.ref x :: ([v0, .ref a] ++ [])) (upd (upd H1 dx (.own x)) x (.ins C dx [])) (fun v H2 => v = .non ∧ Q (.ref x) H2) E := fun x dx nx ndx ne => by
  obtain ⟨a', oa, ea', hOa, hoa, hca⟩ := S1.has hi hs
  rw [ea] at ea'
  cases ea'
  have hxa : x ≠ a := fun z => by rw [z, hoa] at nx; cases nx
  have e1 : ∀ b u, H1 b = some u → upd H1 dx (.own x) b = some u := fun b u q => by rw [upd_ne (ne_of_none q ndx)]; exact q
  obtain ⟨l2, S2⟩ := S1.grow e1
  have nx2 : upd H1 dx (.own x) x = none := by rw [upd_ne ne.symm]; exact nx
  obtain ⟨l3, S3⟩ := S2.new (o := .ins C dx []) nx2
  have heldx : ∀ (m : Nat) (r : Sl), ds1[m]? = some r → r.held → σ[m]? ≠ some (some (V.ref x)) := fun m r h1 h2 h3 => by
    have : ∃ u, H1 x = some u := by
      cases r with
      | non => exact h2.elim
      | sh _ => exact h2.elim
      | ow d' =>
        obtain ⟨a, o', e1, _, e2, _⟩ := S1.ow h1
        rw [h3] at e1
        cases e1
        exact ⟨o', e2⟩
      | bo a d' =>
        obtain ⟨o', e1, _, e2, _⟩ := S1.bo h1
        rw [h3] at e1
        cases e1
        exact ⟨o', e2⟩
    obtain ⟨u, e⟩ := this
    rw [nx] at e
    cases e
  have frnx : ∀ u, ¬ F x u := fun u h => by
    have := (S1.frn x u h).2
    rw [nx] at this
    cases this
  have oa3 : upd (upd H1 dx (.own x)) x (.ins C dx []) a = some oa := by rw [upd_ne hxa.symm]; exact e1 _ _ hoa
  refine ⟨fun b => O1 b ∨ b = x, x, a, _, oa, v0, .ins C [], x0, dj, .non, .ins C gs, S3.dom, rfl, hxa, .inr rfl, .inl hOa, upd_same, .ins .nil, oa3, (hca.mono l2).mono l3, (h0.mono l2).mono l3, hS, fun v H' o' oa' hk ho' hc' hoa' hca' hd => ⟨inv_non hd, ?_⟩⟩
  generalize hH3 : upd (upd H1 dx (.own x)) x (.ins C dx []) = H3 at *
  -- the new instance filled
  have Sx : SR F (fun b => O1 b ∨ b = x) σ (upd H3 x o') ds1 := by
    have l4 : Le (fun b => O1 b ∨ b = x) H3 (fun b => O1 b ∨ b = x) (upd H3 x o') := fun b u q => ⟨by rw [upd_ne (fun z => q.2 (.inr z))]; exact q.1, q.2⟩
    refine ⟨S3.len, fun m r y h1 h2 => (S3.sl m r y h1 h2).mono l4 fun th b u ex q1 q2 => ⟨q1, ?_⟩, S3.inj, fun b u q => ⟨(S3.frn b u q).1, ?_⟩, S3.hf, fun b hb => ?_⟩
    · rw [upd_ne (fun z => by subst z; subst ex; exact heldx m r h1 th h2)]; exact q2
    · rw [upd_ne (fun z => by subst z; exact frnx u q)]; exact (S3.frn b u q).2
    · by_cases e : b = x
      · rw [e]; exact ⟨o', upd_same⟩
      · obtain ⟨u, q⟩ := S3.dom b hb
        exact ⟨u, by rw [upd_ne e]; exact q⟩
  have l4 : Le (fun b => O1 b ∨ b = x) H3 (fun b => O1 b ∨ b = x) (upd H3 x o') := fun b u q => ⟨by rw [upd_ne (fun z => q.2 (.inr z))]; exact q.1, q.2⟩
  obtain ⟨l5, S5⟩ := Sx.swap (H' := H') (dg' := dj) hi hs.held ea (.inl hOa) (fun b u hn q => by
    by_cases e : b = x
    · rw [e, upd_same] at q
      cases q
      rw [e]; exact ho'
    · rw [upd_ne e] at q
      exact hk b u e hn q) hoa' hca'
  have heldx2 : ∀ (m : Nat) (r : Sl), (ds1.set i (s.put dj))[m]? = some r → r.held → σ[m]? ≠ some (some (V.ref x)) := fun m r h1 h2 h3 => by
    by_cases e : i = m
    · subst e
      rw [ea] at h3
      cases h3
      exact hxa rfl
    · rw [List.getElem?_set_ne e] at h1
      exact heldx m r h1 h2 h3
  obtain ⟨l6, S6⟩ := S5.show heldx2 frnx
  exact k _ (.ref x) H' (((((l2.trans l3).trans l4).trans l5)).trans l6) S6 (.cell ⟨ho', fun z => z.2 rfl⟩ (hc'.mono l6))
variable {K : PySem.W.Frag} {c : Value} {m : Nat} {ts : Addr → Value → Option Addr → TS} {Wout : WX}
theorem ds_tryI {sp : Sp} (ic : Inc (SpI S) sp) (h0 : DE te0 ds x0 ds1) (hi : ds1[i]? = some s) (hs : s.has dj) (hS : S (.ins C []) x0 dj .non (.ins C gs)) :
    DS (fun D σ H => tAsg (tMakeS C sp (WE (wAs K c m ts Wout D)) (tCons te0 (tCons (tVar i) tNil))) (gName j) D σ H) ds (.nx ((ds1.set i (s.put dj)).set j (.sh (.ins C gs)))) := fun F O σ H S' D k => h0 F O σ H S' _ fun O1 v0 H1 l1 S1 hv0 => by
  obtain ⟨a, ea⟩ := S1.addr hi hs.held
  refine ⟨_, ea, fun x dx nx ndx ne => ic _ _ _ _ (makeI_core (E := WE (wAs K c m ts Wout D) σ) (Q := fun v H2 => D.nx (σ.set j (some v)) H2) S1 hi hs ea hv0 hS (fun O' v H' l S2 hd => k O' _ H' (l1.trans l) (S2.setSh hd)) x dx nx ndx ne)⟩
end
end DL

end

section
set_option Elab.async false
set_option linter.all false
set_option maxRecDepth 100000
set_option autoImplicit false
set_option maxHeartbeats 4000000
/-! an object handed over; comprehensions that change what is held -/
namespace DL
open PySem PySem.Spec PyProof.Rows L2
/-- the first argument is handed over: what it holds behind is not told -/
def SpG (n : Nat) (S : Dt → List Dt → Dt → Prop) : Sp := fun vs H Q _ => vs.length = n ∧ ∃ (O : Addr → Prop) (g : Addr) (o : HO) (rest : List V) (dg : Dt) (xs : List Dt) (d : Dt), vs = .ref g :: rest ∧ O g ∧ (∀ a, O a → ∃ o, H a = some o) ∧
  H g = some o ∧ Cell (gr O H) o dg ∧ DvA (gr O H) rest xs ∧ S dg xs d ∧
  ∀ v H' o', (∀ a u, a ≠ g → H a = some u → H' a = some u) → H' g = some o' → Dv (gr O H') v d → Q v H'
theorem len_G {n : Nat} {S : Dt → List Dt → Dt → Prop} : ∀ vs H Q E, SpG n S vs H Q E → vs.length = n := fun _ _ _ _ h => h.1
theorem go_G {t : TS} {N : List Str} {n : Nat} {vs : List V} {H : Hp} {Q : VK} {E : XK} {S : Dt → List Dt → Dt → Prop} (h : SpG n S vs H Q E) (hN : 0 < N.length)
    (k : ∀ g dg xs d, S dg xs d → Fin t (.bo g dg :: (xs.map Sl.sh ++ List.replicate (N.length - (xs.length + 1)) Sl.non)) fun _ e ds' => e = d ∧ ∃ dg', ds'[0]? = some (.bo g dg')) :
    t { nx := fun _ H' => Q .non H', rt := Q } (L2.start N vs) H := by
  obtain ⟨hl, O, g, o, rest, dg, xs, d, rfl, hO, hd, hg, hc, hv, hS, q⟩ := h
  have S0 := sr_startB hN hO hd hg hc hv
  have fin : ∀ (O' : Addr → Prop) (H' : Hp) (σ' : L2.St) (ds' : List Sl) (dg' : Dt), ds'[0]? = some (.bo g dg') → Le O H O' H' → SR (fun a u => (O a ∧ a ≠ g) ∧ H a = some u) O' σ' H' ds' → (∀ a u, a ≠ g → H a = some u → H' a = some u) ∧ (∀ a u, gr O' H' a u → gr O H' a u) ∧ ∃ o', H' g = some o' := fun O' H' σ' ds' dg' e0 l S => by
    obtain ⟨o', e1, e2, e3, e4⟩ := S.bo e0
    refine ⟨fun a u hn e => ?_, fun a u h => ⟨h.1, fun z => ?_⟩, o', e3⟩
    · by_cases hO : O a
      · exact (S.frn a u ⟨⟨hO, hn⟩, e⟩).2
      · exact (l a u ⟨e, hO⟩).1
    · obtain ⟨w, e⟩ := hd a z
      by_cases ea : a = g
      · exact h.2 (by rw [ea]; exact e2)
      · exact h.2 (S.frn a w ⟨⟨z, ea⟩, e⟩).1
  obtain ⟨e, ds', k⟩ := k g dg xs d hS
  rcases k with ⟨⟨q1, dg', q2⟩, k⟩ | ⟨⟨q1, dg', q2⟩, k⟩
  · subst q1
    refine k _ O _ H S0 _ fun O' σ' H' v l S hv => ?_
    obtain ⟨f1, f2, o', f3⟩ := fin O' H' σ' ds' dg' q2 l S
    exact q v H' o' f1 f3 (hv.mono f2)
  · subst q1
    refine k _ O _ H S0 _ fun O' σ' H' p o2 l S hO ho hc2 hl => ?_
    obtain ⟨l2, S2⟩ := S.show hl.held hl.frn
    obtain ⟨f1, f2, o', f3⟩ := fin _ H' σ' ds' dg' q2 (l.trans l2) S2
    exact q _ H' o' f1 f3 ((Dv.cell ⟨ho, fun z => z.2 rfl⟩ (hc2.mono l2) : Dv (gr _ H') (.ref p) _).mono f2)
section
variable {ds ds1 : List Sl} {te : TE} {d dg : Dt} {n : Nat} {S : Dt → List Dt → Dt → Prop} {E : XK}
/-- f(g(..)), the new object handed over -/
theorem de_callNG (h : DN te ds dg ds1) (hn : n = 1) (hS : S dg [] d) : DE (tCall (SpG n S) [] E (tCons te tNil)) ds d ds1 := fun F O σ H S' Q k => h F O σ H S' _ fun O1 p o H1 l1 S1 hO ho hc hl => by
  refine ⟨by rw [hn]; rfl, O1, p, o, [], dg, [], d, rfl, hO, S1.dom, ho, hc, .nil, hS, fun v H' o' hk ho' hd => ?_⟩
  have l2 : Le O1 H1 O1 H' := fun b u q => ⟨hk b u (fun z => q.2 (by rw [z]; exact hO)) q.1, q.2⟩
  refine k O1 v H' (l1.trans l2) ⟨S1.len, fun i s x h1 h2 => (S1.sl i s x h1 h2).mono l2 fun th b u ex q1 q2 => ⟨q1, hk b u (fun z => ?_) q2⟩, S1.inj, fun b u q => ⟨(S1.frn b u q).1, hk b u (fun z => ?_) (S1.frn b u q).2⟩, S1.hf, fun b hb => ?_⟩ hd
  · subst z; subst ex
    exact hl.held i s h1 th h2
  · subst z
    exact hl.frn u q
  · by_cases e : b = p
    · rw [e]; exact ⟨o', ho'⟩
    · obtain ⟨u, q⟩ := S1.dom b hb
      exact ⟨u, hk b u e q⟩
end
theorem lcAcc_map (v : Nat → Dt) : ∀ n, lcAcc (fun i => some (v i)) n = (List.range n).map v
  | 0 => rfl
  | n + 1 => by
    show lcAcc _ n ++ [v n] = _
    rw [lcAcc_map v n, List.range_succ, List.map_append]
    rfl
section
variable {ds : List Sl} {te : TE} {β : Type} {wi : TI} {g : TG} {vs : List Nat}
theorem dn_lcSt {l : List β} {e : β → Dt} (st : Nat → List Sl) (v : Nat → Int) (hw : DW wi ds (l.map e) (st 0)) (hz : l.length ≤ 100000) (h0 : wipeD vs (st 0) = st 0)
    (hs : ∀ i x, l[i]? = some x → ∃ ds1 ds2, DGc g vs (e x) (st i) ds1 ∧ DE te ds1 (.int (v i)) ds2 ∧ wipeD vs ds2 = st (i + 1)) : DN (tLc wi g tYes te vs) ds (.li ((List.range l.length).map v)) (st l.length) := by
  have h := dn_lc_core (g := g) (tt := tYes) (te := te) (vs := vs) hw (by rw [List.length_map]; exact hz) st (fun i => some (.int (v i))) h0.symm fun i x hx => by
    rw [List.getElem?_map] at hx
    cases e1 : l[i]? with
    | none => rw [e1] at hx; cases hx
    | some y =>
      rw [e1] at hx
      cases hx
      obtain ⟨ds1, ds2, h1, h2, h3⟩ := hs i y e1
      exact ⟨ds2, ⟨ds1, ds1, h1, .inl ⟨_, rfl, dt_yes, h2⟩⟩, h3.symm⟩
  rw [List.length_map, lcAcc_map] at h
  rw [show (List.range l.length).map (fun i => Dt.int (v i)) = ((List.range l.length).map v).map Dt.int by rw [List.map_map]; rfl] at h
  exact h.li_of
end
end DL
namespace DL
open PySem PySem.Spec PyProof.Rows L2
abbrev rTupS (K : PySem.W.Frag) : List V → Hp → VK → Prop := fun xs H Q => ∃ p ys, xs = [.ref p] ∧ ((SqL K H p ys ∧ ∀ l, H l = none → Q (.ref l) (upd H l (.tup ys))) ∨ (SqT K H p ys ∧ Q (.ref p) H))
/-- tuple(list of ints) -/
theorem de_tupI {K : PySem.W.Frag} {ds ds1 : List Sl} {te : TE} {xs : List Int} (h : DE te ds (.li xs) ds1) : DE (tCB (rTupS K) (tCons te tNil)) ds (.tup (xs.map Dt.int)) ds1 := fun F O σ H S Q k => h F O σ H S _ fun O1 v H1 l1 S1 hv => by
  obtain ⟨a, rfl, g⟩ := inv_li hv
  refine ⟨a, _, rfl, .inl ⟨.inl (.inl g.1), fun p hp => ?_⟩⟩
  obtain ⟨l, S'⟩ := S1.grow (H' := upd H1 p (.tup (xs.map V.int))) fun a o h => by rw [upd_ne (ne_of_none h hp)]; exact h
  exact k O1 _ _ (l1.trans l) S' (.tup ⟨upd_same, S1.fresh hp⟩ (dva_ints xs))
end DL
namespace DL
open PySem PySem.Spec PyProof.Rows L2
/-- a conditional expression whose ways draw unlike often -/
theorem de_ifL {tt : TT} {ta tb : TE} {gg : Addr} {g ga gb x y : List Int} {rest : List Sl} {b : Bool} (h : DT tt (.bo gg (.li g) :: rest) b (.bo gg (.li g) :: rest)) (ha : b = true → DE ta (.bo gg (.li g) :: rest) (.li x) (.bo gg (.li ga) :: rest)) (hb : b = false → DE tb (.bo gg (.li g) :: rest) (.li y) (.bo gg (.li gb) :: rest)) :
    DE (tIf tt ta tb) (.bo gg (.li g) :: rest) (.li (if b = true then x else y)) (.bo gg (.li (if b = true then ga else gb)) :: rest) := by
  cases b with
  | true => exact de_ifT h (ha rfl)
  | false => exact de_ifF h (hb rfl)
end DL
namespace DL
open PySem PySem.Spec PyProof.Rows L2
theorem ds_all {wi : TI} {g : TG} {tb : TS} {ds ds0 : List Sl} {xs : List Dt} (hw : DW wi ds xs ds0) (h : ∀ x, x ∈ xs → Turned g tb x ds0 ds0) : DS (tFor wi g tb) ds (.nx ds0) :=
  ds_for hw (fun _ => ds0) rfl (fun i x hx => h x (List.mem_of_getElem? hx)) rfl
end DL

end

section
set_option Elab.async false
set_option linter.all false
set_option maxRecDepth 100000
set_option autoImplicit false
set_option maxHeartbeats 4000000
/-! the script, whatever keeps it -/
namespace DL
open PySem PySem.Spec PyProof.Rows L2
/-- d is the script xs: a list that none may change, or one of the module's own -/
def Scr (K : PySem.W.Frag) (d : Dt) (xs : List Int) : Prop := d = .scr xs ∨ ∃ a : Addr, d = .kon a ∧ ∀ H : Hp, SqL K H a (xs.map V.int)
theorem Scr.sq {K : PySem.W.Frag} {d : Dt} {xs : List Int} (h : Scr K d xs) {G : Gr} {H : Hp} {v : V} (hg : ∀ a o, G a o → H a = some o) (hv : Dv G v d) : ∃ a, v = .ref a ∧ SqL K H a (xs.map V.int) := by
  rcases h with rfl | ⟨a, rfl, hK⟩
  · obtain ⟨a, o, rfl, g⟩ := inv_scr hv
    exact ⟨a, rfl, .inl (.inr ⟨o, hg _ _ g⟩)⟩
  · rw [inv_kon hv]
    exact ⟨a, rfl, hK H⟩
section
variable {K : PySem.W.Frag} {d : Dt} {xs : List Int} {i : Int} {sl sl1 sl2 sl3 : List Sl} {te : TE} {tl th : TO} {lo hi : Option Int}
theorem rd_ixSc (hs : Scr K d xs) (h : -(xs.length : Int) ≤ i ∧ i < xs.length) : RD (rIxL K) d (.int i) (.int (gZ xs i)) := fun G H v w hg hv hw Q k => by
  obtain ⟨a, rfl, g⟩ := hs.sq hg hv
  rw [inv_int hw]
  have h1 := atI_ok (xs := xs) h
  have e : atI xs i = some (gZ xs i) := by
    unfold gZ
    cases e : atI xs i with
    | none => rw [e] at h1; cases h1
    | some j => rfl
  exact ⟨a, _, i, .int (gZ xs i), rfl, rfl, g, by rw [atI_map, e]; rfl, k _ (.int _)⟩
theorem cd_lenSc (hs : Scr K d xs) : CD (rLenS K) [d] (.int xs.length) := fun G H vs hg hv Q k => by
  obtain ⟨v, rfl, h⟩ := inv1 hv
  obtain ⟨a, rfl, g⟩ := hs.sq hg h
  exact ⟨a, _, rfl, .inl g, by rw [List.length_map]; exact k _ (.int _)⟩
theorem dn_sliceSc (hs : Scr K d xs) (h : DE te sl d sl1) (h1 : DO tl sl1 lo sl2) (h2 : DO th sl2 hi sl3) : DN (tSl (rSlL K) te tl th) sl (.li (cut xs lo hi)) sl3 := fun F O σ H S Q k =>
  h F O σ H S _ fun O1 v H1 l1 S1 hv => h1 F O1 σ H1 S1 _ fun O2 H2 l2 S2 => h2 F O2 σ H2 S2 _ fun O3 H3 l3 S3 => by
    obtain ⟨a, rfl, g⟩ := hs.sq gr_get ((hv.mono l2).mono l3)
    refine ⟨a, _, rfl, g, fun p hp => ?_⟩
    rw [cutV_map]
    exact made_new S3 hp (.li _) fun O' p o H' l S' q1 q2 q3 q4 => k O' p o H' (((l1.trans l2).trans l3).trans l) S' q1 q2 q3 q4
end
end DL

end

section
set_option Elab.async false
set_option linter.all false
set_option maxRecDepth 100000
set_option autoImplicit false
set_option maxHeartbeats 4000000
namespace K7
open PySem PySem.Spec PyProof.Rows L2 DL Mi
/-! ### the text -/
def topS (i : Nat) : Stmt := PySem.Challenge.pw_curveheads_k07_curves.main.body.getD i (.Pass ⟨0, 0, 0, 0⟩)
abbrev s_is_whole : Stmt := topS 7
theorem sc_is_whole : FnScope ["value"] ["value"] (defScope s_is_whole) := ⟨rfl, rfl, rfl, by decide +kernel, rfl, by decide +kernel, by decide +kernel⟩
abbrev s_is_between : Stmt := topS 8
theorem sc_is_between : FnScope ["value", "low", "high"] ["value", "low", "high"] (defScope s_is_between) := ⟨rfl, rfl, rfl, by decide +kernel, rfl, by decide +kernel, by decide +kernel⟩
abbrev s_check_prime : Stmt := topS 9
theorem sc_check_prime : FnScope ["p"] ["p"] (defScope s_check_prime) := ⟨rfl, rfl, rfl, by decide +kernel, rfl, by decide +kernel, by decide +kernel⟩
abbrev s_is_poly_list : Stmt := topS 10
theorem sc_is_poly_list : FnScope ["p", "value", "number"] ["p", "value"] (defScope s_is_poly_list) := ⟨rfl, rfl, rfl, by decide +kernel, rfl, by decide +kernel, by decide +kernel⟩
abbrev s_inverse : Stmt := topS 11
theorem sc_inverse : FnScope ["p", "number", "low"] ["p", "number"] (defScope s_inverse) := ⟨rfl, rfl, rfl, by decide +kernel, rfl, by decide +kernel, by decide +kernel⟩
abbrev s_trimmed : Stmt := topS 12
theorem sc_trimmed : FnScope ["p", "numbers", "found", "number"] ["p", "numbers"] (defScope s_trimmed) := ⟨rfl, rfl, rfl, by decide +kernel, rfl, by decide +kernel, by decide +kernel⟩
abbrev s_added : Stmt := topS 13
theorem sc_added : FnScope ["p", "one", "other", "size", "low", "high", "at"] ["p", "one", "other"] (defScope s_added) := ⟨rfl, rfl, rfl, by decide +kernel, rfl, by decide +kernel, by decide +kernel⟩
abbrev s_negated : Stmt := topS 14
theorem sc_negated : FnScope ["p", "one", "number"] ["p", "one"] (defScope s_negated) := ⟨rfl, rfl, rfl, by decide +kernel, rfl, by decide +kernel, by decide +kernel⟩
abbrev s_lessened : Stmt := topS 15
theorem sc_lessened : FnScope ["p", "one", "other"] ["p", "one", "other"] (defScope s_lessened) := ⟨rfl, rfl, rfl, by decide +kernel, rfl, by decide +kernel, by decide +kernel⟩
abbrev s_scaled : Stmt := topS 16
theorem sc_scaled : FnScope ["p", "one", "number", "item"] ["p", "one", "number"] (defScope s_scaled) := ⟨rfl, rfl, rfl, by decide +kernel, rfl, by decide +kernel, by decide +kernel⟩
abbrev s_multiplied : Stmt := topS 17
theorem sc_multiplied : FnScope ["p", "one", "other", "found", "at", "low", "place", "high"] ["p", "one", "other"] (defScope s_multiplied) := ⟨rfl, rfl, rfl, by decide +kernel, rfl, by decide +kernel, by decide +kernel⟩
abbrev s_parted : Stmt := topS 18
theorem sc_parted : FnScope ["p", "one", "other", "rest", "quotient", "back", "at", "number", "place", "item"] ["p", "one", "other"] (defScope s_parted) := ⟨rfl, rfl, rfl, by decide +kernel, rfl, by decide +kernel, by decide +kernel⟩
abbrev s_common_with : Stmt := topS 19
theorem sc_common_with : FnScope ["p", "one", "other", "low", "high", "quotient", "rest", "left", "right", "back"] ["p", "one", "other"] (defScope s_common_with) := ⟨rfl, rfl, rfl, by decide +kernel, rfl, by decide +kernel, by decide +kernel⟩
abbrev s_common_of : Stmt := topS 20
theorem sc_common_of : FnScope ["p", "one", "other"] ["p", "one", "other"] (defScope s_common_of) := ⟨rfl, rfl, rfl, by decide +kernel, rfl, by decide +kernel, by decide +kernel⟩
abbrev s_slope_of : Stmt := topS 21
theorem sc_slope_of : FnScope ["p", "one", "at", "number"] ["p", "one"] (defScope s_slope_of) := ⟨rfl, rfl, rfl, by decide +kernel, rfl, by decide +kernel, by decide +kernel⟩
abbrev s_Curve_init : Stmt := inClass (topS 23) 0
theorem sc_Curve_init : FnScope ["self", "p", "f"] ["self", "p", "f"] (defScope s_Curve_init) := ⟨rfl, rfl, rfl, by decide +kernel, rfl, by decide +kernel, by decide +kernel⟩
abbrev s_Curve_prime : Stmt := inClass (topS 23) 1
theorem sc_Curve_prime : FnScope ["self"] ["self"] (defScope s_Curve_prime) := ⟨rfl, rfl, rfl, by decide +kernel, rfl, by decide +kernel, by decide +kernel⟩
abbrev s_Curve_polynomial : Stmt := inClass (topS 23) 2
theorem sc_Curve_polynomial : FnScope ["self"] ["self"] (defScope s_Curve_polynomial) := ⟨rfl, rfl, rfl, by decide +kernel, rfl, by decide +kernel, by decide +kernel⟩
abbrev s_Curve_genus : Stmt := inClass (topS 23) 3
theorem sc_Curve_genus : FnScope ["self"] ["self"] (defScope s_Curve_genus) := ⟨rfl, rfl, rfl, by decide +kernel, rfl, by decide +kernel, by decide +kernel⟩
abbrev s_Curve_eq : Stmt := inClass (topS 23) 4
theorem sc_Curve_eq : FnScope ["self", "other"] ["self", "other"] (defScope s_Curve_eq) := ⟨rfl, rfl, rfl, by decide +kernel, rfl, by decide +kernel, by decide +kernel⟩
abbrev s_is_curve_poly : Stmt := topS 24
theorem sc_is_curve_poly : FnScope ["p", "value"] ["p", "value"] (defScope s_is_curve_poly) := ⟨rfl, rfl, rfl, by decide +kernel, rfl, by decide +kernel, by decide +kernel⟩
abbrev s_l_hash : Stmt := topS 26
theorem sc_l_hash : FnScope ["_law_seed", "_law_index", "_law_mixed"] ["_law_seed", "_law_index"] (defScope s_l_hash) := ⟨rfl, rfl, rfl, by decide +kernel, rfl, by decide +kernel, by decide +kernel⟩
abbrev s_l_random : Stmt := topS 27
theorem sc_l_random : FnScope ["_law_generator_here", "_law_bound", "_law_drawn", "_law_turn"] ["_law_generator_here", "_law_bound"] (defScope s_l_random) := ⟨rfl, rfl, rfl, by decide +kernel, rfl, by decide +kernel, by decide +kernel⟩
abbrev s_l_cell : Stmt := topS 28
theorem sc_l_cell : FnScope ["_law_script", "_law_index"] ["_law_script", "_law_index"] (defScope s_l_cell) := ⟨rfl, rfl, rfl, by decide +kernel, rfl, by decide +kernel, by decide +kernel⟩
abbrev s_l_generator : Stmt := topS 29
theorem sc_l_generator : FnScope ["_law_script", "_law_index", "_law_seed"] ["_law_script", "_law_index"] (defScope s_l_generator) := ⟨rfl, rfl, rfl, by decide +kernel, rfl, by decide +kernel, by decide +kernel⟩
abbrev s_l_prime : Stmt := topS 30
theorem sc_l_prime : FnScope ["_law_generator_here"] ["_law_generator_here"] (defScope s_l_prime) := ⟨rfl, rfl, rfl, by decide +kernel, rfl, by decide +kernel, by decide +kernel⟩
abbrev s_l_trim : Stmt := topS 31
theorem sc_l_trim : FnScope ["_law_p", "_law_numbers", "_law_found", "_law_number"] ["_law_p", "_law_numbers"] (defScope s_l_trim) := ⟨rfl, rfl, rfl, by decide +kernel, rfl, by decide +kernel, by decide +kernel⟩
abbrev s_l_plus : Stmt := topS 32
theorem sc_l_plus : FnScope ["_law_p", "_law_one", "_law_other", "_law_factor", "_law_size", "_law_low", "_law_high", "_law_at"] ["_law_p", "_law_one", "_law_other", "_law_factor"] (defScope s_l_plus) := ⟨rfl, rfl, rfl, by decide +kernel, rfl, by decide +kernel, by decide +kernel⟩
abbrev s_l_times : Stmt := topS 33
theorem sc_l_times : FnScope ["_law_p", "_law_one", "_law_other", "_law_found", "_law_at", "_law_low", "_law_place", "_law_high"] ["_law_p", "_law_one", "_law_other"] (defScope s_l_times) := ⟨rfl, rfl, rfl, by decide +kernel, rfl, by decide +kernel, by decide +kernel⟩
abbrev s_l_back : Stmt := topS 34
theorem sc_l_back : FnScope ["_law_p", "_law_number", "_law_low"] ["_law_p", "_law_number"] (defScope s_l_back) := ⟨rfl, rfl, rfl, by decide +kernel, rfl, by decide +kernel, by decide +kernel⟩
abbrev s_l_parted : Stmt := topS 35
theorem sc_l_parted : FnScope ["_law_p", "_law_one", "_law_other", "_law_rest_here", "_law_quotient", "_law_back_here", "_law_term"] ["_law_p", "_law_one", "_law_other"] (defScope s_l_parted) := ⟨rfl, rfl, rfl, by decide +kernel, rfl, by decide +kernel, by decide +kernel⟩
abbrev s_l_rest : Stmt := topS 36
theorem sc_l_rest : FnScope ["_law_p", "_law_one", "_law_other"] ["_law_p", "_law_one", "_law_other"] (defScope s_l_rest) := ⟨rfl, rfl, rfl, by decide +kernel, rfl, by decide +kernel, by decide +kernel⟩
abbrev s_l_monics : Stmt := topS 37
theorem sc_l_monics : FnScope ["_law_p", "_law_power", "_law_found", "_law_turn", "_law_longer", "_law_one", "_law_number"] ["_law_p", "_law_power"] (defScope s_l_monics) := ⟨rfl, rfl, rfl, by decide +kernel, rfl, by decide +kernel, by decide +kernel⟩
abbrev s_l_common : Stmt := topS 38
theorem sc_l_common : FnScope ["_law_p", "_law_one", "_law_other", "_law_low", "_law_high"] ["_law_p", "_law_one", "_law_other"] (defScope s_l_common) := ⟨rfl, rfl, rfl, by decide +kernel, rfl, by decide +kernel, by decide +kernel⟩
abbrev s_l_made : Stmt := topS 39
theorem sc_l_made : FnScope ["_law_p", "_law_value", "_law_found", "error"] ["_law_p", "_law_value"] (defScope s_l_made) := ⟨rfl, rfl, rfl, by decide +kernel, rfl, by decide +kernel, by decide +kernel⟩
abbrev s_l_is_double : Stmt := topS 40
theorem sc_l_is_double : FnScope ["_law_p", "_law_one", "_law_power", "_law_low"] ["_law_p", "_law_one"] (defScope s_l_is_double) := ⟨rfl, rfl, rfl, by decide +kernel, rfl, by decide +kernel, by decide +kernel⟩
abbrev s_l_simple : Stmt := topS 41
theorem sc_l_simple : FnScope ["_law_p", "_law_one", "_law_slope", "_law_at", "_law_number"] ["_law_p", "_law_one"] (defScope s_l_simple) := ⟨rfl, rfl, rfl, by decide +kernel, rfl, by decide +kernel, by decide +kernel⟩
abbrev s_l_curve_right : Stmt := topS 42
theorem sc_l_curve_right : FnScope ["_law_p", "_law_value", "_law_due", "_law_before", "_law_found", "_law_given", "_law_kept", "_law_same"] ["_law_p", "_law_value", "_law_due"] (defScope s_l_curve_right) := ⟨rfl, rfl, rfl, by decide +kernel, rfl, by decide +kernel, by decide +kernel⟩
abbrev s_l_right : Stmt := topS 43
theorem sc_l_right : FnScope ["_law_generator_here", "_law_p", "_law_size", "_law_one", "_law_turn", "_law_low", "_law_twice", "_law_at", "_law_other", "_law_longer", "_law_value", "_law_item"] ["_law_generator_here"] (defScope s_l_right) := ⟨rfl, rfl, rfl, by decide +kernel, rfl, by decide +kernel, by decide +kernel⟩
abbrev s_law : Stmt := topS 44
theorem sc_law : FnScope ["_law_script", "_law_index"] ["_law_script"] (defScope s_law) := ⟨rfl, rfl, rfl, by decide +kernel, rfl, by decide +kernel, by decide +kernel⟩
/-! ### what the top has left -/
structure Txt (P : Program) (K : PySem.W.Frag) (mg : Str → Option Value) where
  f_is_whole : Addr
  fd_is_whole : FuncData
  F_is_whole : Fun K "is_whole" "is_whole" s_is_whole f_is_whole fd_is_whole
  g_is_whole : mg "is_whole" = some (.ref f_is_whole)
  b_is_whole : Binds K fd_is_whole ["value"] []
  f_is_between : Addr
  fd_is_between : FuncData
  F_is_between : Fun K "is_between" "is_between" s_is_between f_is_between fd_is_between
  g_is_between : mg "is_between" = some (.ref f_is_between)
  b_is_between : Binds K fd_is_between ["value", "low", "high"] []
  f_check_prime : Addr
  fd_check_prime : FuncData
  F_check_prime : Fun K "check_prime" "check_prime" s_check_prime f_check_prime fd_check_prime
  g_check_prime : mg "check_prime" = some (.ref f_check_prime)
  b_check_prime : Binds K fd_check_prime ["p"] []
  f_is_poly_list : Addr
  fd_is_poly_list : FuncData
  F_is_poly_list : Fun K "is_poly_list" "is_poly_list" s_is_poly_list f_is_poly_list fd_is_poly_list
  g_is_poly_list : mg "is_poly_list" = some (.ref f_is_poly_list)
  b_is_poly_list : Binds K fd_is_poly_list ["p", "value"] []
  f_inverse : Addr
  fd_inverse : FuncData
  F_inverse : Fun K "inverse" "inverse" s_inverse f_inverse fd_inverse
  g_inverse : mg "inverse" = some (.ref f_inverse)
  b_inverse : Binds K fd_inverse ["p", "number"] []
  f_trimmed : Addr
  fd_trimmed : FuncData
  F_trimmed : Fun K "trimmed" "trimmed" s_trimmed f_trimmed fd_trimmed
  g_trimmed : mg "trimmed" = some (.ref f_trimmed)
  b_trimmed : Binds K fd_trimmed ["p", "numbers"] []
  f_added : Addr
  fd_added : FuncData
  F_added : Fun K "added" "added" s_added f_added fd_added
  g_added : mg "added" = some (.ref f_added)
  b_added : Binds K fd_added ["p", "one", "other"] []
  f_negated : Addr
  fd_negated : FuncData
  F_negated : Fun K "negated" "negated" s_negated f_negated fd_negated
  g_negated : mg "negated" = some (.ref f_negated)
  b_negated : Binds K fd_negated ["p", "one"] []
  f_lessened : Addr
  fd_lessened : FuncData
  F_lessened : Fun K "lessened" "lessened" s_lessened f_lessened fd_lessened
  g_lessened : mg "lessened" = some (.ref f_lessened)
  b_lessened : Binds K fd_lessened ["p", "one", "other"] []
  f_scaled : Addr
  fd_scaled : FuncData
  F_scaled : Fun K "scaled" "scaled" s_scaled f_scaled fd_scaled
  g_scaled : mg "scaled" = some (.ref f_scaled)
  b_scaled : Binds K fd_scaled ["p", "one", "number"] []
  f_multiplied : Addr
  fd_multiplied : FuncData
  F_multiplied : Fun K "multiplied" "multiplied" s_multiplied f_multiplied fd_multiplied
  g_multiplied : mg "multiplied" = some (.ref f_multiplied)
  b_multiplied : Binds K fd_multiplied ["p", "one", "other"] []
  f_parted : Addr
  fd_parted : FuncData
  F_parted : Fun K "parted" "parted" s_parted f_parted fd_parted
  g_parted : mg "parted" = some (.ref f_parted)
  b_parted : Binds K fd_parted ["p", "one", "other"] []
  f_common_with : Addr
  fd_common_with : FuncData
  F_common_with : Fun K "common_with" "common_with" s_common_with f_common_with fd_common_with
  g_common_with : mg "common_with" = some (.ref f_common_with)
  b_common_with : Binds K fd_common_with ["p", "one", "other"] []
  f_common_of : Addr
  fd_common_of : FuncData
  F_common_of : Fun K "common_of" "common_of" s_common_of f_common_of fd_common_of
  g_common_of : mg "common_of" = some (.ref f_common_of)
  b_common_of : Binds K fd_common_of ["p", "one", "other"] []
  f_slope_of : Addr
  fd_slope_of : FuncData
  F_slope_of : Fun K "slope_of" "slope_of" s_slope_of f_slope_of fd_slope_of
  g_slope_of : mg "slope_of" = some (.ref f_slope_of)
  b_slope_of : Binds K fd_slope_of ["p", "one"] []
  f_Curve_init : Addr
  fd_Curve_init : FuncData
  F_Curve_init : Fun K "__init__" "Curve.__init__" s_Curve_init f_Curve_init fd_Curve_init
  b_Curve_init : Binds K fd_Curve_init ["self", "p", "f"] []
  f_Curve_prime : Addr
  fd_Curve_prime : FuncData
  F_Curve_prime : Fun K "prime" "Curve.prime" s_Curve_prime f_Curve_prime fd_Curve_prime
  b_Curve_prime : Binds K fd_Curve_prime ["self"] []
  f_Curve_polynomial : Addr
  fd_Curve_polynomial : FuncData
  F_Curve_polynomial : Fun K "polynomial" "Curve.polynomial" s_Curve_polynomial f_Curve_polynomial fd_Curve_polynomial
  b_Curve_polynomial : Binds K fd_Curve_polynomial ["self"] []
  f_Curve_genus : Addr
  fd_Curve_genus : FuncData
  F_Curve_genus : Fun K "genus" "Curve.genus" s_Curve_genus f_Curve_genus fd_Curve_genus
  b_Curve_genus : Binds K fd_Curve_genus ["self"] []
  f_Curve_eq : Addr
  fd_Curve_eq : FuncData
  F_Curve_eq : Fun K "__eq__" "Curve.__eq__" s_Curve_eq f_Curve_eq fd_Curve_eq
  b_Curve_eq : Binds K fd_Curve_eq ["self", "other"] []
  f_is_curve_poly : Addr
  fd_is_curve_poly : FuncData
  F_is_curve_poly : Fun K "is_curve_poly" "is_curve_poly" s_is_curve_poly f_is_curve_poly fd_is_curve_poly
  g_is_curve_poly : mg "is_curve_poly" = some (.ref f_is_curve_poly)
  b_is_curve_poly : Binds K fd_is_curve_poly ["p", "value"] []
  f_l_hash : Addr
  fd_l_hash : FuncData
  F_l_hash : Fun K "_law_hash" "_law_hash" s_l_hash f_l_hash fd_l_hash
  g_l_hash : mg "_law_hash" = some (.ref f_l_hash)
  b_l_hash : Binds K fd_l_hash ["_law_seed", "_law_index"] []
  f_l_random : Addr
  fd_l_random : FuncData
  F_l_random : Fun K "_law_random" "_law_random" s_l_random f_l_random fd_l_random
  g_l_random : mg "_law_random" = some (.ref f_l_random)
  b_l_random : Binds K fd_l_random ["_law_generator_here", "_law_bound"] []
  f_l_cell : Addr
  fd_l_cell : FuncData
  F_l_cell : Fun K "_law_cell" "_law_cell" s_l_cell f_l_cell fd_l_cell
  g_l_cell : mg "_law_cell" = some (.ref f_l_cell)
  b_l_cell : Binds K fd_l_cell ["_law_script", "_law_index"] []
  f_l_generator : Addr
  fd_l_generator : FuncData
  F_l_generator : Fun K "_law_generator" "_law_generator" s_l_generator f_l_generator fd_l_generator
  g_l_generator : mg "_law_generator" = some (.ref f_l_generator)
  b_l_generator : Binds K fd_l_generator ["_law_script", "_law_index"] []
  f_l_prime : Addr
  fd_l_prime : FuncData
  F_l_prime : Fun K "_law_prime" "_law_prime" s_l_prime f_l_prime fd_l_prime
  g_l_prime : mg "_law_prime" = some (.ref f_l_prime)
  b_l_prime : Binds K fd_l_prime ["_law_generator_here"] []
  f_l_trim : Addr
  fd_l_trim : FuncData
  F_l_trim : Fun K "_law_trim" "_law_trim" s_l_trim f_l_trim fd_l_trim
  g_l_trim : mg "_law_trim" = some (.ref f_l_trim)
  b_l_trim : Binds K fd_l_trim ["_law_p", "_law_numbers"] []
  f_l_plus : Addr
  fd_l_plus : FuncData
  F_l_plus : Fun K "_law_plus" "_law_plus" s_l_plus f_l_plus fd_l_plus
  g_l_plus : mg "_law_plus" = some (.ref f_l_plus)
  b_l_plus : Binds K fd_l_plus ["_law_p", "_law_one", "_law_other", "_law_factor"] []
  f_l_times : Addr
  fd_l_times : FuncData
  F_l_times : Fun K "_law_times" "_law_times" s_l_times f_l_times fd_l_times
  g_l_times : mg "_law_times" = some (.ref f_l_times)
  b_l_times : Binds K fd_l_times ["_law_p", "_law_one", "_law_other"] []
  f_l_back : Addr
  fd_l_back : FuncData
  F_l_back : Fun K "_law_back" "_law_back" s_l_back f_l_back fd_l_back
  g_l_back : mg "_law_back" = some (.ref f_l_back)
  b_l_back : Binds K fd_l_back ["_law_p", "_law_number"] []
  f_l_parted : Addr
  fd_l_parted : FuncData
  F_l_parted : Fun K "_law_parted" "_law_parted" s_l_parted f_l_parted fd_l_parted
  g_l_parted : mg "_law_parted" = some (.ref f_l_parted)
  b_l_parted : Binds K fd_l_parted ["_law_p", "_law_one", "_law_other"] []
  f_l_rest : Addr
  fd_l_rest : FuncData
  F_l_rest : Fun K "_law_rest" "_law_rest" s_l_rest f_l_rest fd_l_rest
  g_l_rest : mg "_law_rest" = some (.ref f_l_rest)
  b_l_rest : Binds K fd_l_rest ["_law_p", "_law_one", "_law_other"] []
  f_l_monics : Addr
  fd_l_monics : FuncData
  F_l_monics : Fun K "_law_monics" "_law_monics" s_l_monics f_l_monics fd_l_monics
  g_l_monics : mg "_law_monics" = some (.ref f_l_monics)
  b_l_monics : Binds K fd_l_monics ["_law_p", "_law_power"] []
  f_l_common : Addr
  fd_l_common : FuncData
  F_l_common : Fun K "_law_common" "_law_common" s_l_common f_l_common fd_l_common
  g_l_common : mg "_law_common" = some (.ref f_l_common)
  b_l_common : Binds K fd_l_common ["_law_p", "_law_one", "_law_other"] []
  f_l_made : Addr
  fd_l_made : FuncData
  F_l_made : Fun K "_law_made" "_law_made" s_l_made f_l_made fd_l_made
  g_l_made : mg "_law_made" = some (.ref f_l_made)
  b_l_made : Binds K fd_l_made ["_law_p", "_law_value"] []
  f_l_is_double : Addr
  fd_l_is_double : FuncData
  F_l_is_double : Fun K "_law_is_double" "_law_is_double" s_l_is_double f_l_is_double fd_l_is_double
  g_l_is_double : mg "_law_is_double" = some (.ref f_l_is_double)
  b_l_is_double : Binds K fd_l_is_double ["_law_p", "_law_one"] []
  f_l_simple : Addr
  fd_l_simple : FuncData
  F_l_simple : Fun K "_law_simple" "_law_simple" s_l_simple f_l_simple fd_l_simple
  g_l_simple : mg "_law_simple" = some (.ref f_l_simple)
  b_l_simple : Binds K fd_l_simple ["_law_p", "_law_one"] []
  f_l_curve_right : Addr
  fd_l_curve_right : FuncData
  F_l_curve_right : Fun K "_law_curve_right" "_law_curve_right" s_l_curve_right f_l_curve_right fd_l_curve_right
  g_l_curve_right : mg "_law_curve_right" = some (.ref f_l_curve_right)
  b_l_curve_right : Binds K fd_l_curve_right ["_law_p", "_law_value", "_law_due"] []
  f_l_right : Addr
  fd_l_right : FuncData
  F_l_right : Fun K "_law_right" "_law_right" s_l_right f_l_right fd_l_right
  g_l_right : mg "_law_right" = some (.ref f_l_right)
  b_l_right : Binds K fd_l_right ["_law_generator_here"] []
  f_law : Addr
  fd_law : FuncData
  F_law : Fun K "law" "law" s_law f_law fd_law
  g_law : mg "law" = some (.ref f_law)
  b_law : Binds K fd_law ["_law_script"] []
  C_CurveError : Addr
  gC_CurveError : mg "CurveError" = some (.ref C_CurveError)
  C_InvalidPrime : Addr
  gC_InvalidPrime : mg "InvalidPrime" = some (.ref C_InvalidPrime)
  C_InvalidPolynomial : Addr
  gC_InvalidPolynomial : mg "InvalidPolynomial" = some (.ref C_InvalidPolynomial)
  C_Curve : Addr
  gC_Curve : mg "Curve" = some (.ref C_Curve)
  cl_Curve : Cls K C_Curve
  is_Curve : C8.InsC K C_Curve
  mk_Curve : Mk K C_Curve f_Curve_init
  m_Curve_prime : Meth K C_Curve "prime" f_Curve_prime
  m_Curve_polynomial : Meth K C_Curve "polynomial" f_Curve_polynomial
  m_Curve_genus : Meth K C_Curve "genus" f_Curve_genus
  eq_Curve : PySem.W.findIn K (.ref C_Curve) "__eq__" = some (some (.ref f_Curve_eq))
  eqf_Curve : PySem.W.isFn K (.ref f_Curve_eq) = true
  na_Curve_prime : NoAttr K C_Curve "_prime"
  na_Curve_polynomial : NoAttr K C_Curve "_polynomial"
  a_PRIMES : Addr
  g_PRIMES : mg "PRIMES" = some (.ref a_PRIMES)
  k_PRIMES : ∀ H, SqT K H a_PRIMES (([3, 5, 7, 11, 13] : List Int).map V.int)
  t_MOST_POWER : Tok
  g_MOST_POWER : mg "MOST_POWER" = some (.int 60 t_MOST_POWER)
  n_bool : mg "bool" = none
  n_enumerate : mg "enumerate" = none
  n_int : mg "int" = none
  n_isinstance : mg "isinstance" = none
  n_len : mg "len" = none
  n_list : mg "list" = none
  n_max : mg "max" = none
  n_range : mg "range" = none
  n_repr : mg "repr" = none
  n_sum : mg "sum" = none
  n_tuple : mg "tuple" = none
  f_IP : Addr
  fd_IP : FuncData
  sf_IP : SupF P K C_InvalidPolynomial "InvalidPolynomial.__init__" (inClass (topS 3) 0) f_IP fd_IP
  sc_IP : SupC K C_InvalidPolynomial
  ii_IP : PySem.W.findIn K (.ref C_InvalidPolynomial) "__init__" = some (some (.ref f_IP))
  it_IP : PySem.W.typeIn K (.ref f_IP) = some (.type "function")
  ib_IP : Binds K fd_IP ["self", "value"] []
  nv_IP : PySem.W.findIn K (.ref C_InvalidPolynomial) "value" = some none
  n_super : mg "super" = none
  xc_IP : ExcC K C_InvalidPolynomial
  xf_IP : XfC K C_InvalidPolynomial
  em_IP : PySem.W.exmOne K (.ref C_InvalidPolynomial) (.ref C_CurveError) = some true
  kc_Curve : PySem.W.kitOne K (.ref C_Curve) (.ref C_Curve) = some true
  kl_Curve : PySem.W.kitOne K (.type "list") (.ref C_Curve) = some false
  ks_Curve : PySem.W.kitOne K (.type "str") (.ref C_Curve) = some false
  nf_C : PySem.W.notFirst K C_Curve (.ref C_Curve) = true
  nf_L : PySem.W.notFirst K C_Curve (.type "list") = true
  nf_S : PySem.W.notFirst K C_Curve (.type "str") = true
  kb_Curve : KBn K fd_Curve_init ["self", "p", "f"] 1 ["f", "p"] (fun us ws => us ++ ws.reverse) (fun vs zs => vs ++ zs.reverse)
end K7

end

section
set_option Elab.async false
set_option linter.all false
set_option maxRecDepth 100000
set_option autoImplicit false
set_option maxHeartbeats 4000000
namespace K7
open PySem PySem.Spec PyProof.Rows L2 DL Mi
local macro_rules | `(tactic| walk_at "side") => `(tactic| first | trivial | assumption | omega | exact .inl (by omega) | exact .inr (by omega) | ((try simp only [List.length_append, List.length_replicate, List.length_map, List.length_range, List.mem_range, List.length_cons, List.length_nil, List.length_dropLast, List.length_set, gZ_gI, setZ_len] at *); (repeat' (first | apply And.intro | split)) <;> (first | assumption | omega)) | fail "side")
section
variable {P : Program} {w : World} {K : PySem.W.Frag} {mg : Str → Option Value} {base : Heap}
def S_trimmed (xs : List Dt) (d : Dt) : Prop := ∃ (p : Int) (numbers : List Int), xs = [.int p, .li numbers] ∧ (0 < p ∧ numbers.length ≤ 10000) ∧ d = .li (norm p numbers)
theorem ok_trimmed (T : Txt P K mg) : FnOk P w K mg base CX0 1 T.f_trimmed T.fd_trimmed ["p", "numbers"] (SpN 2 S_trimmed) := by
  refine T.F_trimmed.ok sc_trimmed len_N (fun cdv A outer s H vs Q E hr h => ⟨_, (pss_cons (ps_setLc (i := 2) (own := [("number", 3)]) (g := gName 3) rfl sc_trimmed.nd rfl rfl (sw_true rfl rfl rfl (by decide +kernel)) (pi_list (pv 1)) (blkOk_by (N := ["p", "numbers", "found", "number"]) (sc := defScope s_trimmed) (by decide +kernel)) (fun _ _ _ _ _ => pg_name (i := 3) sc_trimmed.nd rfl (by first | exact Or.inl rfl | exact Or.inr rfl)) (fun _ _ _ _ _ => pts_nil) (fun _ _ _ _ _ => (pe_op op_mod (pe_callTy call_int1 (by rfl) T.n_int (by decide +kernel) (pa_cons (pv 3) pa_nil)) (pv 0))))
      (pss_cons (ps_while PassesOwn.never (PW.pt (pw_and (pt_cmpR (r := rNeD K) (op_neD hr.units) (pv 2) (pe_lst pa_nil) (nomark _)) (pw_and1 (pt_cmpR op_eq (pe_ix (r := rIxL K) ix_list (pv 2) (pe_un un_neg pe_int) (fun _ _ => rfl)) pe_int (nomark _))))) (pss_one (ps_expr (pe_bm0 PySem.F.plainAttrs_list PySem.F.slot_list_pop PySem.F.type_list_pop mt_pop (pv 2)))))
      (pss_one (ps_ret (pv 2))))), go_N h fun xs d hS => ?_⟩)
  obtain ⟨p, numbers, rfl, hpre, rfl⟩ := hS
  show Fin _ [.sh (.int p), .sh (.li numbers), .non, .non] _
  have ⟨hp0, hp1⟩ := hpre
  refine fin_seq (ds_setN (dn_mapBI _ (dw_li (de_var rfl)) ?_ rfl fun x hx => ⟨_, dgc_name (by simp), (de_op (de_cb (da_cons (de_var rfl) da_nil) cd_int) (de_var rfl) (rd_mod ?_)), rfl⟩)) ?_
  · exact Nat.le_trans hpre.2 (by decide)
  · exact hpre.1
  refine fin_seq (ds_whl (fun xs => [.sh (.int p), .sh (.li numbers), .ow (.li xs), .non]) cTrim List.dropLast (fun _ => True) (fun xs _ => ((dt_and (dt_test (de_opP rfl (by trivial) (DE.ofN (dn_liC da_nil rfl (Nat.le_of_ble_eq_true rfl))) rfl has_ow (rd_neL) rfl)) fun hq1 => (dt_test (de_op (de_opP rfl (by trivial) (de_un de_int ud_neg) rfl has_ow (rd_ixZ ?_) rfl) de_int (rd_eqI)))) : DT _ _ (!decide (xs = []) && decide (gZ xs (-1) = 0)) _).eq (by rw [gZ_last]; rfl)) (fun xs _ hc => ⟨(ds_popI rfl has_ow ?_), trivial⟩) _ _ trivial (trim_stop _)) ?_
  · have := List.length_pos_iff.mpr (show xs ≠ [] by simpa using hq1)
    omega
  · exact cTrim_ne hc
  refine fin_retN (dn_varM rfl) ⟨rfl, ?_⟩
  · rfl
def S_added (xs : List Dt) (d : Dt) : Prop := ∃ (p : Int) (one : List Int) (other : List Int), xs = [.int p, .li one, .li other] ∧ (0 < p ∧ one.length ≤ 1000 ∧ other.length ≤ 1000) ∧ d = .li (padd p one other)
theorem ok_added (T : Txt P K mg) : FnOk P w K mg base CX0 2 T.f_added T.fd_added ["p", "one", "other"] (SpN 3 S_added) := by
  refine T.F_added.ok sc_added len_N (fun cdv A outer s H vs Q E hr h => ⟨_, (pss_cons (ps_set (i := 3) sc_added.nd rfl (by first | exact Or.inl rfl | exact Or.inr rfl) (pe_callB (call_max2 rfl) (by rfl) T.n_max (by decide +kernel) (pa_cons (pe_callB (r := rLenS K) call_len_seq (by rfl) T.n_len PySem.boot_len (pa_cons (pv 1) pa_nil)) (pa_cons (pe_callB (r := rLenS K) call_len_seq (by rfl) T.n_len PySem.boot_len (pa_cons (pv 2) pa_nil)) pa_nil))))
      (pss_cons (ps_asg (pe_tup (pa_cons (pe_op op_cat (pv 1) (pe_op op_rep (pe_lst (pa_cons pe_int pa_nil)) (pe_op op_sub (pv 3) (pe_callB (r := rLenS K) call_len_seq (by rfl) T.n_len PySem.boot_len (pa_cons (pv 1) pa_nil))))) (pa_cons (pe_op op_cat (pv 2) (pe_op op_rep (pe_lst (pa_cons pe_int pa_nil)) (pe_op op_sub (pv 3) (pe_callB (r := rLenS K) call_len_seq (by rfl) T.n_len PySem.boot_len (pa_cons (pv 2) pa_nil))))) pa_nil))) (pg_tup rfl (pgs_cons (pg_name (i := 4) sc_added.nd rfl (by first | exact Or.inl rfl | exact Or.inr rfl)) (pgs_cons (pg_name (i := 5) sc_added.nd rfl (by first | exact Or.inl rfl | exact Or.inr rfl)) (pgs_nil)))))
      (pss_one (ps_ret (pe_call (ok_trimmed T) (hr.mono (by decide)) (by rfl) T.g_trimmed T.F_trimmed.kp T.b_trimmed .nil pass0 (pa_cons (pv 0) (pa_cons (pe_lc (own := [("at", 6)]) (g := gName 6) rfl sc_added.nd (pi_range1 (by rfl) T.n_range (pa_cons (pv 3) pa_nil)) (blkOk_by (N := ["p", "one", "other", "size", "low", "high", "at"]) (sc := defScope s_added) (by decide +kernel)) (fun _ _ _ _ _ => pg_name (i := 6) sc_added.nd rfl (by first | exact Or.inl rfl | exact Or.inr rfl)) (fun _ _ _ _ _ => pts_nil) (fun _ _ _ _ _ => (pe_op op_add (pe_ix (r := rIxL K) ix_list (pv 4) (pv 6) (fun _ _ => rfl)) (pe_ix (r := rIxL K) ix_list (pv 5) (pv 6) (fun _ _ => rfl))))) pa_nil))))))), go_N h fun xs d hS => ?_⟩)
  obtain ⟨p, one, other, rfl, hpre, rfl⟩ := hS
  show Fin _ [.sh (.int p), .sh (.li one), .sh (.li other), .non, .non, .non, .non] _
  have ⟨hp0, hp1, hp2⟩ := hpre
  refine fin_seq (ds_set (de_cb (da_cons (de_cb (da_cons (de_var rfl) da_nil) cd_lenI) (da_cons (de_cb (da_cons (de_var rfl) da_nil) cd_lenI) da_nil)) cd_max2)) ?_
  refine fin_seq (ds_asg (de_tup (da_cons (DE.ofN (dn_op (de_var rfl) (DE.ofN (dn_op (DE.ofN (dn_liC (da_cons de_int da_nil) rfl (Nat.le_of_ble_eq_true rfl))) (de_op (de_var rfl) (de_cb (da_cons (de_var rfl) da_nil) cd_lenI) rd_I0) (rn_repI ?_))) (rn_catI ?_))) (da_cons (DE.ofN (dn_op (de_var rfl) (DE.ofN (dn_op (DE.ofN (dn_liC (da_cons de_int da_nil) rfl (Nat.le_of_ble_eq_true rfl))) (de_op (de_var rfl) (de_cb (da_cons (de_var rfl) da_nil) cd_lenI) rd_I0) (rn_repI ?_))) (rn_catI ?_))) da_nil)) (Nat.le_of_ble_eq_true rfl)) (dg_tup (dgs_cons dg_name (dgs_cons dg_name dgs_nil)) rfl)) ?_
  · walk_at "side"
  · walk_at "side"
  · walk_at "side"
  · walk_at "side"
  refine fin_retN (dn_call (da_cons (de_var rfl) (da_cons (DE.ofN (dn_mapBI _ (dw_rng1 (da_cons (de_var rfl) da_nil) ?_) ?_ rfl fun x hx => ⟨_, dgc_name (by simp), (de_op (de_op (de_var rfl) (de_var rfl) (rd_ixZ ?_)) (de_op (de_var rfl) (de_var rfl) (rd_ixZ ?_)) rd_I0), rfl⟩)) da_nil)) rfl ⟨_, _,  rfl, ?_, rfl⟩) ⟨rfl, ?_⟩
  · walk_at "side"
  · walk_at "side"
  · walk_at "side"
  · walk_at "side"
  · walk_at "side"
  · simp only [gZ_gI]; rfl
def S_negated (xs : List Dt) (d : Dt) : Prop := ∃ (p : Int) (one : List Int), xs = [.int p, .li one] ∧ (0 < p ∧ one.length ≤ 1000) ∧ d = .li (pneg p one)
theorem ok_negated (T : Txt P K mg) : FnOk P w K mg base CX0 2 T.f_negated T.fd_negated ["p", "one"] (SpN 2 S_negated) := by
  refine T.F_negated.ok sc_negated len_N (fun cdv A outer s H vs Q E hr h => ⟨_, (pss_one (ps_ret (pe_call (ok_trimmed T) (hr.mono (by decide)) (by rfl) T.g_trimmed T.F_trimmed.kp T.b_trimmed .nil pass0 (pa_cons (pv 0) (pa_cons (pe_lc (own := [("number", 2)]) (g := gName 2) rfl sc_negated.nd (pi_list (pv 1)) (blkOk_by (N := ["p", "one", "number"]) (sc := defScope s_negated) (by decide +kernel)) (fun _ _ _ _ _ => pg_name (i := 2) sc_negated.nd rfl (by first | exact Or.inl rfl | exact Or.inr rfl)) (fun _ _ _ _ _ => pts_nil) (fun _ _ _ _ _ => (pe_op op_sub pe_int (pv 2)))) pa_nil))))), go_N h fun xs d hS => ?_⟩)
  obtain ⟨p, one, rfl, hpre, rfl⟩ := hS
  show Fin _ [.sh (.int p), .sh (.li one), .non] _
  have ⟨hp0, hp1⟩ := hpre
  refine fin_retN (dn_call (da_cons (de_var rfl) (da_cons (DE.ofN (dn_mapBI _ (dw_li (de_var rfl)) ?_ rfl fun x hx => ⟨_, dgc_name (by simp), (de_op de_int (de_var rfl) rd_I0), rfl⟩)) da_nil)) rfl ⟨_, _,  rfl, ?_, rfl⟩) ⟨rfl, ?_⟩
  · walk_at "side"
  · walk_at "side"
  · rfl
def S_lessened (xs : List Dt) (d : Dt) : Prop := ∃ (p : Int) (one : List Int) (other : List Int), xs = [.int p, .li one, .li other] ∧ (0 < p ∧ one.length ≤ 1000 ∧ other.length ≤ 1000) ∧ d = .li (psub p one other)
theorem ok_lessened (T : Txt P K mg) : FnOk P w K mg base CX0 3 T.f_lessened T.fd_lessened ["p", "one", "other"] (SpN 3 S_lessened) := by
  refine T.F_lessened.ok sc_lessened len_N (fun cdv A outer s H vs Q E hr h => ⟨_, (pss_one (ps_ret (pe_call (ok_added T) (hr.mono (by decide)) (by rfl) T.g_added T.F_added.kp T.b_added .nil pass0 (pa_cons (pv 0) (pa_cons (pv 1) (pa_cons (pe_call (ok_negated T) (hr.mono (by decide)) (by rfl) T.g_negated T.F_negated.kp T.b_negated .nil pass0 (pa_cons (pv 0) (pa_cons (pv 2) pa_nil))) pa_nil)))))), go_N h fun xs d hS => ?_⟩)
  obtain ⟨p, one, other, rfl, hpre, rfl⟩ := hS
  show Fin _ [.sh (.int p), .sh (.li one), .sh (.li other)] _
  have ⟨hp0, hp1, hp2⟩ := hpre
  refine fin_retN (dn_call (da_cons (de_var rfl) (da_cons (de_var rfl) (da_cons (DE.ofN (dn_call (da_cons (de_var rfl) (da_cons (de_var rfl) da_nil)) rfl ⟨_, _,  rfl, ?_, rfl⟩)) da_nil))) rfl ⟨_, _, _,  rfl, ?_, rfl⟩) ⟨rfl, ?_⟩
  · walk_at "side"
  · have := pneg_len p other; omega
  · rfl
def S_scaled (xs : List Dt) (d : Dt) : Prop := ∃ (p : Int) (one : List Int) (number : Int), xs = [.int p, .li one, .int number] ∧ (0 < p ∧ one.length ≤ 1000 ∧ CMul1 number) ∧ d = .li (pscale p one number)
theorem ok_scaled (T : Txt P K mg) : FnOk P w K mg base CX0 2 T.f_scaled T.fd_scaled ["p", "one", "number"] (SpN 3 S_scaled) := by
  refine T.F_scaled.ok sc_scaled len_N (fun cdv A outer s H vs Q E hr h => ⟨_, (pss_one (ps_ret (pe_call (ok_trimmed T) (hr.mono (by decide)) (by rfl) T.g_trimmed T.F_trimmed.kp T.b_trimmed .nil pass0 (pa_cons (pv 0) (pa_cons (pe_lc (own := [("item", 3)]) (g := gName 3) rfl sc_scaled.nd (pi_list (pv 1)) (blkOk_by (N := ["p", "one", "number", "item"]) (sc := defScope s_scaled) (by decide +kernel)) (fun _ _ _ _ _ => pg_name (i := 3) sc_scaled.nd rfl (by first | exact Or.inl rfl | exact Or.inr rfl)) (fun _ _ _ _ _ => pts_nil) (fun _ _ _ _ _ => (pe_op op_mul (pv 3) (pv 2)))) pa_nil))))), go_N h fun xs d hS => ?_⟩)
  obtain ⟨p, one, number, rfl, hpre, rfl⟩ := hS
  show Fin _ [.sh (.int p), .sh (.li one), .sh (.int number), .non] _
  have ⟨hp0, hp1, hp2⟩ := hpre
  refine fin_retN (dn_call (da_cons (de_var rfl) (da_cons (DE.ofN (dn_mapBI _ (dw_li (de_var rfl)) ?_ rfl fun x hx => ⟨_, dgc_name (by simp), (de_op (de_var rfl) (de_var rfl) (rd_mulC ?_)), rfl⟩)) da_nil)) rfl ⟨_, _,  rfl, ?_, rfl⟩) ⟨rfl, ?_⟩
  · walk_at "side"
  · exact .inr hpre.2.2
  · walk_at "side"
  · rfl
def S_multiplied (xs : List Dt) (d : Dt) : Prop := ∃ (p : Int) (one : List Int) (other : List Int), xs = [.int p, .li one, .li other] ∧ (0 < p ∧ one.length ≤ 1000 ∧ other.length ≤ 1000 ∧ ∀ x ∈ one, CMul1 x) ∧ d = .li (pmul p one other)
theorem ok_multiplied (T : Txt P K mg) : FnOk P w K mg base CX0 2 T.f_multiplied T.fd_multiplied ["p", "one", "other"] (SpN 3 S_multiplied) := by
  refine T.F_multiplied.ok sc_multiplied len_N (fun cdv A outer s H vs Q E hr h => ⟨_, (pss_cons (ps_set (i := 3) sc_multiplied.nd rfl (by first | exact Or.inl rfl | exact Or.inr rfl) (pe_op op_rep (pe_lst (pa_cons pe_int pa_nil)) (pe_op op_add (pe_callB (r := rLenS K) call_len_seq (by rfl) T.n_len PySem.boot_len (pa_cons (pv 1) pa_nil)) (pe_callB (r := rLenS K) call_len_seq (by rfl) T.n_len PySem.boot_len (pa_cons (pv 2) pa_nil)))))
      (pss_cons (ps_for PassesOwn.never rfl (pi_enum (by rfl) T.n_enumerate (pa_cons (pv 1) pa_nil)) (pg_tup rfl (pgs_cons (pg_name (i := 4) sc_multiplied.nd rfl (by first | exact Or.inl rfl | exact Or.inr rfl)) (pgs_cons (pg_name (i := 5) sc_multiplied.nd rfl (by first | exact Or.inl rfl | exact Or.inr rfl)) (pgs_nil)))) (pss_one (ps_for PassesOwn.never rfl (pi_enum (by rfl) T.n_enumerate (pa_cons (pv 2) pa_nil)) (pg_tup rfl (pgs_cons (pg_name (i := 6) sc_multiplied.nd rfl (by first | exact Or.inl rfl | exact Or.inr rfl)) (pgs_cons (pg_name (i := 7) sc_multiplied.nd rfl (by first | exact Or.inl rfl | exact Or.inr rfl)) (pgs_nil)))) (pss_one (ps_asg (pe_op op_add (pe_ix (r := rIxL K) ix_list (pv 3) (pe_op op_add (pv 4) (pv 6)) (fun _ _ => rfl)) (pe_op op_mul (pv 5) (pv 7))) (pg_sub (pv 3) (pe_op op_add (pv 4) (pv 6)) set_list))))))
      (pss_one (ps_ret (pe_call (ok_trimmed T) (hr.mono (by decide)) (by rfl) T.g_trimmed T.F_trimmed.kp T.b_trimmed .nil pass0 (pa_cons (pv 0) (pa_cons (pv 3) pa_nil))))))), go_N h fun xs d hS => ?_⟩)
  obtain ⟨p, one, other, rfl, hpre, rfl⟩ := hS
  show Fin _ [.sh (.int p), .sh (.li one), .sh (.li other), .non, .non, .non, .non, .non] _
  have ⟨hp0, hp1, hp2, hp3⟩ := hpre
  refine fin_seq (ds_setN (dn_op (DE.ofN (dn_liC (da_cons de_int da_nil) rfl (Nat.le_of_ble_eq_true rfl))) (de_op (de_cb (da_cons (de_var rfl) da_nil) cd_lenI) (de_cb (da_cons (de_var rfl) da_nil) cd_lenI) rd_I0) (rn_repI ?_))) ?_
  · walk_at "side"
  refine fin_seq (ds_fold (l := idx 0 one) (fun f => [.sh (.int p), .sh (.li one), .sh (.li other), .ow (.li f), .non, .non, .non, .non]) (mulStep other) (fun _ f => f.length = one.length + other.length) _ (dw_idxI (da_cons (de_var rfl) da_nil)) (by simp; omega) (fun i f q hq hf => ⟨tn_nx (dg_tup (dgs_cons dg_name (dgs_cons dg_name dgs_nil)) rfl) (ds_fold (l := idx 0 other) (fun f => [.sh (.int p), .sh (.li one), .sh (.li other), .ow (.li f), .sh (.int (q.1 : Nat)), .sh (.int q.2), .non, .non]) (mulStep2 q.1 q.2) (fun _ f => f.length = one.length + other.length) _ (dw_idxI (da_cons (de_var rfl) da_nil)) hf (fun i2 f q2 hq2 hf => ⟨tn_nx (dg_tup (dgs_cons dg_name (dgs_cons dg_name dgs_nil)) rfl) (ds_setIZ (de_op (de_opP rfl (by trivial) (de_op (de_var rfl) (de_var rfl) rd_I0) rfl has_ow (rd_ixZ ?_) rfl) (de_op (de_var rfl) (de_var rfl) (rd_mulC ?_)) rd_I0) (de_op (de_var rfl) (de_var rfl) rd_I0) rfl (by trivial) rfl has_ow ?_) (by (try dsimp only [List.set_cons_zero, List.set_cons_succ, t3]); (repeat (first | exact Weak.nil | refine Weak.keep ?_ | refine Weak.drop ?_))), ?_⟩)) (by (try dsimp only [List.set_cons_zero, List.set_cons_succ, t3]); (repeat (first | exact Weak.nil | refine Weak.keep ?_ | refine Weak.drop ?_))), ?_⟩)) ?_
  · have h1 := idx_get _ _ _ _ hq
    have h2 := idx_get _ _ _ _ hq2
    have h3 := (List.getElem?_eq_some_iff.mp h1.2).1
    have h4 := (List.getElem?_eq_some_iff.mp h2.2).1
    omega
  · have h1 := idx_get _ _ _ _ hq
    exact .inl (hpre.2.2.2 _ (List.mem_of_getElem? h1.2))
  · have h1 := idx_get _ _ _ _ hq
    have h2 := idx_get _ _ _ _ hq2
    have h3 := (List.getElem?_eq_some_iff.mp h1.2).1
    have h4 := (List.getElem?_eq_some_iff.mp h2.2).1
    omega
  · exact (setZ_len _ _ _).trans hf
  · rw [mulStep_len]; exact hf
  refine fin_retN (dn_call (da_cons (de_var rfl) (da_cons (de_varF rfl) da_nil)) rfl ⟨_, _,  rfl, ?_, rfl⟩) ⟨rfl, ?_⟩
  · have := mulL_len one other
    exact ⟨hpre.1, by show (mulL one other).length ≤ 10000; omega⟩
  · rfl
def S_inverse (xs : List Dt) (d : Dt) : Prop := ∃ (p : Int) (number : Int), xs = [.int p, .int number] ∧ (0 < p ∧ p < 1000 ∧ isInv p number) ∧ d = .int (inv p number)
theorem ok_inverse (T : Txt P K mg) : FnOk P w K mg base CX0 1 T.f_inverse T.fd_inverse ["p", "number"] (SpP 2 S_inverse) := by
  refine T.F_inverse.ok sc_inverse len_P (fun cdv A outer s H vs Q E hr h => ⟨_, (pss_one (ps_ret (pe_ix (r := rIxL K) ix_list (pe_lc (own := [("low", 2)]) (g := gName 2) rfl sc_inverse.nd (pi_range2 (by rfl) T.n_range (pa_cons pe_int (pa_cons (pv 0) pa_nil))) (blkOk_by (N := ["p", "number", "low"]) (sc := defScope s_inverse) (by decide +kernel)) (fun _ _ _ _ _ => pg_name (i := 2) sc_inverse.nd rfl (by first | exact Or.inl rfl | exact Or.inr rfl)) (fun _ _ _ _ _ => pts_one (pt_cmpR op_eq (pe_op op_mod (pe_op op_mul (pv 2) (pv 1)) (pv 0)) pe_int (nomark _))) (fun _ _ _ _ _ => (pv 2))) pe_int (fun _ _ => rfl)))), go_P h fun xs d hS => ?_⟩)
  obtain ⟨p, number, rfl, hpre, rfl⟩ := hS
  show Fin _ [.sh (.int p), .sh (.int number), .non] _
  have ⟨hp0, hp1, hp2⟩ := hpre
  refine fin_ret (de_op (DE.ofN (dn_lcBI _ _ (dw_rng2 (da_cons de_int (da_cons (de_var rfl) da_nil)) ?_) ?_ rfl fun x hx => ⟨_, dgc_name (by simp), (dt_test (de_op (de_op (de_op (de_var rfl) (de_var rfl) (rd_mulC ?_)) (de_var rfl) (rd_mod ?_)) de_int (rd_eqI))), fun hf => (de_var rfl), rfl⟩)) de_int (rd_ixZ ?_)) ?_
  · walk_at "side"
  · walk_at "side"
  · exact .inl (by have := List.mem_range.mp hx; omega)
  · walk_at "side"
  · have := List.length_pos_iff.mpr hpre.2.2
    unfold invs at this
    omega
  · exact congrArg Dt.int (gZ_gI (invs p number) 0)
end
end K7

end

section
set_option Elab.async false
set_option linter.all false
set_option maxRecDepth 100000
set_option autoImplicit false
set_option maxHeartbeats 4000000
namespace K7
open PySem PySem.Spec PyProof.Rows L2 DL Mi
local macro_rules | `(tactic| walk_at "side") => `(tactic| first | trivial | assumption | omega | exact .inl (by omega) | exact .inr (by omega) | ((try simp only [List.length_append, List.length_replicate, List.length_map, List.length_range, List.mem_range, List.length_cons, List.length_nil, List.length_dropLast, List.length_set, gZ_gI, setZ_len] at *); (repeat' (first | apply And.intro | split)) <;> (first | assumption | omega)) | fail "side")
section
variable {P : Program} {w : World} {K : PySem.W.Frag} {mg : Str → Option Value} {base : Heap}
def S_parted (xs : List Dt) (d : Dt) : Prop := ∃ (p : Int) (one : List Int) (other : List Int), xs = [.int p, .li one, .li other] ∧ (0 < p ∧ p < 1000 ∧ one.length ≤ 1000 ∧ other.length ≤ 1000 ∧ other ≠ [] ∧ isInv p (DL.gZ other (-1))) ∧ d = .tup [.li (parQ p one other), .li (parR p one other)]
theorem ok_parted (T : Txt P K mg) : FnOk P w K mg base CX0 2 T.f_parted T.fd_parted ["p", "one", "other"] (SpP 3 S_parted) := by
  refine T.F_parted.ok sc_parted len_P (fun cdv A outer s H vs Q E hr h => ⟨_, (pss_cons (ps_par3 (i := 3) (j := 4) (l := 5) rfl sc_parted.nd rfl rfl rfl (by decide) (by decide) (by decide) rfl rfl rfl (pa_cons (pe_callTy (r := rListS K) call_list_of (by rfl) T.n_list (by decide +kernel) (pa_cons (pv 1) pa_nil)) (pa_cons (pe_op op_rep (pe_lst (pa_cons pe_int pa_nil)) (pe_callB (call_max2 rfl) (by rfl) T.n_max (by decide +kernel) (pa_cons (pe_op op_add (pe_op op_sub (pe_callB (r := rLenS K) call_len_seq (by rfl) T.n_len PySem.boot_len (pa_cons (pv 1) pa_nil)) (pe_callB (r := rLenS K) call_len_seq (by rfl) T.n_len PySem.boot_len (pa_cons (pv 2) pa_nil))) pe_int) (pa_cons pe_int pa_nil)))) (pa_cons (pe_call (ok_inverse T) (hr.mono (by decide)) (by rfl) T.g_inverse T.F_inverse.kp T.b_inverse .nil pass0 (pa_cons (pv 0) (pa_cons (pe_ix (r := rIxL K) ix_list (pv 2) (pe_un un_neg pe_int) (fun _ _ => rfl)) pa_nil))) pa_nil))) (by rfl))
      (pss_cons (ps_for PassesOwn.never rfl (pi_range3 (by rfl) T.n_range (pa_cons (pe_op op_sub (pe_callB (r := rLenS K) call_len_seq (by rfl) T.n_len PySem.boot_len (pa_cons (pv 1) pa_nil)) (pe_callB (r := rLenS K) call_len_seq (by rfl) T.n_len PySem.boot_len (pa_cons (pv 2) pa_nil))) (pa_cons (pe_un un_neg pe_int) (pa_cons (pe_un un_neg pe_int) pa_nil)))) (pg_name (i := 6) sc_parted.nd rfl (by first | exact Or.inl rfl | exact Or.inr rfl)) (pss_cons (ps_set (i := 7) sc_parted.nd rfl (by first | exact Or.inl rfl | exact Or.inr rfl) (pe_op op_mod (pe_op op_mul (pe_ix (r := rIxL K) ix_list (pv 3) (pe_op op_sub (pe_op op_add (pv 6) (pe_callB (r := rLenS K) call_len_seq (by rfl) T.n_len PySem.boot_len (pa_cons (pv 2) pa_nil))) pe_int) (fun _ _ => rfl)) (pv 5)) (pv 0)))
      (pss_cons (ps_asg (pv 7) (pg_sub (pv 4) (pv 6) set_list))
      (pss_one (ps_for PassesOwn.never rfl (pi_enum (by rfl) T.n_enumerate (pa_cons (pv 2) pa_nil)) (pg_tup rfl (pgs_cons (pg_name (i := 8) sc_parted.nd rfl (by first | exact Or.inl rfl | exact Or.inr rfl)) (pgs_cons (pg_name (i := 9) sc_parted.nd rfl (by first | exact Or.inl rfl | exact Or.inr rfl)) (pgs_nil)))) (pss_one (ps_asg (pe_op op_mod (pe_op op_sub (pe_ix (r := rIxL K) ix_list (pv 3) (pe_op op_add (pv 6) (pv 8)) (fun _ _ => rfl)) (pe_op op_mul (pv 7) (pv 9))) (pv 0)) (pg_sub (pv 3) (pe_op op_add (pv 6) (pv 8)) set_list))))))))
      (pss_one (ps_ret (pe_tup (pa_cons (pe_call (ok_trimmed T) (hr.mono (by decide)) (by rfl) T.g_trimmed T.F_trimmed.kp T.b_trimmed .nil pass0 (pa_cons (pv 0) (pa_cons (pv 4) pa_nil))) (pa_cons (pe_call (ok_trimmed T) (hr.mono (by decide)) (by rfl) T.g_trimmed T.F_trimmed.kp T.b_trimmed .nil pass0 (pa_cons (pv 0) (pa_cons (pv 3) pa_nil))) pa_nil))))))), go_P h fun xs d hS => ?_⟩)
  obtain ⟨p, one, other, rfl, hpre, rfl⟩ := hS
  show Fin _ [.sh (.int p), .sh (.li one), .sh (.li other), .non, .non, .non, .non, .non, .non, .non] _
  have ⟨hp0, hp1, hp2, hp3, hp4, hp5⟩ := hpre
  have hpos := List.length_pos_iff.mpr hpre.2.2.2.2.1
  have hpl := parL_len p one other
  refine fin_seq (ds_par3M (dm_ow (dn_cb (da_cons (de_var rfl) da_nil) cn_listI) (dm_ow (dn_op (DE.ofN (dn_liC (da_cons de_int da_nil) rfl (Nat.le_of_ble_eq_true rfl))) (de_cb (da_cons (de_op (de_op (de_cb (da_cons (de_var rfl) da_nil) cd_lenI) (de_cb (da_cons (de_var rfl) da_nil) cd_lenI) rd_I0) de_int rd_I0) (da_cons de_int da_nil)) cd_max2) (rn_repI ?_)) (dm_sh (de_call (da_cons (de_var rfl) (da_cons (de_op (de_var rfl) (de_un de_int ud_neg) (rd_ixZ ?_)) da_nil)) rfl ⟨_, _,  rfl, ?_, rfl⟩) dm_nil))) (by decide) (by decide) (by decide)) ?_
  · walk_at "side"
  · walk_at "side"
  · walk_at "side"
  refine fin_seq (ds_fold (l := List.range (parN one other)) (fun s => [.sh (.int p), .sh (.li one), .sh (.li other), .ow (.li s.1), .ow (.li s.2), .sh (.int (inv p (gZ other (-1)))), .non, .non, .non, .non]) (parStep p one other (inv p (gZ other (-1)))) (fun _ s => s.1.length = one.length ∧ s.2.length = (mxI ((one.length : Int) - (other.length : Int) + 1) 0).toNat) (one, List.replicate (mxI ((one.length : Int) - (other.length : Int) + 1) 0).toNat 0) (dw_rng3 (da_cons (de_op (de_cb (da_cons (de_var rfl) da_nil) cd_lenI) (de_cb (da_cons (de_var rfl) da_nil) cd_lenI) rd_I0) (da_cons (de_un de_int ud_neg) (da_cons (de_un de_int ud_neg) da_nil))) ?_) ⟨rfl, List.length_replicate⟩ (fun i s k hk hs => ?_)) ?_
  · exact RgC.neg (by omega) (by omega) (by omega) (by omega)
  · have hk1 : k < parN one other := List.mem_range.mp (List.mem_of_getElem? hk)
    have hi1 := hs.1
    have hi2 := hs.2
    unfold mxI at hi2
    unfold parN at hk1
    have hb := inv_bd hp5
    have hn := parNum_bd hp0 other (inv p (gZ other (-1))) (parAt one other k) s.1
    have ha : parAt one other k = (one.length : Int) - (other.length : Int) + (k : Int) * -1 := rfl
    refine ⟨tn_nx dg_name (ds_seq (ds_set (de_op (de_op (de_opP rfl (by trivial) (de_op (de_op (de_var rfl) (de_cb (da_cons (de_var rfl) da_nil) cd_lenI) rd_I0) de_int rd_I0) rfl has_ow (rd_ixZ ?_) rfl) (de_var rfl) (rd_mulC ?_)) (de_var rfl) (rd_mod ?_)))
      (ds_seq (ds_setIZ (de_var rfl) (de_var rfl) rfl (by trivial) rfl has_ow ?_)
      (    ds_fold (l := idx 0 other) (fun f => [.sh (.int p), .sh (.li one), .sh (.li other), .ow (.li f), .ow (.li (setZ s.2 (parAt one other k) (parNum p other (inv p (gZ other (-1))) (parAt one other k) s.1))), .sh (.int (inv p (gZ other (-1)))), .sh (.int (parAt one other k)), .sh (.int (parNum p other (inv p (gZ other (-1))) (parAt one other k) s.1)), .non, .non]) (parStep2 p (parAt one other k) (parNum p other (inv p (gZ other (-1))) (parAt one other k) s.1)) (fun _ f => f.length = one.length) _ (dw_idxI (da_cons (de_var rfl) da_nil)) hi1 (fun i2 f q2 hq2 hf => have h3 := idx_lt hq2; ⟨tn_nx (dg_tup (dgs_cons dg_name (dgs_cons dg_name dgs_nil)) rfl) (ds_setIZ (de_op (de_op (de_opP rfl (by trivial) (de_op (de_var rfl) (de_var rfl) rd_I0) rfl has_ow (rd_ixZ ?_) rfl) (de_op (de_var rfl) (de_var rfl) (rd_mulC ?_)) rd_I0) (de_var rfl) (rd_mod ?_)) (de_op (de_var rfl) (de_var rfl) rd_I0) rfl (by trivial) rfl has_ow ?_) (by (try dsimp only [List.set_cons_zero, List.set_cons_succ, t3]); (repeat (first | exact Weak.nil | refine Weak.keep ?_ | refine Weak.drop ?_))), (setZ_len _ _ _).trans hf⟩)))) (by (try dsimp only [List.set_cons_zero, List.set_cons_succ, t3]); (repeat (first | exact Weak.nil | refine Weak.keep ?_ | refine Weak.drop ?_))), ?_⟩
    all_goals first | exact ⟨(parStep_len _ _ _ _ _ _).1.trans hs.1, (parStep_len _ _ _ _ _ _).2.trans hs.2⟩ | walk_at "side" 
  refine fin_ret (de_tup (da_cons (DE.ofN (dn_call (da_cons (de_var rfl) (da_cons (de_varF rfl) da_nil)) rfl ⟨_, _,  rfl, ?_, rfl⟩)) (da_cons (DE.ofN (dn_call (da_cons (de_var rfl) (da_cons (de_varF rfl) da_nil)) rfl ⟨_, _,  rfl, ?_, rfl⟩)) da_nil)) (Nat.le_of_ble_eq_true rfl)) ?_
  · exact ⟨hp0, Nat.le_trans hpl.2 (by omega)⟩
  · exact ⟨hp0, Nat.le_trans (Nat.le_of_eq hpl.1) (by omega)⟩
  · rfl
end
end K7

end

section
set_option Elab.async false
set_option linter.all false
set_option maxRecDepth 100000
set_option autoImplicit false
set_option maxHeartbeats 4000000
namespace K7
open PySem PySem.Spec PyProof.Rows L2 DL Mi
local macro_rules | `(tactic| walk_at "side") => `(tactic| first | trivial | assumption | omega | exact .inl (by omega) | exact .inr (by omega) | ((try simp only [List.length_append, List.length_replicate, List.length_map, List.length_range, List.mem_range, List.length_cons, List.length_nil, List.length_dropLast, List.length_set, gZ_gI, setZ_len] at *); (repeat' (first | apply And.intro | split)) <;> (first | assumption | omega)) | fail "side")
section
variable {P : Program} {w : World} {K : PySem.W.Frag} {mg : Str → Option Value} {base : Heap}
def S_common_with (xs : List Dt) (d : Dt) : Prop := ∃ (p : Int) (one : List Int) (other : List Int), xs = [.int p, .li one, .li other] ∧ (PP p ∧ Nm p one ∧ Nm p other ∧ one.length ≤ 20 ∧ other.length ≤ 19) ∧ d = t3 (com p one other)
theorem ok_common_with (T : Txt P K mg) : FnOk P w K mg base CX0 4 T.f_common_with T.fd_common_with ["p", "one", "other"] (SpP 3 S_common_with) := by
  refine T.F_common_with.ok sc_common_with len_P (fun cdv A outer s H vs Q E hr h => ⟨_, (pss_cons (ps_par (i := 3) (j := 4) rfl sc_common_with.nd rfl rfl (by decide) rfl rfl (pa_cons (pe_tup (pa_cons (pe_callTy (r := rListS K) call_list_of (by rfl) T.n_list (by decide +kernel) (pa_cons (pv 1) pa_nil)) (pa_cons (pe_lst (pa_cons pe_int pa_nil)) (pa_cons (pe_lst pa_nil) pa_nil)))) (pa_cons (pe_tup (pa_cons (pe_callTy (r := rListS K) call_list_of (by rfl) T.n_list (by decide +kernel) (pa_cons (pv 2) pa_nil)) (pa_cons (pe_lst pa_nil) (pa_cons (pe_lst (pa_cons pe_int pa_nil)) pa_nil)))) pa_nil)) (by rfl))
      (pss_cons (ps_while PassesOwn.never (pt_cmpR (r := rNeD K) (op_neD hr.units) (pe_ix (r := rIxT K) ix_tup (pv 4) pe_int (fun _ _ => rfl)) (pe_lst pa_nil) (nomark _)) (pss_cons (ps_asg (pe_call (ok_parted T) (hr.mono (by decide)) (by rfl) T.g_parted T.F_parted.kp T.b_parted .nil pass0 (pa_cons (pv 0) (pa_cons (pe_ix (r := rIxT K) ix_tup (pv 3) pe_int (fun _ _ => rfl)) (pa_cons (pe_ix (r := rIxT K) ix_tup (pv 4) pe_int (fun _ _ => rfl)) pa_nil)))) (pg_tup rfl (pgs_cons (pg_name (i := 5) sc_common_with.nd rfl (by first | exact Or.inl rfl | exact Or.inr rfl)) (pgs_cons (pg_name (i := 6) sc_common_with.nd rfl (by first | exact Or.inl rfl | exact Or.inr rfl)) (pgs_nil)))))
      (pss_cons (ps_set (i := 7) sc_common_with.nd rfl (by first | exact Or.inl rfl | exact Or.inr rfl) (pe_call (ok_lessened T) (hr.mono (by decide)) (by rfl) T.g_lessened T.F_lessened.kp T.b_lessened .nil pass0 (pa_cons (pv 0) (pa_cons (pe_ix (r := rIxT K) ix_tup (pv 3) pe_int (fun _ _ => rfl)) (pa_cons (pe_call (ok_multiplied T) (hr.mono (by decide)) (by rfl) T.g_multiplied T.F_multiplied.kp T.b_multiplied .nil pass0 (pa_cons (pv 0) (pa_cons (pv 5) (pa_cons (pe_ix (r := rIxT K) ix_tup (pv 4) pe_int (fun _ _ => rfl)) pa_nil)))) pa_nil)))))
      (pss_cons (ps_set (i := 8) sc_common_with.nd rfl (by first | exact Or.inl rfl | exact Or.inr rfl) (pe_call (ok_lessened T) (hr.mono (by decide)) (by rfl) T.g_lessened T.F_lessened.kp T.b_lessened .nil pass0 (pa_cons (pv 0) (pa_cons (pe_ix (r := rIxT K) ix_tup (pv 3) pe_int (fun _ _ => rfl)) (pa_cons (pe_call (ok_multiplied T) (hr.mono (by decide)) (by rfl) T.g_multiplied T.F_multiplied.kp T.b_multiplied .nil pass0 (pa_cons (pv 0) (pa_cons (pv 5) (pa_cons (pe_ix (r := rIxT K) ix_tup (pv 4) pe_int (fun _ _ => rfl)) pa_nil)))) pa_nil)))))
      (pss_one (ps_par (i := 3) (j := 4) rfl sc_common_with.nd rfl rfl (by decide) rfl rfl (pa_cons (pv 4) (pa_cons (pe_tup (pa_cons (pv 6) (pa_cons (pv 7) (pa_cons (pv 8) pa_nil)))) pa_nil)) (by rfl)))))))
      (pss_cons (ps_if (pt_cmpR (r := rEqD K) (op_eqD hr.units) (pe_ix (r := rIxT K) ix_tup (pv 3) pe_int (fun _ _ => rfl)) (pe_lst pa_nil) (nomark _)) (pss_one (ps_ret (pe_tup (pa_cons (pe_lst pa_nil) (pa_cons (pe_lst pa_nil) (pa_cons (pe_lst pa_nil) pa_nil)))))) pss_nil)
      (pss_cons (ps_set (i := 9) sc_common_with.nd rfl (by first | exact Or.inl rfl | exact Or.inr rfl) (pe_call (ok_inverse T) (hr.mono (by decide)) (by rfl) T.g_inverse T.F_inverse.kp T.b_inverse .nil pass0 (pa_cons (pv 0) (pa_cons (pe_ix (r := rIxL K) ix_list (pe_ix (r := rIxT K) ix_tup (pv 3) pe_int (fun _ _ => rfl)) (pe_un un_neg pe_int) (fun _ _ => rfl)) pa_nil))))
      (pss_one (ps_ret (pe_tup (pa_cons (pe_call (ok_scaled T) (hr.mono (by decide)) (by rfl) T.g_scaled T.F_scaled.kp T.b_scaled .nil pass0 (pa_cons (pv 0) (pa_cons (pe_ix (r := rIxT K) ix_tup (pv 3) pe_int (fun _ _ => rfl)) (pa_cons (pv 9) pa_nil)))) (pa_cons (pe_call (ok_scaled T) (hr.mono (by decide)) (by rfl) T.g_scaled T.F_scaled.kp T.b_scaled .nil pass0 (pa_cons (pv 0) (pa_cons (pe_ix (r := rIxT K) ix_tup (pv 3) pe_int (fun _ _ => rfl)) (pa_cons (pv 9) pa_nil)))) (pa_cons (pe_call (ok_scaled T) (hr.mono (by decide)) (by rfl) T.g_scaled T.F_scaled.kp T.b_scaled .nil pass0 (pa_cons (pv 0) (pa_cons (pe_ix (r := rIxT K) ix_tup (pv 3) pe_int (fun _ _ => rfl)) (pa_cons (pv 9) pa_nil)))) pa_nil)))))))))), go_P h fun xs d hS => ?_⟩)
  obtain ⟨p, one, other, rfl, hpre, rfl⟩ := hS
  show Fin _ [.sh (.int p), .sh (.li one), .sh (.li other), .non, .non, .non, .non, .non, .non, .non] _
  have ⟨hp0, hp1, hp2, hp3, hp4⟩ := hpre
  have hpb := hp0.bd
  have hEi := eu_inv hp0 hp1 hp2 hp3 hp4
  refine fin_seq (ds_par (da_cons (de_tup (da_cons (DE.ofN (dn_cb (da_cons (de_var rfl) da_nil) cn_listI)) (da_cons (DE.ofN (dn_liC (da_cons de_int da_nil) rfl (Nat.le_of_ble_eq_true rfl))) (da_cons (DE.ofN (dn_liC da_nil rfl (Nat.le_of_ble_eq_true rfl))) da_nil))) (Nat.le_of_ble_eq_true rfl)) (da_cons (de_tup (da_cons (DE.ofN (dn_cb (da_cons (de_var rfl) da_nil) cn_listI)) (da_cons (DE.ofN (dn_liC da_nil rfl (Nat.le_of_ble_eq_true rfl))) (da_cons (DE.ofN (dn_liC (da_cons de_int da_nil) rfl (Nat.le_of_ble_eq_true rfl))) da_nil))) (Nat.le_of_ble_eq_true rfl)) da_nil))) ?_
  refine fin_seq (ds_whl (fun s : T3 × T3 => [.sh (.int p), .sh (.li one), .sh (.li other), .sh (t3 s.1), .sh (t3 s.2), .non, .non, .non, .non, .non]) euT (euS p) (EuI p) (fun s hs => (dt_test (de_op (de_op (de_var rfl) de_int (rd_ixT rfl)) (DE.ofN (dn_liC da_nil rfl (Nat.le_of_ble_eq_true rfl))) (rd_neL)))) (fun s hs hc => ⟨?_, (hs.step hp0 hc).1⟩) other.length ((one, [1], []), (other, [], [1])) (EuI.start hp1 hp2 hp3 hp4) (eu_stop hp0 hp1 hp2 hp3 hp4)) ?_
  · have hf := hs.facts hp0 hc
    have hfe := hf.ne; have hfi := hf.iv; have hfq := hf.q; have hfr := hf.r; have hfb := hf.qb; have hfm := hf.m1; have hfn := hf.m2
    have hx1 := hs.l1; have hx2 := hs.l2; have hx3 := hs.a1; have hx4 := hs.a2; have hx5 := hs.b1; have hx6 := hs.b2
    obtain ⟨⟨a1, a2, a3⟩, b1, b2, b3⟩ := s
    unfold euS
    dsimp only at hfe hfi hfq hfr hfb hfm hfn hx1 hx2 hx3 hx4 hx5 hx6 ⊢
    refine ds_weak (ds_seq (ds_asg (de_call (da_cons (de_var rfl) (da_cons (de_op (de_var rfl) de_int (rd_ixT rfl)) (da_cons (de_op (de_var rfl) de_int (rd_ixT rfl)) da_nil))) rfl ⟨_, _, _,  rfl, ?_, rfl⟩) (dg_tup (dgs_cons dg_name (dgs_cons dg_name dgs_nil)) rfl))
      (ds_seq (ds_set (DE.ofN (dn_call (da_cons (de_var rfl) (da_cons (de_op (de_var rfl) de_int (rd_ixT rfl)) (da_cons (DE.ofN (dn_call (da_cons (de_var rfl) (da_cons (de_var rfl) (da_cons (de_op (de_var rfl) de_int (rd_ixT rfl)) da_nil))) rfl ⟨_, _, _,  rfl, ?_, rfl⟩)) da_nil))) rfl ⟨_, _, _,  rfl, ?_, rfl⟩)))
      (ds_seq (ds_set (DE.ofN (dn_call (da_cons (de_var rfl) (da_cons (de_op (de_var rfl) de_int (rd_ixT rfl)) (da_cons (DE.ofN (dn_call (da_cons (de_var rfl) (da_cons (de_var rfl) (da_cons (de_op (de_var rfl) de_int (rd_ixT rfl)) da_nil))) rfl ⟨_, _, _,  rfl, ?_, rfl⟩)) da_nil))) rfl ⟨_, _, _,  rfl, ?_, rfl⟩)))
      (ds_par (da_cons (de_var rfl) (da_cons (de_tup (da_cons (de_var rfl) (da_cons (de_var rfl) (da_cons (de_var rfl) da_nil))) (Nat.le_of_ble_eq_true rfl)) da_nil)))))) (by (try dsimp only [List.set_cons_zero, List.set_cons_succ, t3]); (repeat (first | exact Weak.nil | refine Weak.keep ?_ | refine Weak.drop ?_)))
    all_goals walk_at "side"
  show Fin _ [.sh (.int p), .sh (.li one), .sh (.li other), .sh (t3 (euE p one other).1), .sh (t3 (euE p one other).2), .non, .non, .non, .non, .non] (fun _ e _ => e = t3 (comE p (euE p one other)))
  generalize euE p one other = E at hEi ⊢
  obtain ⟨⟨e1, e2, e3⟩, f⟩ := E
  have hn := hEi.n1
  have hl := hEi.l1
  have hl2 := hEi.a1
  have hl3 := hEi.a2
  dsimp only [t3] at hn hl hl2 hl3 ⊢
  refine fin_when (dt_test (de_op (de_op (de_var rfl) de_int (rd_ixT rfl)) (DE.ofN (dn_liC da_nil rfl (Nat.le_of_ble_eq_true rfl))) (rd_eqL))) (fun hb0 => ?_) (fun hb0 => ?_)
  ·
    refine fin_ret (de_tup (da_cons (DE.ofN (dn_liC da_nil rfl (Nat.le_of_ble_eq_true rfl))) (da_cons (DE.ofN (dn_liC da_nil rfl (Nat.le_of_ble_eq_true rfl))) (da_cons (DE.ofN (dn_liC da_nil rfl (Nat.le_of_ble_eq_true rfl))) da_nil))) (Nat.le_of_ble_eq_true rfl)) ?_
    · unfold comE
      rw [if_pos (of_decide_eq_true hb0)]
  have hne := of_decide_eq_false hb0
  have hiv := hn.inv hp0 hne
  have hb := inv_bd hiv
  have hpos := List.length_pos_iff.mpr hne
  refine fin_seq (ds_set (de_call (da_cons (de_var rfl) (da_cons (de_op (de_op (de_var rfl) de_int (rd_ixT rfl)) (de_un de_int ud_neg) (rd_ixZ ?_)) da_nil)) rfl ⟨_, _,  rfl, ?_, rfl⟩)) ?_
  · walk_at "side"
  · walk_at "side"
  refine fin_ret (de_tup (da_cons (DE.ofN (dn_call (da_cons (de_var rfl) (da_cons (de_op (de_var rfl) de_int (rd_ixT rfl)) (da_cons (de_var rfl) da_nil))) rfl ⟨_, _, _,  rfl, ?_, rfl⟩)) (da_cons (DE.ofN (dn_call (da_cons (de_var rfl) (da_cons (de_op (de_var rfl) de_int (rd_ixT rfl)) (da_cons (de_var rfl) da_nil))) rfl ⟨_, _, _,  rfl, ?_, rfl⟩)) (da_cons (DE.ofN (dn_call (da_cons (de_var rfl) (da_cons (de_op (de_var rfl) de_int (rd_ixT rfl)) (da_cons (de_var rfl) da_nil))) rfl ⟨_, _, _,  rfl, ?_, rfl⟩)) da_nil))) (Nat.le_of_ble_eq_true rfl)) ?_
  · walk_at "side"
  · walk_at "side"
  · walk_at "side"
  · unfold comE
    rw [if_neg (of_decide_eq_false hb0)]
def S_common_of (xs : List Dt) (d : Dt) : Prop := ∃ (p : Int) (one : List Int) (other : List Int), xs = [.int p, .li one, .li other] ∧ (PP p ∧ Nm p one ∧ Nm p other ∧ one.length ≤ 20 ∧ other.length ≤ 19) ∧ d = .li (com p one other).1
theorem ok_common_of (T : Txt P K mg) : FnOk P w K mg base CX0 5 T.f_common_of T.fd_common_of ["p", "one", "other"] (SpP 3 S_common_of) := by
  refine T.F_common_of.ok sc_common_of len_P (fun cdv A outer s H vs Q E hr h => ⟨_, (pss_one (ps_ret (pe_ix (r := rIxT K) ix_tup (pe_call (ok_common_with T) (hr.mono (by decide)) (by rfl) T.g_common_with T.F_common_with.kp T.b_common_with .nil pass0 (pa_cons (pv 0) (pa_cons (pv 1) (pa_cons (pv 2) pa_nil)))) pe_int (fun _ _ => rfl)))), go_P h fun xs d hS => ?_⟩)
  obtain ⟨p, one, other, rfl, hpre, rfl⟩ := hS
  show Fin _ [.sh (.int p), .sh (.li one), .sh (.li other)] _
  have ⟨hp0, hp1, hp2, hp3, hp4⟩ := hpre
  refine fin_ret (de_op (de_call (da_cons (de_var rfl) (da_cons (de_var rfl) (da_cons (de_var rfl) da_nil))) rfl ⟨_, _, _,  rfl, ?_, rfl⟩) de_int (rd_ixT rfl)) ?_
  · walk_at "side"
  · rfl
def S_slope_of (xs : List Dt) (d : Dt) : Prop := ∃ (p : Int) (one : List Int), xs = [.int p, .li one] ∧ (0 < p ∧ one.length ≤ 1000) ∧ d = .li (slope p one)
theorem ok_slope_of (T : Txt P K mg) : FnOk P w K mg base CX0 2 T.f_slope_of T.fd_slope_of ["p", "one"] (SpN 2 S_slope_of) := by
  refine T.F_slope_of.ok sc_slope_of len_N (fun cdv A outer s H vs Q E hr h => ⟨_, (pss_one (ps_ret (pe_call (ok_trimmed T) (hr.mono (by decide)) (by rfl) T.g_trimmed T.F_trimmed.kp T.b_trimmed .nil pass0 (pa_cons (pv 0) (pa_cons (pe_slice (r := rSlL K) sl_list (pe_lc (own := [("at", 2), ("number", 3)]) (g := gTup K 2 (gCons (gName 2) (gCons (gName 3) (gNil)))) rfl sc_slope_of.nd (pi_enum (by rfl) T.n_enumerate (pa_cons (pv 1) pa_nil)) (blkOk_by (N := ["p", "one", "at", "number"]) (sc := defScope s_slope_of) (by decide +kernel)) (fun _ _ _ _ _ => pg_tup rfl (pgs_cons (pg_name (i := 2) sc_slope_of.nd rfl (by first | exact Or.inl rfl | exact Or.inr rfl)) (pgs_cons (pg_name (i := 3) sc_slope_of.nd rfl (by first | exact Or.inl rfl | exact Or.inr rfl)) (pgs_nil)))) (fun _ _ _ _ _ => pts_nil) (fun _ _ _ _ _ => (pe_op op_mul (pv 2) (pv 3)))) (po_some pe_int) po_none) pa_nil))))), go_N h fun xs d hS => ?_⟩)
  obtain ⟨p, one, rfl, hpre, rfl⟩ := hS
  show Fin _ [.sh (.int p), .sh (.li one), .non, .non] _
  have ⟨hp0, hp1⟩ := hpre
  refine fin_retN (dn_call (da_cons (de_var rfl) (da_cons (DE.ofN (dn_sliceI (DE.ofN (dn_mapBI _ (dw_idxI (da_cons (de_var rfl) da_nil)) ?_ rfl fun x hx => ⟨_, dgc_two (by simp) (by simp), (de_op (de_var rfl) (de_var rfl) (rd_mulC ?_)), rfl⟩)) (do_some de_int) do_none)) da_nil)) rfl ⟨_, _,  rfl, ?_, rfl⟩) ⟨rfl, ?_⟩
  · rw [idx_len]; omega
  · exact .inl (by have h1 := (idx_mem hx).1; omega)
  · refine ⟨hp0, Nat.le_trans (cut_len _ _ _) ?_⟩
    rw [List.length_map, idx_len]
    omega
  · rfl
end
end K7

end

section
set_option Elab.async false
set_option linter.all false
set_option maxRecDepth 100000
set_option autoImplicit false
set_option maxHeartbeats 4000000
namespace K7
open PySem PySem.Spec PyProof.Rows L2 DL Mi
local macro_rules | `(tactic| walk_at "side") => `(tactic| first | trivial | assumption | omega | exact .inl (by omega) | exact .inr (by omega) | ((try simp only [List.length_append, List.length_replicate, List.length_map, List.length_range, List.mem_range, List.length_cons, List.length_nil, List.length_dropLast, List.length_set, gZ_gI, setZ_len] at *); (repeat' (first | apply And.intro | split)) <;> (first | assumption | omega)) | fail "side")
section
variable {P : Program} {w : World} {K : PySem.W.Frag} {mg : Str → Option Value} {base : Heap}
def S_is_whole (xs : List Dt) (d : Dt) : Prop := ∃ (value : Dt), xs = [value] ∧ (Sc value) ∧ d = .bl (isWh value)
theorem ok_is_whole (T : Txt P K mg) : FnOk P w K mg base CX0 1 T.f_is_whole T.fd_is_whole ["value"] (SpP 1 S_is_whole) := by
  refine T.F_is_whole.ok sc_is_whole len_P (fun cdv A outer s H vs Q E hr h => ⟨_, (pss_one (ps_ret (pe_and (pe_callB (r := rIsi K) call_isi (by rfl) T.n_isinstance (by decide +kernel) (pa_cons (pv 0) (pa_cons (pe_bltn (v := .ty "int") (by rfl) T.n_int (by decide +kernel) rfl) pa_nil))) (pe_one (pe_not (pe_callB (r := rIsi K) call_isi (by rfl) T.n_isinstance (by decide +kernel) (pa_cons (pv 0) (pa_cons (pe_bltn (v := .ty "bool") (by rfl) T.n_bool (by decide +kernel) rfl) pa_nil)))))))), go_P h fun xs d hS => ?_⟩)
  obtain ⟨value, rfl, hpre, rfl⟩ := hS
  show Fin _ [.sh (value)] _
  rcases hpre with rfl | ⟨b, rfl⟩ | ⟨i, rfl⟩ | ⟨x, rfl⟩
  all_goals exact fin_ret (de_and (de_cb (da_cons (de_var rfl) (da_cons de_ty da_nil)) (cd_isiT trivial rfl)) fun hq1 => (de_not (de_cb (da_cons (de_var rfl) (da_cons de_ty da_nil)) (cd_isiT trivial rfl)))) rfl
def S_is_between (xs : List Dt) (d : Dt) : Prop := ∃ (value : Dt) (low : Int) (high : Int), xs = [value, .int low, .int high] ∧ (Sc value) ∧ d = .bl (isBt value low high)
theorem ok_is_between (T : Txt P K mg) : FnOk P w K mg base CX0 2 T.f_is_between T.fd_is_between ["value", "low", "high"] (SpP 3 S_is_between) := by
  refine T.F_is_between.ok sc_is_between len_P (fun cdv A outer s H vs Q E hr h => ⟨_, (pss_one (ps_ret (pe_and (pe_call (ok_is_whole T) (hr.mono (by decide)) (by rfl) T.g_is_whole T.F_is_whole.kp T.b_is_whole .nil pass0 (pa_cons (pv 0) pa_nil)) (pe_and (pe_cmpR op_ge (pv 0) (pv 1) (nomark _)) (pe_one (pe_or (pe_cmpR op_isN (pv 2) pe_non (nomark _)) (pe_one (pe_cmpR op_le (pv 0) (pv 2) (nomark _))))))))), go_P h fun xs d hS => ?_⟩)
  obtain ⟨value, low, high, rfl, hpre, rfl⟩ := hS
  show Fin _ [.sh (value), .sh (.int low), .sh (.int high)] _
  by_cases hw : ∃ i, value = .int i
  · obtain ⟨i, rfl⟩ := hw
    refine fin_ret (de_and (b := isBt (.int i) low high) (a := true) (de_call (da_cons (de_var rfl) da_nil) rfl ⟨_, rfl, ?_, rfl⟩) fun _ => ?_) ?_
    · exact .inr (.inr (.inl ⟨i, rfl⟩))
    · exact de_and (de_op (de_var rfl) (de_var rfl) (rd_B0)) fun _ => (DEq (de_or (a := false) (de_op (de_var rfl) de_non (rd_isN (fun z => nomatch z))) fun _ => (de_op (de_var rfl) (de_var rfl) (rd_B0))))
    · rfl
  · refine fin_ret (de_andF (DEq2 (isWh_no hw hpre) (de_call (da_cons (de_var rfl) da_nil) rfl ⟨_, rfl, hpre, rfl⟩))) ?_
    rw [isBt_no hw]
def S_check_prime (xs : List Dt) (d : Dt) : Prop := ∃ (p : Int), xs = [.int p] ∧ (PP p) ∧ d = .non
theorem ok_check_prime (T : Txt P K mg) : FnOk P w K mg base CX0 3 T.f_check_prime T.fd_check_prime ["p"] (SpP 1 S_check_prime) := by
  refine T.F_check_prime.ok sc_check_prime len_P (fun cdv A outer s H vs Q E hr h => ⟨_, (pss_one (ps_if (PW.pt (pw_or (pt_not (pt_val (pe_call (ok_is_whole T) (hr.mono (by decide)) (by rfl) T.g_is_whole T.F_is_whole.kp T.b_is_whole .nil pass0 (pa_cons (pv 0) pa_nil)))) (pw_or1 (pt_cmpR (r := rIn K true) op_notIn_seq (pv 0) (pe_glob (v := .ref T.a_PRIMES) (by rfl) T.g_PRIMES rfl) (by with_unfolding_all rfl))))) pss_never pss_nil)), go_PX h fun xs d hS => ?_⟩)
  obtain ⟨p, rfl, hpre, rfl⟩ := hS
  show FinX _ [.sh (.int p)] _
  exact .inr ⟨_, rfl, ds_ifF (DT.eq (dt_or (dt_not (dt_val (de_call (da_cons (de_var rfl) da_nil) rfl ⟨_, rfl, by first | assumption | exact .inr (.inr (.inl ⟨_, rfl⟩)), rfl⟩))) fun hq1 => (dt_test (de_op (de_var rfl) de_kon (rd_inK T.k_PRIMES)))) (by rcases hpre with rfl | rfl | rfl | rfl | rfl <;> rfl)) ds_next⟩
def S_is_poly_list (xs : List Dt) (d : Dt) : Prop := ∃ (p : Int) (value : Dt), xs = [.int p, value] ∧ (0 < p ∧ p < 1000 ∧ Vk value) ∧ d = .bl (pol p value)
theorem ok_is_poly_list (T : Txt P K mg) : FnOk P w K mg base CX0 3 T.f_is_poly_list T.fd_is_poly_list ["p", "value"] (SpP 2 S_is_poly_list) := by
  refine T.F_is_poly_list.ok sc_is_poly_list len_P (fun cdv A outer s H vs Q E hr h => ⟨_, (pss_cons (ps_if (PW.pt (pw_or (pt_not (pt_val (pe_callB (r := rIsi K) call_isi (by rfl) T.n_isinstance (by decide +kernel) (pa_cons (pv 1) (pa_cons (pe_bltn (v := .ty "list") (by rfl) T.n_list (by decide +kernel) rfl) pa_nil))))) (pw_or1 (pt_cmpR op_gt (pe_callB (r := rLenS K) call_len_seq (by rfl) T.n_len PySem.boot_len (pa_cons (pv 1) pa_nil)) (pe_op op_add (pe_glob (v := .int 60) (by rfl) T.g_MOST_POWER ⟨_, rfl⟩) pe_int) (nomark _))))) (pss_one (ps_ret pe_bl)) pss_nil)
      (pss_cons (ps_if (pt_cmpR (r := rNeD K) (op_neD hr.units) (pe_lc (own := [("number", 2)]) (g := gName 2) rfl sc_is_poly_list.nd (pi_list (pv 1)) (blkOk_by (N := ["p", "value", "number"]) (sc := defScope s_is_poly_list) (by decide +kernel)) (fun _ _ _ _ _ => pg_name (i := 2) sc_is_poly_list.nd rfl (by first | exact Or.inl rfl | exact Or.inr rfl)) (fun _ _ _ _ _ => pts_one (pt_not (pt_val (pe_call (ok_is_between T) (hr.mono (by decide)) (by rfl) T.g_is_between T.F_is_between.kp T.b_is_between .nil pass0 (pa_cons (pv 2) (pa_cons pe_int (pa_cons (pe_op op_sub (pv 0) pe_int) pa_nil))))))) (fun _ _ _ _ _ => (pv 2))) (pe_lst pa_nil) (nomark _)) (pss_one (ps_ret pe_bl)) pss_nil)
      (pss_one (ps_ret (pe_or (pe_cmpR (r := rEqD K) (op_eqD hr.units) (pv 1) (pe_lst pa_nil) (nomark _)) (pe_one (pe_cmpR op_ne (pe_ix (r := rIxL K) ix_list (pv 1) (pe_un un_neg pe_int) (fun _ _ => rfl)) pe_int (nomark _)))))))), go_P h fun xs d hS => ?_⟩)
  obtain ⟨p, value, rfl, hpre, rfl⟩ := hS
  show Fin _ [.sh (.int p), .sh (value), .non] _
  have ⟨hp0, hp1, hp2⟩ := hpre
  rcases hp2 with ⟨xs, hl⟩ | ⟨d, n, hn, hd⟩ | ⟨⟩ | ⟨x⟩ | ⟨ds⟩
  · refine fin_when (dt_or (dt_not (dt_val (de_cb (da_cons (de_var rfl) (da_cons de_ty da_nil)) (cd_isiT trivial rfl)))) fun hq1 => (dt_test (de_op (de_cb (da_cons (de_var rfl) da_nil) cd_lenI) (de_op de_int de_int rd_I0) (rd_B0)))) (fun hb0 => fin_ret de_bl ?_) (fun hb0 => ?_)
    · have := hb0
      simp at this
      exact congrArg Dt.bl (polL_1 (by omega)).symm
    have h61 : xs.length ≤ 61 := by have := hb0; simp at this; omega
    refine fin_when (b := !decide (xs.filter (fun i => !okI p i) = [])) (dt_test (de_op (DE.ofN (DN.eq (dn_lcBI (fun i => !okI p i) id (dw_li (de_var rfl)) (by omega) rfl fun x hx => ⟨_, dgc_name (by simp), dt_not (dt_val (de_call (da_cons (de_var rfl) (da_cons de_int (da_cons (de_op (de_var rfl) de_int rd_I0) da_nil))) rfl ⟨_, _, _, rfl, .inr (.inr (.inl ⟨_, rfl⟩)), rfl⟩)), fun hf => de_var rfl, rfl⟩) (by rw [List.map_id]))) (DE.ofN (dn_liC da_nil rfl (Nat.le_of_ble_eq_true rfl))) rd_neL)) (fun hb1 => fin_ret de_bl ?_) (fun hb1 => ?_)
    · exact congrArg Dt.bl (polL_2 (by simpa using hb1)).symm
    refine fin_ret (de_or (de_op (de_var rfl) (DE.ofN (dn_liC da_nil rfl (Nat.le_of_ble_eq_true rfl))) (rd_eqL)) fun hq1 => (de_op (de_op (de_var rfl) (de_un de_int ud_neg) (rd_ixZ ?_)) de_int (rd_neI))) ?_
    · have : xs ≠ [] := by simpa using hq1
      have := List.length_pos_iff.mpr this
      omega
    · exact congrArg Dt.bl (polL_3 h61 (by simpa using hb1)).symm
  · refine fin_when (b := false) (DT.eq (dt_or (dt_not (dt_val (de_cb (da_cons (de_var rfl) (da_cons de_ty da_nil)) (cd_isiT trivial rfl)))) fun hq1 => (dt_test (de_op (de_cb (da_cons (de_var rfl) da_nil) cd_len) (de_op de_int de_int rd_I0) (rd_B0)))) (by rw [List.length_replicate]; simp; omega)) (fun hb0 => nomatch hb0) (fun hb0 => ?_)
    refine fin_when (b := true) (dt_test (de_op (DE.ofN (dn_lcB (e := fun d => d) (l := List.replicate (n + 1) d) (fun _ => true) (fun d => d) (by rw [List.map_id']; exact (dw_list (de_var rfl))) (by rw [List.length_replicate]; omega) rfl fun x hx => ⟨_, dgc_name (by simp), DT.eq (dt_not (dt_val (de_call (da_cons (de_var rfl) (da_cons de_int (da_cons (de_op (de_var rfl) de_int rd_I0) da_nil))) rfl ⟨_, _, _, rfl, rep_sc hd hx, rfl⟩))) (rep_bt hd hx), fun hf => de_var rfl, rfl⟩)) (DE.ofN (dn_lst da_nil (Nat.le_of_ble_eq_true rfl))) (RDeq (rep_ne hd) (rd_neD (rep_shp hd hn) rfl)))) (fun hb1 => fin_ret de_bl rfl) (fun hb1 => nomatch hb1)
  all_goals exact fin_when (b := true) (dt_orT (DT.eq (dt_not (dt_val (de_cb (da_cons (de_var rfl) (da_cons de_ty da_nil)) (cd_isiT (by trivial) rfl)))) rfl)) (fun _ => fin_ret de_bl rfl) (fun hb => nomatch hb)
end
end K7

end

section
set_option Elab.async false
set_option linter.all false
set_option maxRecDepth 100000
set_option autoImplicit false
namespace Mi
open PySem L2 DL
theorem inV_4 {n : Int} (h : inV (.int n) [.int 2, .int 4, .int 6, .int 8] = true) : n = 2 ∨ n = 4 ∨ n = 6 ∨ n = 8 := by
  simp [inV, eqV] at h
  omega
/-- a curve's fields -/
def cf (p : Int) (xs : List Int) : List (PySem.Str × Dt) := putG "_polynomial" (.li xs) (putG "_prime" (.int p) [])
def cvEq (C : PySem.Addr) (p : Int) (f : List Int) (o : Dt) (b : Bool) : Prop := (∃ q g, o = .ins C (cf q g) ∧ b = (decide (p = q) && decide (f = g))) ∨ ((∃ xs, o = .li xs) ∨ ∃ s, o = .str s) ∧ b = false
end Mi

end

section
set_option Elab.async false
set_option linter.all false
set_option maxRecDepth 100000
set_option autoImplicit false
set_option maxHeartbeats 4000000
namespace K7
open PySem PySem.Spec PyProof.Rows L2 DL Mi
local macro_rules | `(tactic| walk_at "side") => `(tactic| first | trivial | assumption | omega | exact .inl (by omega) | exact .inr (by omega) | ((try simp only [List.length_append, List.length_replicate, List.length_map, List.length_range, List.mem_range, List.length_cons, List.length_nil, List.length_dropLast, List.length_set, gZ_gI, setZ_len] at *); (repeat' (first | apply And.intro | split)) <;> (first | assumption | omega)) | fail "side")
section
variable {P : Program} {w : World} {K : PySem.W.Frag} {mg : Str → Option Value} {base : Heap}
def S_is_curve_poly (xs : List Dt) (d : Dt) : Prop := ∃ (p : Int) (value : Dt), xs = [.int p, value] ∧ (PP p ∧ Vk value ∧ Lv value) ∧ d = .bl (crv p value)
theorem ok_is_curve_poly (T : Txt P K mg) : FnOk P w K mg base CX0 6 T.f_is_curve_poly T.fd_is_curve_poly ["p", "value"] (SpP 2 S_is_curve_poly) := by
  refine T.F_is_curve_poly.ok sc_is_curve_poly len_P (fun cdv A outer s H vs Q E hr h => ⟨_, (pss_cons (ps_if (PW.pt (pw_or (pt_not (pt_val (pe_call (ok_is_poly_list T) (hr.mono (by decide)) (by rfl) T.g_is_poly_list T.F_is_poly_list.kp T.b_is_poly_list .nil pass0 (pa_cons (pv 0) (pa_cons (pv 1) pa_nil))))) (pw_or (pt_cmpR (r := rIn K true) op_notIn_seq (pe_callB (r := rLenS K) call_len_seq (by rfl) T.n_len PySem.boot_len (pa_cons (pv 1) pa_nil)) (pe_lst (pa_cons pe_int (pa_cons pe_int (pa_cons pe_int (pa_cons pe_int pa_nil))))) (by with_unfolding_all rfl)) (pw_or1 (pt_cmpR op_ne (pe_ix (r := rIxL K) ix_list (pv 1) (pe_un un_neg pe_int) (fun _ _ => rfl)) pe_int (nomark _)))))) (pss_one (ps_ret pe_bl)) pss_nil)
      (pss_one (ps_ret (pe_cmpR (r := rEqD K) (op_eqD hr.units) (pe_call (ok_common_of T) (hr.mono (by decide)) (by rfl) T.g_common_of T.F_common_of.kp T.b_common_of .nil pass0 (pa_cons (pv 0) (pa_cons (pv 1) (pa_cons (pe_call (ok_slope_of T) (hr.mono (by decide)) (by rfl) T.g_slope_of T.F_slope_of.kp T.b_slope_of .nil pass0 (pa_cons (pv 0) (pa_cons (pv 1) pa_nil))) pa_nil)))) (pe_lst (pa_cons pe_int pa_nil)) (nomark _))))), go_P h fun xs d hS => ?_⟩)
  obtain ⟨p, value, rfl, hpre, rfl⟩ := hS
  show Fin _ [.sh (.int p), .sh (value)] _
  have ⟨hp0, hp1, hp2⟩ := hpre
  have hb := hp0.bd
  by_cases hli : ∃ xs, value = .li xs
  · obtain ⟨xs, rfl⟩ := hli
    have hx : xs.length ≤ 100 := hp2
    refine fin_when (b := !(polL p xs && (inV (.int (xs.length : Int)) [.int 2, .int 4, .int 6, .int 8] && decide (gZ xs (-1) = 1)))) (DT.eq (b := !polL p xs || (!inV (.int (xs.length : Int)) [.int 2, .int 4, .int 6, .int 8] || !decide (gZ xs (-1) = 1))) (dt_or (dt_not (dt_val (de_call (da_cons (de_var rfl) (da_cons (de_var rfl) da_nil)) rfl ⟨_, _,  rfl, ?_, rfl⟩))) fun hq1 => (dt_or (dt_test (de_op (de_cb (da_cons (de_var rfl) da_nil) cd_lenI) (DE.ofN (dn_liC (da_cons de_int (da_cons de_int (da_cons de_int (da_cons de_int da_nil)))) rfl (Nat.le_of_ble_eq_true rfl))) (rd_inI))) fun hq2 => (dt_test (de_op (de_op (de_var rfl) (de_un de_int ud_neg) (rd_ixZ ?_)) de_int (rd_neI))))) (by simp only [Bool.not_and])) (fun hb0 => fin_ret de_bl ?_) (fun hb0 => ?_)
    · exact ⟨hb.1, hb.2, hp1⟩
    · have := inV_4 (by simpa using hq2)
      omega
    · refine congrArg Dt.bl ?_
      show false = crvL p xs
      unfold crvL
      have := hb0
      revert this
      cases polL p xs <;> cases inV (.int (xs.length : Int)) [.int 2, .int 4, .int 6, .int 8] <;> cases decide (gZ xs (-1) = 1) <;> simp
    have h3 : polL p xs = true ∧ inV (.int (xs.length : Int)) [.int 2, .int 4, .int 6, .int 8] = true ∧ decide (gZ xs (-1) = 1) = true := by simpa using hb0
    have hn := (polL_nm h3.1).1
    have hs := nm_slope hb.1 xs
    have hsl := slope_len p xs
    have h8 := inV_4 h3.2.1
    refine fin_ret (de_op (de_call (da_cons (de_var rfl) (da_cons (de_var rfl) (da_cons (DE.ofN (dn_call (da_cons (de_var rfl) (da_cons (de_var rfl) da_nil)) rfl ⟨_, _,  rfl, ?_, rfl⟩)) da_nil))) rfl ⟨_, _, _,  rfl, ?_, rfl⟩) (DE.ofN (dn_liC (da_cons de_int da_nil) rfl (Nat.le_of_ble_eq_true rfl))) (rd_eqL)) ?_
    · exact ⟨hb.1, by omega⟩
    · exact ⟨hp0, hn, hs, by omega, by omega⟩
    · refine congrArg Dt.bl ?_
      show _ = crvL p xs
      unfold crvL
      rw [h3.1, h3.2.1, h3.2.2]
      rfl
  · refine fin_when (b := true) (dt_orT (DT.eq (dt_not (dt_val (de_call (da_cons (de_var rfl) (da_cons (de_var rfl) da_nil)) rfl ⟨_, _, rfl, ⟨hb.1, hb.2, hp1⟩, rfl⟩))) (by rw [pol_no hli]; rfl))) (fun _ => fin_ret de_bl (congrArg Dt.bl (crv_no hli).symm)) (fun hb => nomatch hb)
def S_Curve_prime (C : Addr) (xs : List Dt) (d : Dt) : Prop := ∃ (p : Int) (f : List Int), xs = [.ins C (cf p f)] ∧ (True) ∧ d = .int p
theorem ok_Curve_prime (T : Txt P K mg) : FnOk P w K mg base CX0 1 T.f_Curve_prime T.fd_Curve_prime ["self"] (SpP 1 (S_Curve_prime T.C_Curve)) := by
  refine T.F_Curve_prime.ok sc_Curve_prime len_P (fun cdv A outer s H vs Q E hr h => ⟨_, (pss_one (ps_ret (pe_fld (pv 0) rfl))), go_P h fun xs d hS => ?_⟩)
  obtain ⟨p, f, rfl, hpre, rfl⟩ := hS
  show Fin _ [.sh (.ins T.C_Curve (cf p f))] _
  refine fin_ret (de_fld (de_var rfl) T.cl_Curve T.na_Curve_prime rfl) ?_
  · rfl
def S_Curve_polynomial (C : Addr) (xs : List Dt) (d : Dt) : Prop := ∃ (p : Int) (f : List Int), xs = [.ins C (cf p f)] ∧ (True) ∧ d = .li f
theorem ok_Curve_polynomial (T : Txt P K mg) : FnOk P w K mg base CX0 1 T.f_Curve_polynomial T.fd_Curve_polynomial ["self"] (SpN 1 (S_Curve_polynomial T.C_Curve)) := by
  refine T.F_Curve_polynomial.ok sc_Curve_polynomial len_N (fun cdv A outer s H vs Q E hr h => ⟨_, (pss_one (ps_ret (pe_callTy (r := rListS K) call_list_of (by rfl) T.n_list (by decide +kernel) (pa_cons (pe_fld (pv 0) rfl) pa_nil)))), go_N h fun xs d hS => ?_⟩)
  obtain ⟨p, f, rfl, hpre, rfl⟩ := hS
  show Fin _ [.sh (.ins T.C_Curve (cf p f))] _
  refine fin_retN (dn_cb (da_cons (de_fld (de_var rfl) T.cl_Curve T.na_Curve_polynomial rfl) da_nil) cn_listI) ⟨rfl, ?_⟩
  · rfl
def S_Curve_genus (C : Addr) (xs : List Dt) (d : Dt) : Prop := ∃ (p : Int) (f : List Int), xs = [.ins C (cf p f)] ∧ (True) ∧ d = .int (((f.length : Int) - 2) / 2)
theorem ok_Curve_genus (T : Txt P K mg) : FnOk P w K mg base CX0 1 T.f_Curve_genus T.fd_Curve_genus ["self"] (SpP 1 (S_Curve_genus T.C_Curve)) := by
  refine T.F_Curve_genus.ok sc_Curve_genus len_P (fun cdv A outer s H vs Q E hr h => ⟨_, (pss_one (ps_ret (pe_op op_fdiv (pe_op op_sub (pe_callB (r := rLenS K) call_len_seq (by rfl) T.n_len PySem.boot_len (pa_cons (pe_fld (pv 0) rfl) pa_nil)) pe_int) pe_int))), go_P h fun xs d hS => ?_⟩)
  obtain ⟨p, f, rfl, hpre, rfl⟩ := hS
  show Fin _ [.sh (.ins T.C_Curve (cf p f))] _
  refine fin_ret (de_op (de_op (de_cb (da_cons (de_fld (de_var rfl) T.cl_Curve T.na_Curve_polynomial rfl) da_nil) cd_lenI) de_int rd_I0) de_int (rd_div ?_)) ?_
  · walk_at "side"
  · rfl
def S_Curve_eq (C : Addr) (xs : List Dt) (d : Dt) : Prop := ∃ (p : Int) (f : List Int) (other : Dt) (b : Bool), xs = [.ins C (cf p f), other] ∧ (cvEq C p f other b) ∧ d = .bl b
theorem ok_Curve_eq (T : Txt P K mg) : FnOk P w K mg base CX0 1 T.f_Curve_eq T.fd_Curve_eq ["self", "other"] (SpP 2 (S_Curve_eq T.C_Curve)) := by
  refine T.F_Curve_eq.ok sc_Curve_eq len_P (fun cdv A outer s H vs Q E hr h => ⟨_, (pss_cons (ps_if (pt_not (pt_val (pe_callB (r := rIsi K) call_isi (by rfl) T.n_isinstance (by decide +kernel) (pa_cons (pv 1) (pa_cons (pe_glob (v := .ref T.C_Curve) (by rfl) T.gC_Curve rfl) pa_nil))))) (pss_one (ps_ret pe_bl)) pss_nil)
      (pss_one (ps_ret (pe_and (pe_cmpR op_eq (pe_fld (pv 0) rfl) (pe_fld (pv 1) rfl) (nomark _)) (pe_one (pe_cmpR (r := rEqD K) (op_eqD hr.units) (pe_fld (pv 0) rfl) (pe_fld (pv 1) rfl) (nomark _))))))), go_P h fun xs d hS => ?_⟩)
  obtain ⟨p, f, other, b, rfl, hpre, rfl⟩ := hS
  show Fin _ [.sh (.ins T.C_Curve (cf p f)), .sh (other)] _
  rcases hpre with ⟨q, g, rfl, rfl⟩ | ⟨⟨xs, rfl⟩ | ⟨x, rfl⟩, rfl⟩
  · refine fin_when (b := false) (DT.eq (dt_not (dt_val (de_cb (da_cons (de_var rfl) (da_cons de_kon da_nil)) (cd_isiC T.is_Curve T.kc_Curve)))) rfl) (fun hb => nomatch hb) (fun _ => fin_ret (de_and (de_op (de_fld (de_var rfl) T.cl_Curve T.na_Curve_prime rfl) (de_fld (de_var rfl) T.cl_Curve T.na_Curve_prime rfl) (rd_eqI)) fun hq1 => (de_op (de_fld (de_var rfl) T.cl_Curve T.na_Curve_polynomial rfl) (de_fld (de_var rfl) T.cl_Curve T.na_Curve_polynomial rfl) (rd_eqL))) rfl)
  · exact fin_when (b := true) (DT.eq (dt_not (dt_val (de_cb (da_cons (de_var rfl) (da_cons de_kon da_nil)) (cd_isiC (by trivial) T.kl_Curve)))) rfl) (fun _ => fin_ret de_bl rfl) (fun hb => nomatch hb)
  · exact fin_when (b := true) (DT.eq (dt_not (dt_val (de_cb (da_cons (de_var rfl) (da_cons de_kon da_nil)) (cd_isiC (by trivial) T.ks_Curve)))) rfl) (fun _ => fin_ret de_bl rfl) (fun hb => nomatch hb)
end
end K7

end

section
set_option Elab.async false
set_option linter.all false
set_option maxRecDepth 100000
set_option autoImplicit false
set_option maxHeartbeats 4000000
namespace K7
open PySem PySem.Spec PyProof.Rows L2 DL Mi
local macro_rules | `(tactic| walk_at "side") => `(tactic| first | trivial | assumption | omega | exact .inl (by omega) | exact .inr (by omega) | ((try simp only [List.length_append, List.length_replicate, List.length_map, List.length_range, List.mem_range, List.length_cons, List.length_nil, List.length_dropLast, List.length_set, gZ_gI, setZ_len] at *); (repeat' (first | apply And.intro | split)) <;> (first | assumption | omega)) | fail "side")
section
variable {P : Program} {w : World} {K : PySem.W.Frag} {mg : Str → Option Value} {base : Heap}
theorem okE_IP (T : Txt P K mg) : FnOk P w K mg base CX0 1 T.f_IP T.fd_IP ["self", "value"] (SpE T.C_InvalidPolynomial) := fnok_sup T.sf_IP T.sc_IP (NdefX.nscope_by (by decide +kernel)) T.n_super T.nv_IP rfl ⟨_, rfl, rfl⟩ (fun _ _ _ => rfl) (fun _ _ _ => ⟨_, rfl⟩)
def S_Curve_init (C : Addr) (dg : Dt) (xs : List Dt) (d dg' : Dt) : Prop := ∃ (p : Int) (f : List Int), dg = .ins C [] ∧ xs = [.int p, .li f] ∧ PP p ∧ f.length ≤ 19 ∧ crvL p f = true ∧ d = .non ∧ dg' = .ins C (cf p f)
def X_Curve_init (C E : Addr) (dg : Dt) (xs : List Dt) (C' : Addr) (dv : Dt) : Prop := ∃ (p : Int) (f : Dt), dg = .ins C [] ∧ xs = [.int p, f] ∧ PP p ∧ Vk f ∧ Lv f ∧ crv p f = false ∧ C' = E ∧ dv = f
def I_Curve_init (C : Addr) (dg x1 dj d dg' : Dt) : Prop := ∃ (p : Int) (f : List Int), dg = .ins C [] ∧ x1 = .int p ∧ dj = .li f ∧ PP p ∧ f.length ≤ 19 ∧ crvL p f = true ∧ d = .non ∧ dg' = .ins C (cf p f)
abbrev P_Curve_init (C E : Addr) : Sp := SpU (SpBX 3 (S_Curve_init C) (X_Curve_init C E)) (SpI (I_Curve_init C))
theorem ok_Curve_init (T : Txt P K mg) : FnOk P w K mg base (L2.CX P w) 7 T.f_Curve_init T.fd_Curve_init ["self", "p", "f"] (P_Curve_init T.C_Curve T.C_InvalidPolynomial) := by
  refine T.F_Curve_init.okX sc_Curve_init (len_U len_BX len_I) (fun cdv A outer s H vs Q E hr h => ⟨_, (pss_cons (ps_expr (pe_call (ok_check_prime T) (hr.mono (by decide)) (by rfl) T.g_check_prime T.F_check_prime.kp T.b_check_prime .nil pass0 (pa_cons (pv 1) pa_nil)))
      (pss_cons (ps_if (pt_not (pt_val (pe_call (ok_is_curve_poly T) (hr.mono (by decide)) (by rfl) T.g_is_curve_poly T.F_is_curve_poly.kp T.b_is_curve_poly .nil pass0 (pa_cons (pv 1) (pa_cons (pv 2) pa_nil))))) (pss_one (ps_raise rfl (takes_of rfl rfl rfl rfl) (pmk_oex T.sc_IP.ox T.ii_IP T.it_IP (okE_IP T) (hr.mono (by decide)) T.ib_IP .nil pass0 rfl T.gC_InvalidPolynomial (pa_cons (pv 2) pa_nil)))) pss_nil)
      (pss_cons (ps_fld (pv 0) (pv 1) rfl)
      (pss_one (ps_fld (pv 0) (pe_callTy (r := rListS K) call_list_of (by rfl) T.n_list (by decide +kernel) (pa_cons (pv 2) pa_nil)) rfl))))), h.elim (fun h => go_BX h (by decide) (fun g dg xs d dg' hS => ?_) (fun g dg xs C dv hS => ?_)) (fun h => go_I h fun g a dg x1 dj d dg' hS => ?_)⟩)
  · obtain ⟨p, f, rfl, rfl, hp, hl, hc, rfl, rfl⟩ := hS
    show FinX _ [.bo g (.ins T.C_Curve []), .sh (.int p), .sh (.li f)] _
    refine finx_seq (ds_drop (de_call (da_cons (de_var rfl) da_nil) rfl ⟨_, rfl, hp, rfl⟩)) ?_
    refine finx_when (b := false) (DT.eq (dt_not (dt_val (de_call (da_cons (de_var rfl) (da_cons (de_var rfl) da_nil)) rfl ⟨_, _, rfl, ⟨hp, .li f (Nat.le_trans hl (by decide)), Nat.le_trans hl (by decide)⟩, rfl⟩))) (by show (!crvL p f) = false; rw [hc]; rfl)) (fun hb => nomatch hb) (fun _ => ?_)
    refine finx_seq (ds_fld (de_var rfl) rfl has_bo T.cl_Curve T.na_Curve_prime (Nat.le_of_ble_eq_true rfl)) ?_
    exact .inr ⟨_, ⟨rfl, rfl⟩, (ds_fld (DE.ofN (dn_cb (da_cons (de_var rfl) da_nil) cn_listI)) rfl has_bo T.cl_Curve T.na_Curve_polynomial (Nat.le_of_ble_eq_true rfl))⟩
  · obtain ⟨p, f, rfl, rfl, hp, hv, hlv, hc, rfl, rfl⟩ := hS
    show ∃ ds' dg', DX _ _ [.bo g (.ins T.C_Curve []), .sh (.int p), .sh dv] _ _ _ ∧ _
    exact ⟨_, _, dx_seq (ds_drop (de_call (da_cons (de_var rfl) da_nil) rfl ⟨_, rfl, hp, rfl⟩)) (dx_seqX (dx_ifT (DT.eq (dt_not (dt_val (de_call (da_cons (de_var rfl) (da_cons (de_var rfl) da_nil)) rfl ⟨_, _, rfl, ⟨hp, hv, hlv⟩, rfl⟩))) (by rw [hc]; rfl)) (dx_raise (da_cons (de_var rfl) da_nil)))), rfl⟩
  · obtain ⟨p, f, rfl, rfl, rfl, hp, hl, hc, rfl, rfl⟩ := hS
    show FinX _ [.bo g (.ins T.C_Curve []), .sh (.int p), .bo a (.li f)] _
    refine finx_seq (ds_drop (de_call (da_cons (de_var rfl) da_nil) rfl ⟨_, rfl, hp, rfl⟩)) ?_
    refine finx_when (b := false) (DT.eq (dt_not (dt_val (de_callL (Inc.refl _) (de_var rfl) rfl (by trivial) da_nil rfl has_bo rfl flat_bl ⟨_, _, rfl, ⟨hp, .li f (Nat.le_trans hl (by decide)), Nat.le_trans hl (by decide)⟩, rfl⟩))) (by show (!crvL p f) = false; rw [hc]; rfl)) (fun hb => nomatch hb) (fun _ => ?_)
    refine finx_seq (ds_fld (de_var rfl) rfl has_bo T.cl_Curve T.na_Curve_prime (Nat.le_of_ble_eq_true rfl)) ?_
    exact .inr ⟨_, ⟨rfl, rfl, rfl⟩, ds_fld (DE.ofN (dn_cbPI rfl has_bo cn_listI)) rfl has_bo T.cl_Curve T.na_Curve_polynomial (Nat.le_of_ble_eq_true rfl)⟩

end
end K7

end

section
set_option Elab.async false
set_option linter.all false
set_option maxRecDepth 100000
set_option autoImplicit false
/-! the law's own numbers -/
namespace Mi
open PySem L2 DL
def hm1 (s i : Int) : Int := (s * 1140671 + 27644437 * i * i + 131 * i + 19) % 2147483629
def hm2 (s i : Int) : Int := (hm1 s i * hm1 s i + 62089 * i + 32416187) % 2147483587
def hsh (s i : Int) : Int := hm2 s i * 48271 % 2147483647
/-- a draw: the number, the generator behind -/
def rnd (a s i b : Int) : Int × List Int := if a > 0 then (a % b, [a / b, s, i]) else ((0 * 2147483587 + hsh s (i + 1)) % b, [a, s, i + 1])
theorem hm1_bd (s i : Int) : 0 ≤ hm1 s i ∧ hm1 s i < 2147483629 := ⟨Int.emod_nonneg _ (by decide), Int.emod_lt_of_pos _ (by decide)⟩
theorem hm2_bd (s i : Int) : 0 ≤ hm2 s i ∧ hm2 s i < 2147483587 := ⟨Int.emod_nonneg _ (by decide), Int.emod_lt_of_pos _ (by decide)⟩
theorem rnd_bd {a s i b : Int} (hb : 0 < b) : 0 ≤ (rnd a s i b).1 ∧ (rnd a s i b).1 < b := by
  unfold rnd
  split <;> exact ⟨Int.emod_nonneg _ (by omega), Int.emod_lt_of_pos _ hb⟩
/-- a generator, drawn from at most so often -/
def Gk (n : Int) (g : List Int) : Prop := ∃ a s i, g = [a, s, i] ∧ 0 ≤ i ∧ i ≤ n ∧ 0 ≤ s ∧ s < 2147483648
def rndG (g : List Int) (b : Int) : Int × List Int := match g with
  | [a, s, i] => rnd a s i b
  | _ => (0, g)
theorem rndG_bd {n b : Int} {g : List Int} (h : Gk n g) (hb : 0 < b) : 0 ≤ (rndG g b).1 ∧ (rndG g b).1 < b := by
  obtain ⟨a, s, i, rfl, _⟩ := h
  exact rnd_bd hb
theorem rndG_gk {n b : Int} {g : List Int} (h : Gk n g) : Gk (n + 1) (rndG g b).2 := by
  obtain ⟨a, s, i, rfl, h1, h2, h3, h4⟩ := h
  show Gk (n + 1) (rnd a s i b).2
  unfold rnd
  split
  · exact ⟨_, _, _, rfl, h1, by omega, h3, h4⟩
  · exact ⟨_, _, _, rfl, by omega, by omega, h3, h4⟩
theorem Gk.up {n m : Int} {g : List Int} (h : Gk n g) (hm : n ≤ m) : Gk m g := by
  obtain ⟨a, s, i, rfl, h1, h2, h3, h4⟩ := h
  exact ⟨a, s, i, rfl, h1, by omega, h3, h4⟩
/-- a script's number -/
def cellI (ns : List Int) (k : Int) : Int := if k < ns.length then gZ ns k else (cut ns none (some 1)).sum % 1000003
def genB : Int := (10 ^ (60 : Int).toNat) ^ (10 : Int).toNat
def genA (s : Int) : Int := (if (0 : Int) > s - 10 ^ (18 : Int).toNat then 0 else s - 10 ^ (18 : Int).toNat) % genB
theorem genB_pos : 0 < genB := Int.pow_pos (Int.pow_pos (by decide))
theorem genB_ok : CPowW (10 ^ (60 : Int).toNat) 10 := ⟨by decide, by decide +kernel⟩
/-! the law's polynomials -/
def laddL (a b : List Int) (f : Int) : List Int := (List.range (szI a b).toNat).map fun i : Nat => gZ (a ++ List.replicate (szI a b - a.length).toNat 0) (i : Int) + f * gZ (b ++ List.replicate (szI a b - b.length).toNat 0) (i : Int)
def lplus (p : Int) (a b : List Int) (f : Int) : List Int := norm p (laddL a b f)
theorem laddL_len (a b : List Int) (f : Int) : ((laddL a b f).length : Int) = szI a b := by
  unfold laddL
  have := szI_le a b
  rw [List.length_map, List.length_range]
  omega
theorem lplus_len (p : Int) (a b : List Int) (f : Int) (m : Nat) (h1 : a.length ≤ m) (h2 : b.length ≤ m) : (lplus p a b f).length ≤ m := by
  have h3 := norm_len p (laddL a b f)
  have h4 := laddL_len a b f
  have h5 : szI a b ≤ m := by unfold szI; split <;> omega
  unfold lplus
  omega
def lbs (p n : Int) : List Int := ((List.range p.toNat).filter fun k : Nat => decide ((k : Int) * n % p = 1)).map fun k : Nat => (k : Int)
def lback (p n : Int) : Int := gZ (lbs p n) 0
/-- the law's division, one turn -/
def lterm (p : Int) (other : List Int) (back : Int) (r : List Int) : List Int := List.replicate ((r.length : Int) - (other.length : Int)).toNat 0 ++ [gZ r (-1) * back % p]
def lpT (other : List Int) (s : List Int × List Int) : Bool := decide ((s.1.length : Int) ≥ (other.length : Int))
def lpS (p : Int) (other : List Int) (back : Int) (s : List Int × List Int) : List Int × List Int :=
  (lplus p s.1 (pmul p (lterm p other back s.1) other) (-1), lplus p s.2 (lterm p other back s.1) 1)
/-- rest, quotient -/
def lpE (p : Int) (one other : List Int) : List Int × List Int := whl (lpT other) (lpS p other (lback p (gZ other (-1)))) one.length (one, [])
def lcT (s : List Int × List Int) : Bool := !decide (s.2 = [])
def lcS (p : Int) (s : List Int × List Int) : List Int × List Int := (s.2, (lpE p s.1 s.2).1)
def lcom (p : Int) (one other : List Int) : List Int := (whl lcT (lcS p) other.length (one, other)).1
def lsimple (p : Int) (one : List Int) : Bool := decide (((lcom p one (slope p one)).length : Int) = 1)
end Mi

end

section
set_option Elab.async false
set_option linter.all false
set_option maxRecDepth 100000
set_option autoImplicit false
/-! the law's division is the program's -/
namespace Mi
open PySem L2 DL
theorem gI_pad (a : List Int) (n : Nat) (i : Nat) : gI (a ++ List.replicate n 0) i = gI a i := by
  rw [gI_app]
  split
  · rfl
  · rw [gI_rep, gI_ge (by omega)]
theorem gI_ladd (a b : List Int) (f : Int) (i : Nat) : gI (laddL a b f) i = gI a i + f * gI b i := by
  have h1 := szI_le a b
  by_cases hi : i < (szI a b).toNat
  · unfold laddL
    have e : gI ((List.range (szI a b).toNat).map fun i : Nat => gZ (a ++ List.replicate (szI a b - a.length).toNat 0) (i : Int) + f * gZ (b ++ List.replicate (szI a b - b.length).toNat 0) (i : Int)) i = gZ (a ++ List.replicate (szI a b - a.length).toNat 0) (i : Int) + f * gZ (b ++ List.replicate (szI a b - b.length).toNat 0) (i : Int) := by
      unfold gI
      rw [List.getElem?_map, List.getElem?_range hi]
      rfl
    rw [e, gZ_gI, gZ_gI, gI_pad, gI_pad]
  · rw [gI_ge (by have := laddL_len a b f; omega), gI_ge (show a.length ≤ i by omega), gI_ge (show b.length ≤ i by omega)]
    simp
theorem gI_lplus (p : Int) (a b : List Int) (f : Int) (i : Nat) : gI (lplus p a b f) i = (gI a i + f * gI b i) % p := by
  unfold lplus
  rw [gI_norm, gI_ladd]
/-! products -/
theorem mrow_go (A : Nat) (low : Int) : ∀ (b : List Int) (m : Nat) (f : List Int), A + m + b.length ≤ f.length → ∀ i, gI ((idx m b).foldl (mulStep2 A low) f) i = gI f i + if A + m ≤ i ∧ i < A + m + b.length then low * gI b (i - (A + m)) else 0
  | [], m, f, h, i => by
    rw [if_neg (by simp only [List.length_nil]; omega), Int.add_zero]; rfl
  | x :: l, m, f, h, i => by
    rw [List.length_cons] at h
    show gI ((idx (m + 1) l).foldl (mulStep2 A low) (mulStep2 A low f (m, x))) i = _
    rw [mulStep2_eq, mrow_go A low l (m + 1) _ (by rw [List.length_set]; omega), gI_set, List.length_cons]
    by_cases h1 : i = A + m
    · subst h1
      rw [if_pos ⟨rfl, by omega⟩, if_neg (by omega), if_pos (by omega), Nat.sub_self, gI_zero, Int.add_zero]
    · have e0 : ∀ v : Int, (if i = A + m ∧ A + m < f.length then v else gI f i) = gI f i := fun v => if_neg fun z => h1 z.1
      rw [e0]
      by_cases h2 : A + m ≤ i ∧ i < A + m + (l.length + 1)
      · rw [if_pos (by omega), if_pos h2, show i - (A + m) = (i - (A + (m + 1))) + 1 by omega, gI_succ]
      · rw [if_neg (by omega), if_neg h2]
theorem gI_mstep (b f : List Int) (A : Nat) (low : Int) (h : A + b.length ≤ f.length) (i : Nat) : gI (mulStep b f (A, low)) i = gI f i + if A ≤ i ∧ i < A + b.length then low * gI b (i - A) else 0 := mrow_go A low b 0 f h i
theorem idx_app {γ : Type} : ∀ (l1 l2 : List γ) (n : Nat), idx n (l1 ++ l2) = idx n l1 ++ idx (n + l1.length) l2
  | [], l2, n => rfl
  | x :: l1, l2, n => by
    show (n, x) :: idx (n + 1) (l1 ++ l2) = (n, x) :: (idx (n + 1) l1 ++ idx (n + (l1.length + 1)) l2)
    rw [idx_app l1 l2 (n + 1), show n + 1 + l1.length = n + (l1.length + 1) by omega]
theorem mul_zeros (b : List Int) : ∀ (s n : Nat) (f : List Int), n + s + b.length ≤ f.length + 1 → ∀ i, gI ((idx n (List.replicate s 0)).foldl (mulStep b) f) i = gI f i
  | 0, n, f, h, i => rfl
  | s + 1, n, f, h, i => by
    rw [List.replicate_succ]
    show gI ((idx (n + 1) (List.replicate s 0)).foldl (mulStep b) (mulStep b f (n, 0))) i = _
    rw [mul_zeros b s (n + 1) _ (by rw [mulStep_len]; omega), gI_mstep _ _ _ _ (by omega)]
    split <;> omega
theorem gI_mterm (s : Nat) (t : Int) (b : List Int) (i : Nat) : gI (mulL (List.replicate s 0 ++ [t]) b) i = if s ≤ i ∧ i < s + b.length then t * gI b (i - s) else 0 := by
  unfold mulL
  rw [idx_app, List.foldl_append]
  have hl : ((List.replicate s (0 : Int) ++ [t]).length : Int) + (b.length : Int) = ((s + 1 + b.length : Nat) : Int) := by simp
  rw [hl, Int.toNat_natCast]
  show gI (mulStep b ((idx 0 (List.replicate s 0)).foldl (mulStep b) (List.replicate (s + 1 + b.length) 0)) (0 + (List.replicate s (0 : Int)).length, t)) i = _
  rw [List.length_replicate, Nat.zero_add, gI_mstep _ _ _ _ (by rw [foldl_len _ (mulStep_len b), List.length_replicate]; omega), mul_zeros b s 0 _ (by rw [List.length_replicate]; omega), gI_rep, Int.zero_add]
/-! one turn -/
theorem sub_mod_neg (a b p : Int) : (a + -1 * (b % p)) % p = (a - b) % p := by
  rw [show a + -1 * (b % p) = a - b % p by omega, Int.sub_emod, Int.emod_emod_of_dvd b (Int.dvd_refl p), ← Int.sub_emod]
theorem gI_lturn {p : Int} (hp : 0 < p) {r other : List Int} {back : Int} {A : Nat} (h : Nm p r) (hA : r.length = A + other.length) (ho : 0 < other.length) (i : Nat) :
    gI (lplus p r (pmul p (lterm p other back r) other) (-1)) i = red p other back A (gI r) i := by
  have e1 : ((r.length : Int) - (other.length : Int)).toNat = A := by omega
  rw [gI_lplus]
  unfold pmul lterm
  rw [gI_norm, e1, gI_mterm, sub_mod_neg, lead_gI, hA]
  unfold red
  split
  · rfl
  · rw [Int.sub_zero, h.mod hp]
theorem nm_lplus {p : Int} (hp : 0 < p) (a b : List Int) (f : Int) : Nm p (lplus p a b f) := nm_norm hp _
theorem red_zero {p : Int} (hp : 0 < p) {r other : List Int} {back : Int} {A : Nat} (h : Nm p r) (hA : r.length + 1 ≤ A + other.length) (i : Nat) : red p other back A (gI r) i = gI r i := by
  unfold red
  split
  · rw [gI_ge (show r.length ≤ A + other.length - 1 by omega), Int.zero_mul, Int.zero_emod, Int.zero_mul, Int.sub_zero, h.mod hp]
  · rfl
theorem lturn_len {p : Int} (hp : 0 < p) {r other : List Int} {back : Int} {A : Nat} (h : Nm p r) (hA : r.length = A + other.length) (ho : 0 < other.length) (hb : back * gI other (other.length - 1) % p = 1) :
    (lplus p r (pmul p (lterm p other back r) other) (-1)).length + 1 ≤ r.length := by
  have : (lplus p r (pmul p (lterm p other back r) other) (-1)).length ≤ r.length - 1 := by
    refine nz_len (nz_norm _ _) fun i hi => ?_
    rw [gI_lturn hp h hA ho i]
    by_cases e : i = A + other.length - 1
    · rw [e]; exact red_top hb ho A _
    · unfold red
      rw [if_neg (by omega), gI_ge (by omega)]
  omega
theorem lp_go {p : Int} (hp : 0 < p) {other : List Int} {back : Int} (ho : 0 < other.length) (hb : back * gI other (other.length - 1) % p = 1) : ∀ (A n : Nat) (r q : List Int), Nm p r → r.length ≤ n → r.length + 1 ≤ A + other.length →
    Nm p (whl (lpT other) (lpS p other back) n (r, q)).1 ∧ lpT other (whl (lpT other) (lpS p other back) n (r, q)) = false ∧ ∀ i, gI (whl (lpT other) (lpS p other back) n (r, q)).1 i = reds p other back A (gI r) i := by
  intro A
  induction A with
  | zero =>
    intro n r q h hn hA
    have ht : lpT other (r, q) = false := decide_eq_false (by show ¬ ((r.length : Int) ≥ other.length); omega)
    rw [whl_stop _ _ ht]
    exact ⟨h, ht, fun i => rfl⟩
  | succ A ih =>
    intro n r q h hn hA
    by_cases e : r.length = A + other.length
    · have ht : lpT other (r, q) = true := decide_eq_true (by show (r.length : Int) ≥ other.length; omega)
      cases n with
      | zero => omega
      | succ n =>
        have hl := lturn_len hp h e ho hb
        have e2 : whl (lpT other) (lpS p other back) (n + 1) (r, q) = whl (lpT other) (lpS p other back) n (lplus p r (pmul p (lterm p other back r) other) (-1), lplus p q (lterm p other back r) 1) := by
          show (if lpT other (r, q) = true then _ else _) = _
          rw [if_pos ht]
          rfl
        rw [e2]
        obtain ⟨h1, h2, h3⟩ := ih n (lplus p r (pmul p (lterm p other back r) other) (-1)) (lplus p q (lterm p other back r) 1) (nm_lplus hp _ _ _) (by omega) (by omega)
        refine ⟨h1, h2, fun i => ?_⟩
        rw [h3]
        exact reds_congr (fun j => gI_lturn hp h e ho j) i
    · obtain ⟨h1, h2, h3⟩ := ih n r q h hn (by omega)
      refine ⟨h1, h2, fun i => ?_⟩
      rw [h3]
      exact (reds_congr (fun j => red_zero hp h (by omega) j) i).symm
theorem lbs_eq {p n : Int} (hp : 1 < p) : lbs p n = invs p n := by
  unfold lbs invs
  have e : p.toNat = (p - 1).toNat + 1 := by omega
  rw [e, List.range_succ_eq_map, List.filter_cons]
  have h0 : decide (((0 : Nat) : Int) * n % p = 1) = false := decide_eq_false (by simp)
  rw [if_neg (by rw [h0]; decide), List.filter_map, List.map_map]
  have e2 : ∀ k : Nat, ((k.succ : Nat) : Int) = 1 + (k : Int) := fun k => by omega
  congr 1
  · funext k
    exact e2 k
  · refine List.filter_congr fun k _ => ?_
    show decide (((k.succ : Nat) : Int) * n % p = 1) = _
    rw [e2]
theorem PP.one {p : Int} (h : PP p) : 1 < p := by unfold PP at h; omega
theorem lback_eq {p n : Int} (hp : PP p) : lback p n = inv p n := by
  unfold lback inv
  rw [lbs_eq hp.one]
  exact gZ_gI _ 0
/-- what the law's division is worth -/
theorem lpE_ok {p : Int} (hp : PP p) {one other : List Int} (h1 : Nm p one) (h2 : Nm p other) (ho : other ≠ []) : (lpE p one other).1 = parR p one other ∧ lpT other (lpE p one other) = false := by
  have hpos := List.length_pos_iff.mpr ho
  have hi := h2.inv hp ho
  have hb := (inv_bd hi).2.2
  have e : lback p (gZ other (-1)) = inv p (gZ other (-1)) := lback_eq hp
  unfold lpE
  rw [e]
  obtain ⟨g1, g2, g3⟩ := lp_go hp.bd.1 hpos (by rw [← lead_gI]; exact hb) (rows one other) one.length one [] h1 (Nat.le_refl _) (by unfold rows; omega)
  refine ⟨g1.eq (nm_parR hp.bd.1 _ _) fun i => ?_, g2⟩
  rw [gI_parR hpos, ← g3, g1.mod hp.bd.1]
/-! the common factor -/
theorem lc_go {p : Int} (hp : PP p) : ∀ (n : Nat) (s : T3 × T3), Nm p s.1.1 → Nm p s.2.1 → whl lcT (lcS p) n (s.1.1, s.2.1) = ((whl euT (euS p) n s).1.1, (whl euT (euS p) n s).2.1)
  | 0, s, h1, h2 => rfl
  | n + 1, s, h1, h2 => by
    show (if euT s = true then whl lcT (lcS p) n (lcS p (s.1.1, s.2.1)) else (s.1.1, s.2.1)) = ((if euT s = true then whl euT (euS p) n (euS p s) else s).1.1, (if euT s = true then whl euT (euS p) n (euS p s) else s).2.1)
    by_cases e : euT s = true
    · rw [if_pos e, if_pos e]
      have ne : s.2.1 ≠ [] := by unfold euT at e; simpa using e
      have e2 : lcS p (s.1.1, s.2.1) = ((euS p s).1.1, (euS p s).2.1) := by
        show (s.2.1, (lpE p s.1.1 s.2.1).1) = (s.2.1, parR p s.1.1 s.2.1)
        rw [(lpE_ok hp h1 h2 ne).1]
      rw [e2]
      exact lc_go hp n (euS p s) h2 (nm_parR hp.bd.1 _ _)
    · rw [if_neg e, if_neg e]
theorem lcom_eq {p : Int} (hp : PP p) {one other : List Int} (h1 : Nm p one) (h2 : Nm p other) : lcom p one other = (euE p one other).1.1 := by
  unfold lcom euE
  have := lc_go hp other.length ((one, [1], []), (other, [], [1])) h1 h2
  rw [show whl lcT (lcS p) other.length (one, other) = _ from this]
theorem lc_stop {p : Int} (hp : PP p) {one other : List Int} (h1 : Nm p one) (h2 : Nm p other) (l1 : one.length ≤ 20) (l2 : other.length ≤ 19) : lcT (whl lcT (lcS p) other.length (one, other)) = false := by
  have := lc_go hp other.length ((one, [1], []), (other, [], [1])) h1 h2
  rw [show whl lcT (lcS p) other.length (one, other) = _ from this]
  exact eu_stop hp h1 h2 l1 l2
theorem gI_scale (p : Int) (a : List Int) (n : Int) (i : Nat) : gI (pscale p a n) i = gI a i * n % p := by
  unfold pscale
  rw [gI_norm, gI_map (fun x => x * n) (Int.zero_mul n)]
theorem scale_one {p : Int} (hp : PP p) {g : List Int} (h : Nm p g) (hn : g ≠ []) : pscale p g (inv p (gZ g (-1))) = [1] ↔ g.length = 1 := by
  have hi := inv_bd (h.inv hp hn)
  have hpos := List.length_pos_iff.mpr hn
  have hl : gI (pscale p g (inv p (gZ g (-1)))) (g.length - 1) = 1 := by
    rw [gI_scale, ← lead_gI, Int.mul_comm]
    exact hi.2.2
  constructor
  · intro e
    rw [e] at hl
    by_cases e2 : g.length - 1 = 0
    · omega
    · rw [gI_ge (by simp only [List.length_cons, List.length_nil]; omega)] at hl
      cases hl
  · intro e
    refine (nm_norm hp.bd.1 _ : Nm p (pscale p g _)).eq ⟨fun x hx => ?_, rfl⟩ fun i => ?_
    · have := hp.one
      simp at hx
      omega
    · show gI (pscale p g (inv p (gZ g (-1)))) i = gI [1] i
      by_cases hi0 : i = 0
      · subst hi0
        rw [show g.length - 1 = 0 by omega] at hl
        rw [hl]; rfl
      · rw [gI_scale, gI_ge (show g.length ≤ i by omega), Int.zero_mul, Int.zero_emod, gI_ge (by simp only [List.length_cons, List.length_nil]; omega)]
theorem com_simple {p : Int} (hp : PP p) {xs : List Int} (h : Nm p xs) (hl : xs.length ≤ 19) : decide ((com p xs (slope p xs)).1 = [1]) = lsimple p xs := by
  have hs := nm_slope hp.bd.1 xs
  have hsl := slope_len p xs
  have hE := eu_inv hp h hs (by omega) (by omega)
  unfold lsimple
  rw [lcom_eq hp h hs]
  unfold com comE
  generalize euE p xs (slope p xs) = E at hE ⊢
  by_cases e : E.1.1 = []
  · rw [if_pos e, e]
    rfl
  · rw [if_neg e]
    have := scale_one hp hE.n1 e
    by_cases e2 : E.1.1.length = 1
    · rw [decide_eq_true (this.mpr e2), decide_eq_true (by omega)]
    · rw [decide_eq_false (fun z => e2 (this.mp z)), decide_eq_false (by omega)]
/-- a curve's polynomial is right just if the law finds it simple -/
theorem crv_eq {p : Int} (hp : PP p) {xs : List Int} (hl : xs.length ≤ 19) : crvL p xs = (polL p xs && (inV (.int (xs.length : Int)) [.int 2, .int 4, .int 6, .int 8] && (decide (gZ xs (-1) = 1) && lsimple p xs))) := by
  unfold crvL
  cases h : polL p xs with
  | false => rfl
  | true => rw [com_simple hp (polL_nm h).1 hl]
end Mi

end

section
set_option Elab.async false
set_option linter.all false
set_option maxRecDepth 100000
set_option autoImplicit false
/-! what the law's loops keep -/
namespace Mi
open PySem L2 DL
theorem lbs_ne {p : Int} (hp : PP p) {other : List Int} (h : Nm p other) (ho : other ≠ []) : lbs p (gZ other (-1)) ≠ [] := by
  rw [lbs_eq hp.one]
  exact h.inv hp ho
theorem lback_cm {p : Int} (hp : PP p) {other : List Int} (h : Nm p other) (ho : other ≠ []) : CMul1 (lback p (gZ other (-1))) := by
  rw [lback_eq hp]
  have := inv_bd (h.inv hp ho)
  have := hp.bd
  exact ⟨by omega, by omega⟩
structure LpI (p : Int) (s : List Int × List Int) : Prop where
  nm : Nm p s.1
  ln : s.1.length ≤ 100
  lq : s.2.length ≤ 101
theorem lterm_len (p : Int) (other : List Int) (back : Int) (r : List Int) (h : (r.length : Int) ≥ other.length) : (lterm p other back r).length + other.length = r.length + 1 := by
  unfold lterm
  rw [List.length_append, List.length_replicate]
  simp only [List.length_cons, List.length_nil]
  omega
theorem lterm_cm {p : Int} (hp : 0 < p) (h : p < 1000) (other : List Int) (back : Int) (r : List Int) : ∀ x ∈ lterm p other back r, CMul1 x := fun x hx => by
  unfold lterm at hx
  rcases List.mem_append.mp hx with z | z
  · rw [(List.mem_replicate.mp z).2]
    exact ⟨by decide, by decide⟩
  · rw [List.mem_singleton.mp z]
    have h1 := Int.emod_nonneg (gZ r (-1) * back) (show p ≠ 0 by omega)
    have h2 := Int.emod_lt_of_pos (gZ r (-1) * back) hp
    exact ⟨by omega, by omega⟩
theorem LpI.step {p : Int} (hp : PP p) {other : List Int} (h2 : Nm p other) (ho : other ≠ []) {s : List Int × List Int} (h : LpI p s) (hc : lpT other s = true) : LpI p (lpS p other (lback p (gZ other (-1))) s) := by
  have hpos := List.length_pos_iff.mpr ho
  have hc' : (s.1.length : Int) ≥ other.length := of_decide_eq_true hc
  have h4 := h.ln
  have h5 := h.lq
  have h6 := lterm_len p other (lback p (gZ other (-1))) s.1 hc'
  have e : s.1.length = (s.1.length - other.length) + other.length := by omega
  have hb := (inv_bd (h2.inv hp ho)).2.2
  rw [← lback_eq hp] at hb
  have h7 := lturn_len hp.bd.1 h.nm e hpos (by rw [← lead_gI]; exact hb)
  refine ⟨nm_lplus hp.bd.1 _ _ _, ?_, lplus_len _ _ _ _ _ h5 (by omega)⟩
  show (lplus p s.1 (pmul p (lterm p other (lback p (gZ other (-1))) s.1) other) (-1)).length ≤ 100
  omega
structure LcI (p : Int) (s : List Int × List Int) : Prop where
  n1 : Nm p s.1
  n2 : Nm p s.2
  l1 : s.1.length ≤ 20
  l2 : s.2.length ≤ 20
theorem LcI.step {p : Int} (hp : PP p) {s : List Int × List Int} (h : LcI p s) (hc : lcT s = true) : LcI p (lcS p s) := by
  have hne : s.2 ≠ [] := by unfold lcT at hc; simpa using hc
  have e := (lpE_ok hp h.n1 h.n2 hne).1
  have h2 := h.l2
  have h3 := parR_len (one := s.1) hne (h.n2.inv hp hne)
  refine ⟨h.n2, ?_, h2, ?_⟩
  · show Nm p (lpE p s.1 s.2).1
    rw [e]
    exact nm_parR hp.bd.1 _ _
  · show (lpE p s.1 s.2).1.length ≤ 20
    rw [e]
    omega
end Mi

end

section
set_option Elab.async false
set_option linter.all false
set_option maxRecDepth 100000
set_option autoImplicit false
set_option maxHeartbeats 4000000
namespace K7
open PySem PySem.Spec PyProof.Rows L2 DL Mi
local macro_rules | `(tactic| walk_at "side") => `(tactic| first | trivial | assumption | omega | exact .inl (by omega) | exact .inr (by omega) | ((try simp only [List.length_append, List.length_replicate, List.length_map, List.length_range, List.mem_range, List.length_cons, List.length_nil, List.length_dropLast, List.length_set, gZ_gI, setZ_len] at *); (repeat' (first | apply And.intro | split)) <;> (first | assumption | omega)) | fail "side")
section
variable {P : Program} {w : World} {K : PySem.W.Frag} {mg : Str → Option Value} {base : Heap}
def S_l_hash (xs : List Dt) (d : Dt) : Prop := ∃ (seed : Int) (index : Int), xs = [.int seed, .int index] ∧ (0 ≤ index ∧ index < 549755813888) ∧ d = .int (hsh seed index)
theorem ok_l_hash (T : Txt P K mg) : FnOk P w K mg base CX0 1 T.f_l_hash T.fd_l_hash ["_law_seed", "_law_index"] (SpP 2 S_l_hash) := by
  refine T.F_l_hash.ok sc_l_hash len_P (fun cdv A outer s H vs Q E hr h => ⟨_, (pss_cons (ps_set (i := 2) sc_l_hash.nd rfl (by first | exact Or.inl rfl | exact Or.inr rfl) (pe_op op_mod (pe_callTy call_int1 (by rfl) T.n_int (by decide +kernel) (pa_cons (pe_op op_add (pe_op op_add (pe_op op_add (pe_op op_mul (pv 0) pe_int) (pe_op op_mul (pe_op op_mul pe_int (pv 1)) (pv 1))) (pe_op op_mul pe_int (pv 1))) pe_int) pa_nil)) pe_int))
      (pss_cons (ps_set (i := 2) sc_l_hash.nd rfl (by first | exact Or.inl rfl | exact Or.inr rfl) (pe_op op_mod (pe_callTy call_int1 (by rfl) T.n_int (by decide +kernel) (pa_cons (pe_op op_add (pe_op op_add (pe_op op_mul (pv 2) (pv 2)) (pe_op op_mul pe_int (pv 1))) pe_int) pa_nil)) pe_int))
      (pss_one (ps_ret (pe_op op_mod (pe_callTy call_int1 (by rfl) T.n_int (by decide +kernel) (pa_cons (pe_op op_mul (pv 2) pe_int) pa_nil)) pe_int))))), go_P h fun xs d hS => ?_⟩)
  obtain ⟨seed, index, rfl, hpre, rfl⟩ := hS
  show Fin _ [.sh (.int seed), .sh (.int index), .non] _
  have ⟨hp0, hp1⟩ := hpre
  have h1 := hm1_bd seed index
  have h2 := hm2_bd seed index
  refine fin_seq (ds_set (de_op (de_cb (da_cons (de_op (de_op (de_op (de_op (de_var rfl) de_int (rd_mulC ?_)) (de_op (de_op de_int (de_var rfl) (rd_mulC ?_)) (de_var rfl) (rd_mulC ?_)) rd_I0) (de_op de_int (de_var rfl) (rd_mulC ?_)) rd_I0) de_int rd_I0) da_nil) cd_int) de_int (rd_mod ?_))) ?_
  iterate 5 walk_at "side"
  show Fin _ [.sh (.int seed), .sh (.int index), .sh (.int (hm1 seed index))] _
  refine fin_seq (ds_set (de_op (de_cb (da_cons (de_op (de_op (de_op (de_var rfl) (de_var rfl) (rd_mulC ?_)) (de_op de_int (de_var rfl) (rd_mulC ?_)) rd_I0) de_int rd_I0) da_nil) cd_int) de_int (rd_mod ?_))) ?_
  iterate 3 walk_at "side"
  show Fin _ [.sh (.int seed), .sh (.int index), .sh (.int (hm2 seed index))] _
  refine fin_ret (de_op (de_cb (da_cons (de_op (de_var rfl) de_int (rd_mulC ?_)) da_nil) cd_int) de_int (rd_mod ?_)) ?_
  iterate 2 walk_at "side"
  rfl
def S_l_random (dg : Dt) (xs : List Dt) (d dg' : Dt) : Prop := ∃ (gen : List Int) (b : Int), dg = .li gen ∧ xs = [.int b] ∧ (Gk 2147483646 gen ∧ 0 < b ∧ b < 1000) ∧ d = .int (rndG gen b).1 ∧ dg' = .li (rndG gen b).2
theorem ok_l_random (T : Txt P K mg) : FnOk P w K mg base CX0 2 T.f_l_random T.fd_l_random ["_law_generator_here", "_law_bound"] (SpB 2 S_l_random) := by
  refine T.F_l_random.ok sc_l_random len_B (fun cdv A outer s H vs Q E hr h => ⟨_, (pss_cons (ps_if (pt_cmpR op_gt (pe_ix (r := rIxL K) ix_list (pv 0) pe_int (fun _ _ => rfl)) pe_int (nomark _)) (pss_cons (ps_set (i := 2) sc_l_random.nd rfl (by first | exact Or.inl rfl | exact Or.inr rfl) (pe_op op_mod (pe_callTy call_int1 (by rfl) T.n_int (by decide +kernel) (pa_cons (pe_ix (r := rIxL K) ix_list (pv 0) pe_int (fun _ _ => rfl)) pa_nil)) (pv 1)))
      (pss_cons (ps_asg (pe_op op_fdiv (pe_ix (r := rIxL K) ix_list (pv 0) pe_int (fun _ _ => rfl)) (pv 1)) (pg_sub (pv 0) pe_int set_list))
      (pss_one (ps_ret (pv 2))))) pss_nil)
      (pss_cons (ps_set (i := 2) sc_l_random.nd rfl (by first | exact Or.inl rfl | exact Or.inr rfl) pe_int)
      (pss_cons (ps_for PassesOwn.never rfl (pi_range1 (by rfl) T.n_range (pa_cons (pe_op op_add pe_int (pe_op op_fdiv (pe_bits (pv 1)) pe_int)) pa_nil)) (pg_name (i := 3) sc_l_random.nd rfl (by first | exact Or.inl rfl | exact Or.inr rfl)) (pss_cons (ps_asg (pe_op op_add (pe_ix (r := rIxL K) ix_list (pv 0) pe_int (fun _ _ => rfl)) pe_int) (pg_sub (pv 0) pe_int set_list))
      (pss_one (ps_set (i := 2) sc_l_random.nd rfl (by first | exact Or.inl rfl | exact Or.inr rfl) (pe_op op_add (pe_op op_mul (pv 2) pe_int) (pe_call (ok_l_hash T) (hr.mono (by decide)) (by rfl) T.g_l_hash T.F_l_hash.kp T.b_l_hash .nil pass0 (pa_cons (pe_ix (r := rIxL K) ix_list (pv 0) pe_int (fun _ _ => rfl)) (pa_cons (pe_ix (r := rIxL K) ix_list (pv 0) pe_int (fun _ _ => rfl)) pa_nil))))))))
      (pss_one (ps_ret (pe_op op_mod (pe_callTy call_int1 (by rfl) T.n_int (by decide +kernel) (pa_cons (pv 2) pa_nil)) (pv 1))))))), go_B h (by decide) fun g dg xs d dg' hS => ?_⟩)
  obtain ⟨gen, b, rfl, rfl, hpre, rfl, rfl⟩ := hS
  show FinX _ [.bo g (.li gen), .sh (.int b), .non, .non] _
  refine .inl ?_
  have ⟨hp0, hp1, hp2⟩ := hpre
  obtain ⟨a, sd, i1, rfl, hg1, hg2, hg3, hg4⟩ := hp0
  show Fin _ _ (fun _ e ds' => e = .int (rnd a sd i1 b).1 ∧ ds'[0]? = some (.bo g (.li (rnd a sd i1 b).2)))
  refine fin_when (dt_test (de_op (de_opP rfl (by trivial) de_int rfl has_bo (rd_ixZ ?_) rfl) de_int (rd_B0))) (fun hb0 => ?_) (fun hb0 => ?_)
  · walk_at "side"
  · have h0 : a > 0 := of_decide_eq_true hb0
    refine fin_seq (ds_set (de_op (de_cb (da_cons (de_opP rfl (by trivial) de_int rfl has_bo (rd_ixZ ?_) rfl) da_nil) cd_int) (de_var rfl) (rd_mod ?_))) ?_
    iterate 2 walk_at "side"
    refine fin_seq (ds_setIZ (de_op (de_opP rfl (by trivial) de_int rfl has_bo (rd_ixZ ?_) rfl) (de_var rfl) (rd_div ?_)) de_int rfl (by trivial) rfl has_bo ?_) ?_
    iterate 3 walk_at "side"
    refine fin_ret (de_var rfl) ?_
    unfold rnd
    rw [if_pos h0]
    exact ⟨rfl, rfl⟩
  · have h0 : ¬ a > 0 := of_decide_eq_false hb0
    refine fin_seq (ds_set de_int) ?_
    refine fin_seq (ds_once (x := .int 0) (ds' := [.bo g (.li [a, sd, i1 + 1]), .sh (.int b), .sh (.int (0 * 2147483587 + hsh sd (i1 + 1))), .non]) (DW.eq (dw_rng1 (da_cons (de_op de_int (de_op (de_bits (de_var rfl)) de_int (rd_div ?_)) rd_I0) da_nil) ?_) (by rw [bits_small (by omega) (by omega)]; rfl)) (tn_nx dg_name (ds_seq (ds_setIZ (de_op (de_opP rfl (by trivial) de_int rfl has_bo (rd_ixZ ?_) rfl) de_int rd_I0) de_int rfl (by trivial) rfl has_bo ?_)
      (ds_set (de_op (de_op (de_var rfl) de_int (rd_mulC ?_)) (de_call (da_cons (de_opP rfl (by trivial) de_int rfl has_bo (rd_ixZ ?_) rfl) (da_cons (de_opP rfl (by trivial) de_int rfl has_bo (rd_ixZ ?_) rfl) da_nil)) rfl ⟨_, _,  rfl, ?_, rfl⟩) rd_I0))) (by (try dsimp only [List.set_cons_zero, List.set_cons_succ]); (repeat (first | exact Weak.nil | refine Weak.keep ?_ | refine Weak.drop ?_))))) ?_
    · exact ⟨by decide, by decide⟩
    · have := bits_small (b := b) (by omega) (by omega)
      omega
    · simp
    · simp
    · exact .inr (by omega)
    · rw [setZ_len]
      simp
    · rw [setZ_len]
      simp
    · show 0 ≤ i1 + 1 ∧ i1 + 1 < 549755813888
      omega
    refine fin_ret (de_op (de_cb (da_cons (de_var rfl) da_nil) cd_int) (de_var rfl) (rd_mod ?_)) ?_
    · omega
    · unfold rnd
      rw [if_neg h0]
      exact ⟨rfl, rfl⟩
def S_l_cell (K : PySem.W.Frag) (xs : List Dt) (d : Dt) : Prop := ∃ (script : List Int) (dsc : Dt) (index : Int), xs = [dsc, .int index] ∧ (Scr K dsc script ∧ 0 ≤ index) ∧ d = .int (cellI script index)
theorem ok_l_cell (T : Txt P K mg) : FnOk P w K mg base CX0 1 T.f_l_cell T.fd_l_cell ["_law_script", "_law_index"] (SpP 2 (S_l_cell K)) := by
  refine T.F_l_cell.ok sc_l_cell len_P (fun cdv A outer s H vs Q E hr h => ⟨_, (pss_cons (ps_if (pt_cmpR op_lt (pv 1) (pe_callB (r := rLenS K) call_len_seq (by rfl) T.n_len PySem.boot_len (pa_cons (pv 0) pa_nil)) (nomark _)) (pss_one (ps_ret (pe_ix (r := rIxL K) ix_list (pv 0) (pv 1) (fun _ _ => rfl)))) pss_nil)
      (pss_one (ps_ret (pe_op op_mod (pe_callB (r := rSum K) (cr_sum rfl) (by rfl) T.n_sum (by decide +kernel) (pa_cons (pe_slice (r := rSlL K) sl_list (pv 0) po_none (po_some pe_int)) pa_nil)) pe_int)))), go_P h fun xs d hS => ?_⟩)
  obtain ⟨script, dsc, index, rfl, hpre, rfl⟩ := hS
  show Fin _ [.sh (dsc), .sh (.int index)] _
  have ⟨hp0, hp1⟩ := hpre
  have hsc := hpre.1
  refine fin_when (dt_test (de_op (de_var rfl) (de_cb (da_cons (de_var rfl) da_nil) (cd_lenSc hsc)) (rd_B0))) (fun hb0 => ?_) (fun hb0 => ?_)
  ·
    refine fin_ret (de_op (de_var rfl) (de_var rfl) (rd_ixSc hsc ?_)) ?_
    · have h := of_decide_eq_true hb0
      omega
    · have h := of_decide_eq_true hb0
      unfold cellI
      rw [if_pos h]
  refine fin_ret (de_op (de_cb (da_cons (DE.ofN (dn_sliceSc hsc (de_var rfl) do_none (do_some de_int))) da_nil) cd_sum) de_int (rd_mod ?_)) ?_
  · walk_at "side"
  · have h := of_decide_eq_false hb0
    unfold cellI
    rw [if_neg h]
def S_l_generator (K : PySem.W.Frag) (xs : List Dt) (d : Dt) : Prop := ∃ (script : List Int) (dsc : Dt) (index : Int), xs = [dsc, .int index] ∧ (Scr K dsc script ∧ 0 ≤ index ∧ index < 1000) ∧ d = .li [genA (cellI script index), cellI script index % 2147483647, 1000 * index]
theorem ok_l_generator (T : Txt P K mg) : FnOk P w K mg base CX0 2 T.f_l_generator T.fd_l_generator ["_law_script", "_law_index"] (SpN 2 (S_l_generator K)) := by
  refine T.F_l_generator.ok sc_l_generator len_N (fun cdv A outer s H vs Q E hr h => ⟨_, (pss_cons (ps_set (i := 2) sc_l_generator.nd rfl (by first | exact Or.inl rfl | exact Or.inr rfl) (pe_call (ok_l_cell T) (hr.mono (by decide)) (by rfl) T.g_l_cell T.F_l_cell.kp T.b_l_cell .nil pass0 (pa_cons (pv 0) (pa_cons (pv 1) pa_nil))))
      (pss_one (ps_ret (pe_lst (pa_cons (pe_op op_mod (pe_callTy call_int1 (by rfl) T.n_int (by decide +kernel) (pa_cons (pe_callB (call_max2 rfl) (by rfl) T.n_max (by decide +kernel) (pa_cons (pe_op op_sub (pv 2) (pe_op op_pow pe_int pe_int)) (pa_cons pe_int pa_nil))) pa_nil)) (pe_op op_powW (pe_op op_pow pe_int pe_int) pe_int)) (pa_cons (pe_op op_mod (pe_callTy call_int1 (by rfl) T.n_int (by decide +kernel) (pa_cons (pv 2) pa_nil)) pe_int) (pa_cons (pe_op op_mul pe_int (pv 1)) pa_nil))))))), go_N h fun xs d hS => ?_⟩)
  obtain ⟨script, dsc, index, rfl, hpre, rfl⟩ := hS
  show Fin _ [.sh (dsc), .sh (.int index), .non] _
  have ⟨hp0, hp1, hp2⟩ := hpre
  have hsc := hpre.1
  refine fin_seq (ds_set (de_call (da_cons (de_var rfl) (da_cons (de_var rfl) da_nil)) rfl ⟨script, _, _, rfl, ?_, rfl⟩)) ?_
  · walk_at "side"
  refine fin_retN (dn_liC (da_cons (de_op (de_cb (da_cons (de_cb (da_cons (de_op (de_var rfl) (de_op de_int de_int (rd_I ⟨by decide, by decide, by decide⟩)) rd_I0) (da_cons de_int da_nil)) cd_max2) da_nil) cd_int) (de_op (de_op de_int de_int (rd_I ⟨by decide, by decide, by decide⟩)) de_int (rd_powW genB_ok)) (rd_mod ?_)) (da_cons (de_op (de_cb (da_cons (de_var rfl) da_nil) cd_int) de_int (rd_mod ?_)) (da_cons (de_op de_int (de_var rfl) (rd_mulC ?_)) da_nil))) rfl (Nat.le_of_ble_eq_true rfl)) ⟨rfl, ?_⟩
  · exact genB_pos
  · walk_at "side"
  · walk_at "side"
  · rfl
def S_l_prime (dg : Dt) (xs : List Dt) (d dg' : Dt) : Prop := ∃ (gen : List Int), dg = .li gen ∧ xs = [] ∧ (Gk 2147483646 gen) ∧ d = .int (gZ [3, 5, 7, 11, 13] (rndG gen 5).1) ∧ dg' = .li (rndG gen 5).2
theorem ok_l_prime (T : Txt P K mg) : FnOk P w K mg base CX0 3 T.f_l_prime T.fd_l_prime ["_law_generator_here"] (SpB 1 S_l_prime) := by
  refine T.F_l_prime.ok sc_l_prime len_B (fun cdv A outer s H vs Q E hr h => ⟨_, (pss_one (ps_ret (pe_ix (r := rIxL K) ix_list (pe_lst (pa_cons pe_int (pa_cons pe_int (pa_cons pe_int (pa_cons pe_int (pa_cons pe_int pa_nil)))))) (pe_call (ok_l_random T) (hr.mono (by decide)) (by rfl) T.g_l_random T.F_l_random.kp T.b_l_random .nil pass0 (pa_cons (pv 0) (pa_cons pe_int pa_nil))) (fun _ _ => rfl)))), go_B h (by decide) fun g dg xs d dg' hS => ?_⟩)
  obtain ⟨gen, rfl, rfl, hpre, rfl, rfl⟩ := hS
  show FinX _ [.bo g (.li gen)] _
  refine .inl ?_
  refine fin_ret (de_op (DE.ofN (dn_liC (da_cons de_int (da_cons de_int (da_cons de_int (da_cons de_int (da_cons de_int da_nil))))) rfl (Nat.le_of_ble_eq_true rfl))) (de_callB rfl (by trivial) (da_cons de_int da_nil) rfl rfl has_bo ⟨_, _,  rfl, rfl, ?_, rfl, rfl⟩) (rd_ixZ ?_)) ?_
  · exact ⟨hpre, by decide, by decide⟩
  · have := rndG_bd (b := 5) hpre (by decide)
    simp only [List.length_cons, List.length_nil]
    omega
  · exact ⟨rfl, rfl⟩
end
end K7

end

section
set_option Elab.async false
set_option linter.all false
set_option maxRecDepth 100000
set_option autoImplicit false
set_option maxHeartbeats 4000000
namespace K7
open PySem PySem.Spec PyProof.Rows L2 DL Mi
local macro_rules | `(tactic| walk_at "side") => `(tactic| first | trivial | assumption | omega | exact .inl (by omega) | exact .inr (by omega) | ((try simp only [List.length_append, List.length_replicate, List.length_map, List.length_range, List.mem_range, List.length_cons, List.length_nil, List.length_dropLast, List.length_set, gZ_gI, setZ_len] at *); (repeat' (first | apply And.intro | split)) <;> (first | assumption | omega)) | fail "side")
section
variable {P : Program} {w : World} {K : PySem.W.Frag} {mg : Str → Option Value} {base : Heap}
def S_l_trim (xs : List Dt) (d : Dt) : Prop := ∃ (p : Int) (numbers : List Int), xs = [.int p, .li numbers] ∧ (0 < p ∧ numbers.length ≤ 10000) ∧ d = .li (norm p numbers)
theorem ok_l_trim (T : Txt P K mg) : FnOk P w K mg base CX0 1 T.f_l_trim T.fd_l_trim ["_law_p", "_law_numbers"] (SpN 2 S_l_trim) := by
  refine T.F_l_trim.ok sc_l_trim len_N (fun cdv A outer s H vs Q E hr h => ⟨_, (pss_cons (ps_setLc (i := 2) (own := [("_law_number", 3)]) (g := gName 3) rfl sc_l_trim.nd rfl rfl (sw_true rfl rfl rfl (by decide +kernel)) (pi_list (pv 1)) (blkOk_by (N := ["_law_p", "_law_numbers", "_law_found", "_law_number"]) (sc := defScope s_l_trim) (by decide +kernel)) (fun _ _ _ _ _ => pg_name (i := 3) sc_l_trim.nd rfl (by first | exact Or.inl rfl | exact Or.inr rfl)) (fun _ _ _ _ _ => pts_nil) (fun _ _ _ _ _ => (pe_op op_mod (pe_callTy call_int1 (by rfl) T.n_int (by decide +kernel) (pa_cons (pv 3) pa_nil)) (pv 0))))
      (pss_cons (ps_while PassesOwn.never (PW.pt (pw_and (pt_cmpR (r := rNeD K) (op_neD hr.units) (pv 2) (pe_lst pa_nil) (nomark _)) (pw_and1 (pt_cmpR op_eq (pe_ix (r := rIxL K) ix_list (pv 2) (pe_un un_neg pe_int) (fun _ _ => rfl)) pe_int (nomark _))))) (pss_one (ps_expr (pe_bm0 PySem.F.plainAttrs_list PySem.F.slot_list_pop PySem.F.type_list_pop mt_pop (pv 2)))))
      (pss_one (ps_ret (pv 2))))), go_N h fun xs d hS => ?_⟩)
  obtain ⟨p, numbers, rfl, hpre, rfl⟩ := hS
  show Fin _ [.sh (.int p), .sh (.li numbers), .non, .non] _
  have ⟨hp0, hp1⟩ := hpre
  refine fin_seq (ds_setN (dn_mapBI _ (dw_li (de_var rfl)) ?_ rfl fun x hx => ⟨_, dgc_name (by simp), (de_op (de_cb (da_cons (de_var rfl) da_nil) cd_int) (de_var rfl) (rd_mod ?_)), rfl⟩)) ?_
  · exact Nat.le_trans hpre.2 (by decide)
  · exact hpre.1
  refine fin_seq (ds_whl (fun xs => [.sh (.int p), .sh (.li numbers), .ow (.li xs), .non]) cTrim List.dropLast (fun _ => True) (fun xs _ => ((dt_and (dt_test (de_opP rfl (by trivial) (DE.ofN (dn_liC da_nil rfl (Nat.le_of_ble_eq_true rfl))) rfl has_ow (rd_neL) rfl)) fun hq1 => (dt_test (de_op (de_opP rfl (by trivial) (de_un de_int ud_neg) rfl has_ow (rd_ixZ ?_) rfl) de_int (rd_eqI)))) : DT _ _ (!decide (xs = []) && decide (gZ xs (-1) = 0)) _).eq (by rw [gZ_last]; rfl)) (fun xs _ hc => ⟨(ds_popI rfl has_ow ?_), trivial⟩) _ _ trivial (trim_stop _)) ?_
  · have := List.length_pos_iff.mpr (show xs ≠ [] by simpa using hq1)
    omega
  · exact cTrim_ne hc
  refine fin_retN (dn_varM rfl) ⟨rfl, ?_⟩
  · rfl
def S_l_plus (xs : List Dt) (d : Dt) : Prop := ∃ (p : Int) (one : List Int) (other : List Int) (factor : Int), xs = [.int p, .li one, .li other, .int factor] ∧ (0 < p ∧ one.length ≤ 1000 ∧ other.length ≤ 1000 ∧ CMul1 factor) ∧ d = .li (lplus p one other factor)
theorem ok_l_plus (T : Txt P K mg) : FnOk P w K mg base CX0 2 T.f_l_plus T.fd_l_plus ["_law_p", "_law_one", "_law_other", "_law_factor"] (SpN 4 S_l_plus) := by
  refine T.F_l_plus.ok sc_l_plus len_N (fun cdv A outer s H vs Q E hr h => ⟨_, (pss_cons (ps_set (i := 4) sc_l_plus.nd rfl (by first | exact Or.inl rfl | exact Or.inr rfl) (pe_callB (call_max2 rfl) (by rfl) T.n_max (by decide +kernel) (pa_cons (pe_callB (r := rLenS K) call_len_seq (by rfl) T.n_len PySem.boot_len (pa_cons (pv 1) pa_nil)) (pa_cons (pe_callB (r := rLenS K) call_len_seq (by rfl) T.n_len PySem.boot_len (pa_cons (pv 2) pa_nil)) pa_nil))))
      (pss_cons (ps_asg (pe_tup (pa_cons (pe_op op_cat (pv 1) (pe_op op_rep (pe_lst (pa_cons pe_int pa_nil)) (pe_op op_sub (pv 4) (pe_callB (r := rLenS K) call_len_seq (by rfl) T.n_len PySem.boot_len (pa_cons (pv 1) pa_nil))))) (pa_cons (pe_op op_cat (pv 2) (pe_op op_rep (pe_lst (pa_cons pe_int pa_nil)) (pe_op op_sub (pv 4) (pe_callB (r := rLenS K) call_len_seq (by rfl) T.n_len PySem.boot_len (pa_cons (pv 2) pa_nil))))) pa_nil))) (pg_tup rfl (pgs_cons (pg_name (i := 5) sc_l_plus.nd rfl (by first | exact Or.inl rfl | exact Or.inr rfl)) (pgs_cons (pg_name (i := 6) sc_l_plus.nd rfl (by first | exact Or.inl rfl | exact Or.inr rfl)) (pgs_nil)))))
      (pss_one (ps_ret (pe_call (ok_l_trim T) (hr.mono (by decide)) (by rfl) T.g_l_trim T.F_l_trim.kp T.b_l_trim .nil pass0 (pa_cons (pv 0) (pa_cons (pe_lc (own := [("_law_at", 7)]) (g := gName 7) rfl sc_l_plus.nd (pi_range1 (by rfl) T.n_range (pa_cons (pv 4) pa_nil)) (blkOk_by (N := ["_law_p", "_law_one", "_law_other", "_law_factor", "_law_size", "_law_low", "_law_high", "_law_at"]) (sc := defScope s_l_plus) (by decide +kernel)) (fun _ _ _ _ _ => pg_name (i := 7) sc_l_plus.nd rfl (by first | exact Or.inl rfl | exact Or.inr rfl)) (fun _ _ _ _ _ => pts_nil) (fun _ _ _ _ _ => (pe_op op_add (pe_ix (r := rIxL K) ix_list (pv 5) (pv 7) (fun _ _ => rfl)) (pe_op op_mul (pv 3) (pe_ix (r := rIxL K) ix_list (pv 6) (pv 7) (fun _ _ => rfl)))))) pa_nil))))))), go_N h fun xs d hS => ?_⟩)
  obtain ⟨p, one, other, factor, rfl, hpre, rfl⟩ := hS
  show Fin _ [.sh (.int p), .sh (.li one), .sh (.li other), .sh (.int factor), .non, .non, .non, .non] _
  have ⟨hp0, hp1, hp2, hp3⟩ := hpre
  refine fin_seq (ds_set (de_cb (da_cons (de_cb (da_cons (de_var rfl) da_nil) cd_lenI) (da_cons (de_cb (da_cons (de_var rfl) da_nil) cd_lenI) da_nil)) cd_max2)) ?_
  refine fin_seq (ds_asg (de_tup (da_cons (DE.ofN (dn_op (de_var rfl) (DE.ofN (dn_op (DE.ofN (dn_liC (da_cons de_int da_nil) rfl (Nat.le_of_ble_eq_true rfl))) (de_op (de_var rfl) (de_cb (da_cons (de_var rfl) da_nil) cd_lenI) rd_I0) (rn_repI ?_))) (rn_catI ?_))) (da_cons (DE.ofN (dn_op (de_var rfl) (DE.ofN (dn_op (DE.ofN (dn_liC (da_cons de_int da_nil) rfl (Nat.le_of_ble_eq_true rfl))) (de_op (de_var rfl) (de_cb (da_cons (de_var rfl) da_nil) cd_lenI) rd_I0) (rn_repI ?_))) (rn_catI ?_))) da_nil)) (Nat.le_of_ble_eq_true rfl)) (dg_tup (dgs_cons dg_name (dgs_cons dg_name dgs_nil)) rfl)) ?_
  · walk_at "side"
  · walk_at "side"
  · walk_at "side"
  · walk_at "side"
  refine fin_retN (dn_call (da_cons (de_var rfl) (da_cons (DE.ofN (dn_mapBI _ (dw_rng1 (da_cons (de_var rfl) da_nil) ?_) ?_ rfl fun x hx => ⟨_, dgc_name (by simp), (de_op (de_op (de_var rfl) (de_var rfl) (rd_ixZ ?_)) (de_op (de_var rfl) (de_op (de_var rfl) (de_var rfl) (rd_ixZ ?_)) (rd_mulC ?_)) rd_I0), rfl⟩)) da_nil)) rfl ⟨_, _,  rfl, ?_, rfl⟩) ⟨rfl, ?_⟩
  · walk_at "side"
  · walk_at "side"
  · walk_at "side"
  · walk_at "side"
  · walk_at "side"
  · walk_at "side"
  · rfl
def S_l_times (xs : List Dt) (d : Dt) : Prop := ∃ (p : Int) (one : List Int) (other : List Int), xs = [.int p, .li one, .li other] ∧ (0 < p ∧ one.length ≤ 1000 ∧ other.length ≤ 1000 ∧ ∀ x ∈ one, CMul1 x) ∧ d = .li (pmul p one other)
theorem ok_l_times (T : Txt P K mg) : FnOk P w K mg base CX0 2 T.f_l_times T.fd_l_times ["_law_p", "_law_one", "_law_other"] (SpN 3 S_l_times) := by
  refine T.F_l_times.ok sc_l_times len_N (fun cdv A outer s H vs Q E hr h => ⟨_, (pss_cons (ps_set (i := 3) sc_l_times.nd rfl (by first | exact Or.inl rfl | exact Or.inr rfl) (pe_op op_rep (pe_lst (pa_cons pe_int pa_nil)) (pe_op op_add (pe_callB (r := rLenS K) call_len_seq (by rfl) T.n_len PySem.boot_len (pa_cons (pv 1) pa_nil)) (pe_callB (r := rLenS K) call_len_seq (by rfl) T.n_len PySem.boot_len (pa_cons (pv 2) pa_nil)))))
      (pss_cons (ps_for PassesOwn.never rfl (pi_enum (by rfl) T.n_enumerate (pa_cons (pv 1) pa_nil)) (pg_tup rfl (pgs_cons (pg_name (i := 4) sc_l_times.nd rfl (by first | exact Or.inl rfl | exact Or.inr rfl)) (pgs_cons (pg_name (i := 5) sc_l_times.nd rfl (by first | exact Or.inl rfl | exact Or.inr rfl)) (pgs_nil)))) (pss_one (ps_for PassesOwn.never rfl (pi_enum (by rfl) T.n_enumerate (pa_cons (pv 2) pa_nil)) (pg_tup rfl (pgs_cons (pg_name (i := 6) sc_l_times.nd rfl (by first | exact Or.inl rfl | exact Or.inr rfl)) (pgs_cons (pg_name (i := 7) sc_l_times.nd rfl (by first | exact Or.inl rfl | exact Or.inr rfl)) (pgs_nil)))) (pss_one (ps_asg (pe_op op_add (pe_ix (r := rIxL K) ix_list (pv 3) (pe_op op_add (pv 4) (pv 6)) (fun _ _ => rfl)) (pe_op op_mul (pv 5) (pv 7))) (pg_sub (pv 3) (pe_op op_add (pv 4) (pv 6)) set_list))))))
      (pss_one (ps_ret (pe_call (ok_l_trim T) (hr.mono (by decide)) (by rfl) T.g_l_trim T.F_l_trim.kp T.b_l_trim .nil pass0 (pa_cons (pv 0) (pa_cons (pv 3) pa_nil))))))), go_N h fun xs d hS => ?_⟩)
  obtain ⟨p, one, other, rfl, hpre, rfl⟩ := hS
  show Fin _ [.sh (.int p), .sh (.li one), .sh (.li other), .non, .non, .non, .non, .non] _
  have ⟨hp0, hp1, hp2, hp3⟩ := hpre
  refine fin_seq (ds_setN (dn_op (DE.ofN (dn_liC (da_cons de_int da_nil) rfl (Nat.le_of_ble_eq_true rfl))) (de_op (de_cb (da_cons (de_var rfl) da_nil) cd_lenI) (de_cb (da_cons (de_var rfl) da_nil) cd_lenI) rd_I0) (rn_repI ?_))) ?_
  · walk_at "side"
  refine fin_seq (ds_fold (l := idx 0 one) (fun f => [.sh (.int p), .sh (.li one), .sh (.li other), .ow (.li f), .non, .non, .non, .non]) (mulStep other) (fun _ f => f.length = one.length + other.length) _ (dw_idxI (da_cons (de_var rfl) da_nil)) (by simp; omega) (fun i f q hq hf => ⟨tn_nx (dg_tup (dgs_cons dg_name (dgs_cons dg_name dgs_nil)) rfl) (ds_fold (l := idx 0 other) (fun f => [.sh (.int p), .sh (.li one), .sh (.li other), .ow (.li f), .sh (.int (q.1 : Nat)), .sh (.int q.2), .non, .non]) (mulStep2 q.1 q.2) (fun _ f => f.length = one.length + other.length) _ (dw_idxI (da_cons (de_var rfl) da_nil)) hf (fun i2 f q2 hq2 hf => ⟨tn_nx (dg_tup (dgs_cons dg_name (dgs_cons dg_name dgs_nil)) rfl) (ds_setIZ (de_op (de_opP rfl (by trivial) (de_op (de_var rfl) (de_var rfl) rd_I0) rfl has_ow (rd_ixZ ?_) rfl) (de_op (de_var rfl) (de_var rfl) (rd_mulC ?_)) rd_I0) (de_op (de_var rfl) (de_var rfl) rd_I0) rfl (by trivial) rfl has_ow ?_) (by (try dsimp only [List.set_cons_zero, List.set_cons_succ, t3]); (repeat (first | exact Weak.nil | refine Weak.keep ?_ | refine Weak.drop ?_))), ?_⟩)) (by (try dsimp only [List.set_cons_zero, List.set_cons_succ, t3]); (repeat (first | exact Weak.nil | refine Weak.keep ?_ | refine Weak.drop ?_))), ?_⟩)) ?_
  · have h1 := idx_get _ _ _ _ hq
    have h2 := idx_get _ _ _ _ hq2
    have h3 := (List.getElem?_eq_some_iff.mp h1.2).1
    have h4 := (List.getElem?_eq_some_iff.mp h2.2).1
    omega
  · have h1 := idx_get _ _ _ _ hq
    exact .inl (hpre.2.2.2 _ (List.mem_of_getElem? h1.2))
  · have h1 := idx_get _ _ _ _ hq
    have h2 := idx_get _ _ _ _ hq2
    have h3 := (List.getElem?_eq_some_iff.mp h1.2).1
    have h4 := (List.getElem?_eq_some_iff.mp h2.2).1
    omega
  · exact (setZ_len _ _ _).trans hf
  · rw [mulStep_len]; exact hf
  refine fin_retN (dn_call (da_cons (de_var rfl) (da_cons (de_varF rfl) da_nil)) rfl ⟨_, _,  rfl, ?_, rfl⟩) ⟨rfl, ?_⟩
  · have := mulL_len one other
    exact ⟨hpre.1, by show (mulL one other).length ≤ 10000; omega⟩
  · rfl
def S_l_back (xs : List Dt) (d : Dt) : Prop := ∃ (p : Int) (number : Int), xs = [.int p, .int number] ∧ (0 < p ∧ p < 1000 ∧ lbs p number ≠ []) ∧ d = .int (lback p number)
theorem ok_l_back (T : Txt P K mg) : FnOk P w K mg base CX0 1 T.f_l_back T.fd_l_back ["_law_p", "_law_number"] (SpP 2 S_l_back) := by
  refine T.F_l_back.ok sc_l_back len_P (fun cdv A outer s H vs Q E hr h => ⟨_, (pss_one (ps_ret (pe_ix (r := rIxL K) ix_list (pe_lc (own := [("_law_low", 2)]) (g := gName 2) rfl sc_l_back.nd (pi_range1 (by rfl) T.n_range (pa_cons (pv 0) pa_nil)) (blkOk_by (N := ["_law_p", "_law_number", "_law_low"]) (sc := defScope s_l_back) (by decide +kernel)) (fun _ _ _ _ _ => pg_name (i := 2) sc_l_back.nd rfl (by first | exact Or.inl rfl | exact Or.inr rfl)) (fun _ _ _ _ _ => pts_one (pt_cmpR op_eq (pe_op op_mod (pe_callTy call_int1 (by rfl) T.n_int (by decide +kernel) (pa_cons (pe_op op_mul (pv 2) (pv 1)) pa_nil)) (pv 0)) pe_int (nomark _))) (fun _ _ _ _ _ => (pv 2))) pe_int (fun _ _ => rfl)))), go_P h fun xs d hS => ?_⟩)
  obtain ⟨p, number, rfl, hpre, rfl⟩ := hS
  show Fin _ [.sh (.int p), .sh (.int number), .non] _
  have ⟨hp0, hp1, hp2⟩ := hpre
  refine fin_ret (de_op (DE.ofN (dn_lcBI _ _ (dw_rng1 (da_cons (de_var rfl) da_nil) ?_) ?_ rfl fun x hx => ⟨_, dgc_name (by simp), (dt_test (de_op (de_op (de_cb (da_cons (de_op (de_var rfl) (de_var rfl) (rd_mulC ?_)) da_nil) cd_int) (de_var rfl) (rd_mod ?_)) de_int (rd_eqI))), fun hf => (de_var rfl), rfl⟩)) de_int (rd_ixZ ?_)) ?_
  · walk_at "side"
  · walk_at "side"
  · exact .inl (by have := List.mem_range.mp hx; omega)
  · walk_at "side"
  · have := List.length_pos_iff.mpr hpre.2.2
    show -((lbs p number).length : Int) ≤ 0 ∧ (0 : Int) < ((lbs p number).length : Int)
    omega
  · rfl
end
end K7

end

section
set_option Elab.async false
set_option linter.all false
set_option maxRecDepth 100000
set_option autoImplicit false
set_option maxHeartbeats 4000000
namespace K7
open PySem PySem.Spec PyProof.Rows L2 DL Mi
local macro_rules | `(tactic| walk_at "side") => `(tactic| first | trivial | assumption | omega | exact .inl (by omega) | exact .inr (by omega) | ((try simp only [List.length_append, List.length_replicate, List.length_map, List.length_range, List.mem_range, List.length_cons, List.length_nil, List.length_dropLast, List.length_set, gZ_gI, setZ_len] at *); (repeat' (first | apply And.intro | split)) <;> (first | assumption | omega)) | fail "side")
section
variable {P : Program} {w : World} {K : PySem.W.Frag} {mg : Str → Option Value} {base : Heap}
def S_l_parted (xs : List Dt) (d : Dt) : Prop := ∃ (p : Int) (one : List Int) (other : List Int), xs = [.int p, .li one, .li other] ∧ (PP p ∧ Nm p one ∧ Nm p other ∧ other ≠ [] ∧ one.length ≤ 100 ∧ other.length ≤ 100) ∧ d = .tup [.li (lpE p one other).2, .li (lpE p one other).1]
theorem ok_l_parted (T : Txt P K mg) : FnOk P w K mg base CX0 3 T.f_l_parted T.fd_l_parted ["_law_p", "_law_one", "_law_other"] (SpP 3 S_l_parted) := by
  refine T.F_l_parted.ok sc_l_parted len_P (fun cdv A outer s H vs Q E hr h => ⟨_, (pss_cons (ps_par3 (i := 3) (j := 4) (l := 5) rfl sc_l_parted.nd rfl rfl rfl (by decide) (by decide) (by decide) rfl rfl rfl (pa_cons (pe_callTy (r := rListS K) call_list_of (by rfl) T.n_list (by decide +kernel) (pa_cons (pv 1) pa_nil)) (pa_cons (pe_lst pa_nil) (pa_cons (pe_call (ok_l_back T) (hr.mono (by decide)) (by rfl) T.g_l_back T.F_l_back.kp T.b_l_back .nil pass0 (pa_cons (pv 0) (pa_cons (pe_ix (r := rIxL K) ix_list (pv 2) (pe_un un_neg pe_int) (fun _ _ => rfl)) pa_nil))) pa_nil))) (by rfl))
      (pss_cons (ps_while PassesOwn.never (pt_cmpR op_ge (pe_callB (r := rLenS K) call_len_seq (by rfl) T.n_len PySem.boot_len (pa_cons (pv 3) pa_nil)) (pe_callB (r := rLenS K) call_len_seq (by rfl) T.n_len PySem.boot_len (pa_cons (pv 2) pa_nil)) (nomark _)) (pss_cons (ps_set (i := 6) sc_l_parted.nd rfl (by first | exact Or.inl rfl | exact Or.inr rfl) (pe_op op_cat (pe_op op_rep (pe_lst (pa_cons pe_int pa_nil)) (pe_op op_sub (pe_callB (r := rLenS K) call_len_seq (by rfl) T.n_len PySem.boot_len (pa_cons (pv 3) pa_nil)) (pe_callB (r := rLenS K) call_len_seq (by rfl) T.n_len PySem.boot_len (pa_cons (pv 2) pa_nil)))) (pe_lst (pa_cons (pe_op op_mod (pe_callTy call_int1 (by rfl) T.n_int (by decide +kernel) (pa_cons (pe_op op_mul (pe_ix (r := rIxL K) ix_list (pv 3) (pe_un un_neg pe_int) (fun _ _ => rfl)) (pv 5)) pa_nil)) (pv 0)) pa_nil))))
      (pss_cons (ps_set (i := 4) sc_l_parted.nd rfl (by first | exact Or.inl rfl | exact Or.inr rfl) (pe_call (ok_l_plus T) (hr.mono (by decide)) (by rfl) T.g_l_plus T.F_l_plus.kp T.b_l_plus .nil pass0 (pa_cons (pv 0) (pa_cons (pv 4) (pa_cons (pv 6) (pa_cons pe_int pa_nil))))))
      (pss_one (ps_set (i := 3) sc_l_parted.nd rfl (by first | exact Or.inl rfl | exact Or.inr rfl) (pe_call (ok_l_plus T) (hr.mono (by decide)) (by rfl) T.g_l_plus T.F_l_plus.kp T.b_l_plus .nil pass0 (pa_cons (pv 0) (pa_cons (pv 3) (pa_cons (pe_call (ok_l_times T) (hr.mono (by decide)) (by rfl) T.g_l_times T.F_l_times.kp T.b_l_times .nil pass0 (pa_cons (pv 0) (pa_cons (pv 6) (pa_cons (pv 2) pa_nil)))) (pa_cons (pe_un un_neg pe_int) pa_nil))))))))))
      (pss_one (ps_ret (pe_tup (pa_cons (pv 4) (pa_cons (pv 3) pa_nil))))))), go_P h fun xs d hS => ?_⟩)
  obtain ⟨p, one, other, rfl, hpre, rfl⟩ := hS
  show Fin _ [.sh (.int p), .sh (.li one), .sh (.li other), .non, .non, .non, .non] _
  have ⟨hp0, hp1, hp2, hp3, hp4, hp5⟩ := hpre
  have hb := hp0.bd
  have hpos := List.length_pos_iff.mpr hp3
  have hlb := lbs_ne hp0 hp2 hp3
  refine fin_seq (ds_par3M (dm_sh (DE.ofN (dn_cb (da_cons (de_var rfl) da_nil) cn_listI)) (dm_sh (DE.ofN (dn_liC da_nil rfl (Nat.le_of_ble_eq_true rfl))) (dm_sh (de_call (da_cons (de_var rfl) (da_cons (de_op (de_var rfl) (de_un de_int ud_neg) (rd_ixZ ?_)) da_nil)) rfl ⟨_, _,  rfl, ?_, rfl⟩) dm_nil))) (by decide) (by decide) (by decide)) ?_
  · walk_at "side"
  · walk_at "side"
  refine fin_seq (ds_whl (fun s : List Int × List Int => [.sh (.int p), .sh (.li one), .sh (.li other), .sh (.li s.1), .sh (.li s.2), .sh (.int (lback p (gZ other (-1)))), .non]) (lpT other) (lpS p other (lback p (gZ other (-1)))) (LpI p) (fun s hs => (dt_test (de_op (de_cb (da_cons (de_var rfl) da_nil) cd_lenI) (de_cb (da_cons (de_var rfl) da_nil) cd_lenI) (rd_B0)))) (fun s hs hc => ⟨?_, hs.step hp0 hp2 hp3 hc⟩) one.length (one, []) ⟨hp1, hp4, Nat.zero_le _⟩ (lpE_ok hp0 hp1 hp2 hp3).2) ?_
  · have hl := hs.ln
    have hq := hs.lq
    have hc' : (s.1.length : Int) ≥ other.length := of_decide_eq_true hc
    have htl := lterm_len p other (lback p (gZ other (-1))) s.1 hc'
    have htc := lterm_cm hb.1 hb.2 other (lback p (gZ other (-1))) s.1
    have hml := pmul_len p (lterm p other (lback p (gZ other (-1))) s.1) other
    have hlk := lback_cm hp0 hp2 hp3
    unfold lpS
    refine ds_weak (ds_seq (ds_set (DE.ofN (dn_op (DE.ofN (dn_op (DE.ofN (dn_liC (da_cons de_int da_nil) rfl (Nat.le_of_ble_eq_true rfl))) (de_op (de_cb (da_cons (de_var rfl) da_nil) cd_lenI) (de_cb (da_cons (de_var rfl) da_nil) cd_lenI) rd_I0) (rn_repI ?_))) (DE.ofN (dn_liC (da_cons (de_op (de_cb (da_cons (de_op (de_op (de_var rfl) (de_un de_int ud_neg) (rd_ixZ ?_)) (de_var rfl) (rd_mulC ?_)) da_nil) cd_int) (de_var rfl) (rd_mod ?_)) da_nil) rfl (Nat.le_of_ble_eq_true rfl))) (rn_catI ?_))))
      (ds_seq (ds_set (DE.ofN (dn_call (da_cons (de_var rfl) (da_cons (de_var rfl) (da_cons (de_var rfl) (da_cons de_int da_nil)))) rfl ⟨_, _, _, _,  rfl, ?_, rfl⟩)))
      (ds_set (DE.ofN (dn_call (da_cons (de_var rfl) (da_cons (de_var rfl) (da_cons (DE.ofN (dn_call (da_cons (de_var rfl) (da_cons (de_var rfl) (da_cons (de_var rfl) da_nil))) rfl ⟨_, _, _,  rfl, ?_, rfl⟩)) (da_cons (de_un de_int ud_neg) da_nil)))) rfl ⟨_, _, _, _,  rfl, ?_, rfl⟩))))) (by (try dsimp only [List.set_cons_zero, List.set_cons_succ, t3]); (repeat (first | exact Weak.nil | refine Weak.keep ?_ | refine Weak.drop ?_)))
    all_goals first | exact ⟨hb.1, by omega, (by show (pmul p (lterm p other (lback p (gZ other (-1))) s.1) other).length ≤ 1000; omega), ⟨by decide, by decide⟩⟩ | walk_at "side" 
  refine fin_ret (de_tup (da_cons (de_var rfl) (da_cons (de_var rfl) da_nil)) (Nat.le_of_ble_eq_true rfl)) ?_
  · rfl
def S_l_rest (xs : List Dt) (d : Dt) : Prop := ∃ (p : Int) (one : List Int) (other : List Int), xs = [.int p, .li one, .li other] ∧ (PP p ∧ Nm p one ∧ Nm p other ∧ other ≠ [] ∧ one.length ≤ 100 ∧ other.length ≤ 100) ∧ d = .li (lpE p one other).1
theorem ok_l_rest (T : Txt P K mg) : FnOk P w K mg base CX0 4 T.f_l_rest T.fd_l_rest ["_law_p", "_law_one", "_law_other"] (SpP 3 S_l_rest) := by
  refine T.F_l_rest.ok sc_l_rest len_P (fun cdv A outer s H vs Q E hr h => ⟨_, (pss_one (ps_ret (pe_ix (r := rIxT K) ix_tup (pe_call (ok_l_parted T) (hr.mono (by decide)) (by rfl) T.g_l_parted T.F_l_parted.kp T.b_l_parted .nil pass0 (pa_cons (pv 0) (pa_cons (pv 1) (pa_cons (pv 2) pa_nil)))) pe_int (fun _ _ => rfl)))), go_P h fun xs d hS => ?_⟩)
  obtain ⟨p, one, other, rfl, hpre, rfl⟩ := hS
  show Fin _ [.sh (.int p), .sh (.li one), .sh (.li other)] _
  have ⟨hp0, hp1, hp2, hp3, hp4, hp5⟩ := hpre
  refine fin_ret (de_op (de_call (da_cons (de_var rfl) (da_cons (de_var rfl) (da_cons (de_var rfl) da_nil))) rfl ⟨_, _, _,  rfl, ?_, rfl⟩) de_int (rd_ixT rfl)) ?_
  · walk_at "side"
  · rfl
def S_l_common (xs : List Dt) (d : Dt) : Prop := ∃ (p : Int) (one : List Int) (other : List Int), xs = [.int p, .li one, .li other] ∧ (PP p ∧ Nm p one ∧ Nm p other ∧ one.length ≤ 20 ∧ other.length ≤ 19) ∧ d = .li (lcom p one other)
theorem ok_l_common (T : Txt P K mg) : FnOk P w K mg base CX0 5 T.f_l_common T.fd_l_common ["_law_p", "_law_one", "_law_other"] (SpP 3 S_l_common) := by
  refine T.F_l_common.ok sc_l_common len_P (fun cdv A outer s H vs Q E hr h => ⟨_, (pss_cons (ps_par (i := 3) (j := 4) rfl sc_l_common.nd rfl rfl (by decide) rfl rfl (pa_cons (pe_callTy (r := rListS K) call_list_of (by rfl) T.n_list (by decide +kernel) (pa_cons (pv 1) pa_nil)) (pa_cons (pe_callTy (r := rListS K) call_list_of (by rfl) T.n_list (by decide +kernel) (pa_cons (pv 2) pa_nil)) pa_nil)) (by rfl))
      (pss_cons (ps_while PassesOwn.never (pt_cmpR (r := rNeD K) (op_neD hr.units) (pv 4) (pe_lst pa_nil) (nomark _)) (pss_one (ps_par (i := 3) (j := 4) rfl sc_l_common.nd rfl rfl (by decide) rfl rfl (pa_cons (pv 4) (pa_cons (pe_call (ok_l_rest T) (hr.mono (by decide)) (by rfl) T.g_l_rest T.F_l_rest.kp T.b_l_rest .nil pass0 (pa_cons (pv 0) (pa_cons (pv 3) (pa_cons (pv 4) pa_nil)))) pa_nil)) (by rfl))))
      (pss_one (ps_ret (pv 3))))), go_P h fun xs d hS => ?_⟩)
  obtain ⟨p, one, other, rfl, hpre, rfl⟩ := hS
  show Fin _ [.sh (.int p), .sh (.li one), .sh (.li other), .non, .non] _
  have ⟨hp0, hp1, hp2, hp3, hp4⟩ := hpre
  refine fin_seq (ds_par (da_cons (DE.ofN (dn_cb (da_cons (de_var rfl) da_nil) cn_listI)) (da_cons (DE.ofN (dn_cb (da_cons (de_var rfl) da_nil) cn_listI)) da_nil))) ?_
  refine fin_seq (ds_whl (fun s : List Int × List Int => [.sh (.int p), .sh (.li one), .sh (.li other), .sh (.li s.1), .sh (.li s.2)]) lcT (lcS p) (LcI p) (fun s hs => (dt_test (de_op (de_var rfl) (DE.ofN (dn_liC da_nil rfl (Nat.le_of_ble_eq_true rfl))) (rd_neL)))) (fun s hs hc => ⟨?_, hs.step hp0 hc⟩) other.length (one, other) ⟨hp1, hp2, hp3, Nat.le_succ_of_le hp4⟩ (lc_stop hp0 hp1 hp2 hp3 hp4)) ?_
  · have hne : s.2 ≠ [] := by unfold lcT at hc; simpa using hc
    have h1 := hs.n1
    have h2 := hs.n2
    have h3 := hs.l1
    have h4 := hs.l2
    unfold lcS
    refine ds_weak (ds_par (da_cons (de_var rfl) (da_cons (de_call (da_cons (de_var rfl) (da_cons (de_var rfl) (da_cons (de_var rfl) da_nil))) rfl ⟨_, _, _,  rfl, ?_, rfl⟩) da_nil))) (by (try dsimp only [List.set_cons_zero, List.set_cons_succ, t3]); (repeat (first | exact Weak.nil | refine Weak.keep ?_ | refine Weak.drop ?_)))
    exact ⟨hp0, h1, h2, hne, by omega, by omega⟩
  refine fin_ret (de_var rfl) ?_
  · rfl
def S_l_simple (xs : List Dt) (d : Dt) : Prop := ∃ (p : Int) (one : List Int), xs = [.int p, .li one] ∧ (PP p ∧ Nm p one ∧ one.length ≤ 19) ∧ d = .bl (lsimple p one)
theorem ok_l_simple (T : Txt P K mg) : FnOk P w K mg base CX0 6 T.f_l_simple T.fd_l_simple ["_law_p", "_law_one"] (SpP 2 S_l_simple) := by
  refine T.F_l_simple.ok sc_l_simple len_P (fun cdv A outer s H vs Q E hr h => ⟨_, (pss_cons (ps_set (i := 2) sc_l_simple.nd rfl (by first | exact Or.inl rfl | exact Or.inr rfl) (pe_call (ok_l_trim T) (hr.mono (by decide)) (by rfl) T.g_l_trim T.F_l_trim.kp T.b_l_trim .nil pass0 (pa_cons (pv 0) (pa_cons (pe_slice (r := rSlL K) sl_list (pe_lc (own := [("_law_at", 3), ("_law_number", 4)]) (g := gTup K 2 (gCons (gName 3) (gCons (gName 4) (gNil)))) rfl sc_l_simple.nd (pi_enum (by rfl) T.n_enumerate (pa_cons (pv 1) pa_nil)) (blkOk_by (N := ["_law_p", "_law_one", "_law_slope", "_law_at", "_law_number"]) (sc := defScope s_l_simple) (by decide +kernel)) (fun _ _ _ _ _ => pg_tup rfl (pgs_cons (pg_name (i := 3) sc_l_simple.nd rfl (by first | exact Or.inl rfl | exact Or.inr rfl)) (pgs_cons (pg_name (i := 4) sc_l_simple.nd rfl (by first | exact Or.inl rfl | exact Or.inr rfl)) (pgs_nil)))) (fun _ _ _ _ _ => pts_nil) (fun _ _ _ _ _ => (pe_op op_mul (pv 3) (pv 4)))) (po_some pe_int) po_none) pa_nil))))
      (pss_one (ps_ret (pe_cmpR op_eq (pe_callB (r := rLenS K) call_len_seq (by rfl) T.n_len PySem.boot_len (pa_cons (pe_call (ok_l_common T) (hr.mono (by decide)) (by rfl) T.g_l_common T.F_l_common.kp T.b_l_common .nil pass0 (pa_cons (pv 0) (pa_cons (pv 1) (pa_cons (pv 2) pa_nil)))) pa_nil)) pe_int (nomark _))))), go_P h fun xs d hS => ?_⟩)
  obtain ⟨p, one, rfl, hpre, rfl⟩ := hS
  show Fin _ [.sh (.int p), .sh (.li one), .non, .non, .non] _
  have ⟨hp0, hp1, hp2⟩ := hpre
  have hb := hp0.bd
  have hs := nm_slope hb.1 one
  have hsl := slope_len p one
  refine fin_seq (ds_set (DE.ofN (dn_call (da_cons (de_var rfl) (da_cons (DE.ofN (dn_sliceI (DE.ofN (dn_mapBI _ (dw_idxI (da_cons (de_var rfl) da_nil)) ?_ rfl fun x hx => ⟨_, dgc_two (by simp) (by simp), (de_op (de_var rfl) (de_var rfl) (rd_mulC ?_)), rfl⟩)) (do_some de_int) do_none)) da_nil)) rfl ⟨_, _,  rfl, ?_, rfl⟩))) ?_
  · rw [idx_len]; omega
  · exact .inl (by have h1 := (idx_mem hx).1; omega)
  · refine ⟨hb.1, Nat.le_trans (cut_len _ _ _) ?_⟩
    rw [List.length_map, idx_len]
    omega
  refine fin_ret (de_op (de_cb (da_cons (de_call (da_cons (de_var rfl) (da_cons (de_var rfl) (da_cons (de_var rfl) da_nil))) rfl ⟨_, _, _,  rfl, ?_, rfl⟩) da_nil) cd_lenI) de_int (rd_eqI)) ?_
  · exact ⟨hp0, hp1, hs, by omega, by show (slope p one).length ≤ 19; omega⟩
  · rfl
end
end K7

end

section
set_option Elab.async false
set_option linter.all false
set_option maxRecDepth 100000
set_option autoImplicit false
/-! the law's search for squares -/
namespace Mi
open PySem L2 DL
def mrow (p : Int) (acc : List (List Int)) (one : List Int) : List (List Int) := acc ++ (List.range p.toNat).map fun k : Nat => one ++ [(k : Int)]
def mlong (p : Int) (f : List (List Int)) : List (List Int) := f.foldl (mrow p) []
def mfound (p : Int) (n : Nat) : List (List Int) := (List.range n).foldl (fun f _ => mlong p f) [[]]
def mons (p : Int) (n : Nat) : List (List Int) := (mfound p n).map fun one => one ++ [1]
theorem mrow_len (p : Int) : ∀ (f acc : List (List Int)), (f.foldl (mrow p) acc).length = acc.length + f.length * p.toNat
  | [], acc => by simp
  | x :: f, acc => by
    rw [List.foldl_cons, mrow_len p f]
    unfold mrow
    rw [List.length_append, List.length_map, List.length_range, List.length_cons, Nat.add_mul]
    omega
theorem mlong_len (p : Int) (f : List (List Int)) : (mlong p f).length = f.length * p.toNat := by
  unfold mlong
  rw [mrow_len]
  simp
/-- lists of n rests by p -/
def Rs (p : Int) (n : Nat) (x : List Int) : Prop := x.length = n ∧ ∀ y ∈ x, 0 ≤ y ∧ y < p
theorem mrow_rs {p : Int} {n : Nat} : ∀ (f acc : List (List Int)), (∀ x ∈ f, Rs p n x) → (∀ x ∈ acc, Rs p (n + 1) x) → ∀ x ∈ f.foldl (mrow p) acc, Rs p (n + 1) x
  | [], acc, _, h, x, hx => h x hx
  | y :: f, acc, h1, h2, x, hx => by
    rw [List.foldl_cons] at hx
    refine mrow_rs f _ (fun z hz => h1 z (List.mem_cons_of_mem _ hz)) (fun z hz => ?_) x hx
    unfold mrow at hz
    rcases List.mem_append.mp hz with q | q
    · exact h2 z q
    · obtain ⟨k, hk, rfl⟩ := List.mem_map.mp q
      have hk := List.mem_range.mp hk
      obtain ⟨e, hy⟩ := h1 y List.mem_cons_self
      refine ⟨by rw [List.length_append, e]; rfl, fun w hw => ?_⟩
      rcases List.mem_append.mp hw with hw | hw
      · exact hy w hw
      · rw [List.mem_singleton.mp hw]
        omega
theorem mfound_succ (p : Int) (n : Nat) : mfound p (n + 1) = mlong p (mfound p n) := by
  unfold mfound
  rw [List.range_succ, List.foldl_append]
  rfl
theorem mfound_rs (p : Int) : ∀ (n : Nat), (∀ x ∈ mfound p n, Rs p n x) ∧ (mfound p n).length = p.toNat ^ n
  | 0 => ⟨fun x hx => by
      have hx : x ∈ ([[]] : List (List Int)) := hx
      rw [List.mem_singleton.mp hx]
      exact ⟨rfl, fun y hy => by simp at hy⟩, rfl⟩
  | n + 1 => by
    obtain ⟨h1, h2⟩ := mfound_rs p n
    have e : mfound p (n + 1) = mlong p (mfound p n) := by
      unfold mfound
      rw [List.range_succ, List.foldl_append]
      rfl
    rw [e]
    exact ⟨mrow_rs _ _ h1 (fun x hx => by simp at hx), by rw [mlong_len, h2, Nat.pow_succ]⟩
theorem mons_nm {p : Int} (hp : 1 < p) {n : Nat} {x : List Int} (h : x ∈ mons p n) : Nm p x ∧ x.length = n + 1 ∧ gI x n = 1 := by
  unfold mons at h
  obtain ⟨y, hy, rfl⟩ := List.mem_map.mp h
  obtain ⟨e, hb⟩ := (mfound_rs p n).1 y hy
  have hg : gI (y ++ [1]) n = 1 := by
    rw [gI_app, if_neg (by omega), show n - y.length = 0 by omega]
    rfl
  refine ⟨⟨fun w hw => ?_, ?_⟩, by rw [List.length_append, e]; rfl, hg⟩
  · rcases List.mem_append.mp hw with hw | hw
    · exact hb w hw
    · rw [List.mem_singleton.mp hw]
      omega
  · unfold Nz cTrim
    rw [lastI_gI, List.length_append, show y.length + ([1] : List Int).length - 1 = n by simp; omega, hg]
    simp
theorem mfound_small {p : Int} (hp : p ≤ 5) {n : Nat} (hn : n ≤ 3) : (mfound p n).length ≤ 125 ∧ ∀ x ∈ mfound p n, x.length = n := by
  obtain ⟨h1, h2⟩ := mfound_rs p n
  refine ⟨?_, fun x hx => (h1 x hx).1⟩
  rw [h2]
  exact Nat.le_trans (Nat.pow_le_pow_left (show p.toNat ≤ 5 by omega) n) (Nat.pow_le_pow_right (by decide) hn)
/-- a square of a monic one divides it -/
def dblT (p : Int) (one : List Int) (k : Nat) (low : List Int) : Bool := decide (2 * (1 + (k : Int)) < one.length) && decide ((lpE p one (pmul p low low)).1 = [])
def dblK (p : Int) (one : List Int) (k : Nat) : Bool := (mons p (1 + k)).any (dblT p one k)
def dbl (p : Int) (one : List Int) : Bool := (List.range (((one.length : Int) / 2 + 1) - 1).toNat).any (dblK p one)
end Mi
namespace DL
open PySem PySem.Spec PyProof.Rows L2
section
variable {wi : TI} {g : TG} {tb : TS} {ds ds0 : List Sl} {β : Type} {l : List β} {e : β → Dt} {f : β → Bool} {d : Dt}
/-- a loop that hands back d at the first item for which f holds, and else does nothing -/
theorem ds_anyF (hw : DW wi ds (l.map e) ds0) (h : l.any f = false) (hF : ∀ x, x ∈ l → f x = false → Turned g tb (e x) ds0 ds0) : DS (tFor wi g tb) ds (.nx ds0) :=
  ds_for hw (fun _ => ds0) rfl (fun i x hx => by
    rw [List.getElem?_map] at hx
    cases e1 : l[i]? with
    | none => rw [e1] at hx; cases hx
    | some y =>
      rw [e1] at hx
      cases hx
      have hm := List.mem_of_getElem? e1
      exact hF y hm (by
        rw [List.any_eq_false] at h
        simpa using h y hm)) rfl
theorem ds_anyT (hw : DW wi ds (l.map e) ds0) (h : l.any f = true) (hF : ∀ x, x ∈ l → f x = false → Turned g tb (e x) ds0 ds0) (hT : ∀ x, x ∈ l → f x = true → ∃ ds1 ds', DG g (e x) ds0 ds1 ∧ DS tb ds1 (.rt d ds')) : ∃ ds', DS (tFor wi g tb) ds (.rt d ds') := by
  have key : ∀ l : List β, l.any f = true → ∃ (n : Nat) (x : β), l[n]? = some x ∧ f x = true ∧ ∀ (i : Nat) (y : β), i < n → l[i]? = some y → f y = false := fun l => by
    induction l with
    | nil => intro h; simp at h
    | cons y l ih =>
      intro h
      by_cases hy : f y = true
      · exact ⟨0, y, rfl, hy, fun i _ hi => absurd hi (Nat.not_lt_zero _)⟩
      · rw [List.any_cons, show f y = false by simpa using hy, Bool.false_or] at h
        obtain ⟨n, x, h1, h2, h3⟩ := ih h
        refine ⟨n + 1, x, h1, h2, fun i z hi hz => ?_⟩
        cases i with
        | zero =>
          have hz : some y = some z := hz
          cases hz
          simpa using hy
        | succ i => exact h3 i z (by omega) (show l[i]? = some z from hz)
  obtain ⟨n, x, h1, h2, h3⟩ := key l h
  obtain ⟨ds1, ds', hg, hb⟩ := hT x (List.mem_of_getElem? h1) h2
  refine ⟨ds', ds_for_rt (x := e x) hw (fun _ => ds0) rfl n (fun i y hi hy => ?_) (by rw [List.getElem?_map, h1]; rfl) hg hb⟩
  rw [List.getElem?_map] at hy
  cases e1 : l[i]? with
  | none => rw [e1] at hy; cases hy
  | some z =>
    rw [e1] at hy
    cases hy
    exact hF z (List.mem_of_getElem? e1) (h3 i z hi e1)
end
section
variable {α β : Type} {wi1 wi2 : TI} {g1 g2 : TG} {tt : TT} {te : TE} {u : TS} {ds ds0 : List Sl} {l1 : List α} {l2 : α → List β} {e1 : α → Dt} {e2 : β → Dt} {f : α → β → Bool} {d : Dt} {dsx : α → List Sl} {dsy : α → β → List Sl} {W : Bool → Dt → List Sl → Prop}
/-- for x in ..: for y in ..: if c: return d -/
theorem fin_any2 (hw1 : DW wi1 ds (l1.map e1) ds0) (hg1 : ∀ x, x ∈ l1 → DG g1 (e1 x) ds0 (dsx x)) (hw2 : ∀ x, x ∈ l1 → DW wi2 (dsx x) ((l2 x).map e2) (dsx x)) (hg2 : ∀ x, x ∈ l1 → ∀ y, y ∈ l2 x → DG g2 (e2 y) (dsx x) (dsy x y))
    (ht : ∀ x, x ∈ l1 → ∀ y, y ∈ l2 x → DT tt (dsy x y) (f x y) (dsy x y)) (hr : ∀ x y, DE te (dsy x y) d (dsy x y)) (w1 : ∀ x, Weak (dsx x) ds0) (w2 : ∀ x y, Weak (dsy x y) (dsx x))
    (hW : l1.any (fun x => (l2 x).any (f x)) = true → ∀ ds', W false d ds') (k : l1.any (fun x => (l2 x).any (f x)) = false → Fin u ds0 W) : Fin (tSeq (tFor wi1 g1 (tFor wi2 g2 (tIfS tt (tRet te) tNext))) u) ds W := by
  have inF : ∀ x, x ∈ l1 → ∀ y, y ∈ l2 x → f x y = false → Turned g2 (tIfS tt (tRet te) tNext) (e2 y) (dsx x) (dsx x) := fun x hx y hy hf => tn_nx (hg2 x hx y hy) (ds_ifF (hf ▸ ht x hx y hy) ds_next) (w2 x y)
  have outF : ∀ x, x ∈ l1 → (l2 x).any (f x) = false → Turned g1 (tFor wi2 g2 (tIfS tt (tRet te) tNext)) (e1 x) ds0 ds0 := fun x hx hf => tn_nx (hg1 x hx) (ds_anyF (hw2 x hx) hf (inF x hx)) (w1 x)
  cases h : l1.any (fun x => (l2 x).any (f x)) with
  | false => exact fin_seq (ds_anyF hw1 h outF) (k h)
  | true =>
    obtain ⟨ds', h2⟩ := ds_anyT (d := d) hw1 h outF fun x hx hf => by
      obtain ⟨ds', h2⟩ := ds_anyT (d := d) (hw2 x hx) hf (inF x hx) fun y hy hf2 => ⟨_, _, hg2 x hx y hy, ds_ifT (hf2 ▸ ht x hx y hy) (ds_ret (hr x y))⟩
      exact ⟨_, _, hg1 x hx, h2⟩
    exact fin_seqX (fin_rt h2 (hW h ds'))
end
end DL
namespace Mi
open PySem L2 DL
/-! the coefficients of a product -/
def sumc (b : List Int) : List Int → Nat → Nat → Int
  | [], _, _ => 0
  | x :: r, n, i => (if n ≤ i ∧ i < n + b.length then x * gI b (i - n) else 0) + sumc b r (n + 1) i
theorem mul_go (b : List Int) : ∀ (a : List Int) (n : Nat) (f : List Int), n + a.length + b.length ≤ f.length → ∀ i, gI ((idx n a).foldl (mulStep b) f) i = gI f i + sumc b a n i
  | [], n, f, h, i => (Int.add_zero _).symm
  | x :: r, n, f, h, i => by
    rw [List.length_cons] at h
    show gI ((idx (n + 1) r).foldl (mulStep b) (mulStep b f (n, x))) i = gI f i + (_ + sumc b r (n + 1) i)
    rw [mul_go b r (n + 1) _ (by rw [mulStep_len]; omega), gI_mstep _ _ _ _ (by omega), Int.add_assoc]
theorem gI_mul (a b : List Int) (i : Nat) : gI (mulL a b) i = sumc b a 0 i := by
  unfold mulL
  rw [← Int.natCast_add, Int.toNat_natCast, mul_go b a 0 _ (by rw [List.length_replicate]; omega), gI_rep, Int.zero_add]
theorem sumc_top (b : List Int) (hb : 0 < b.length) : ∀ (a : List Int) (n : Nat), 0 < a.length → sumc b a n (n + (a.length - 1) + (b.length - 1)) = gI a (a.length - 1) * gI b (b.length - 1)
  | [], _, h => absurd h (by decide)
  | [x], n, _ => by
    show (if _ then _ else _) + (0 : Int) = _
    rw [if_pos (by simp only [List.length_cons, List.length_nil]; omega), Int.add_zero]
    simp only [List.length_cons, List.length_nil]
    rw [show n + (0 + 1 - 1) + (b.length - 1) - n = b.length - 1 by omega]
    rfl
  | x :: y :: r, n, _ => by
    show (if _ then _ else _) + sumc b (y :: r) (n + 1) _ = _
    have e : n + ((x :: y :: r).length - 1) + (b.length - 1) = (n + 1) + ((y :: r).length - 1) + (b.length - 1) := by simp only [List.length_cons]; omega
    rw [e, sumc_top b hb (y :: r) (n + 1) (by simp), if_neg (by simp only [List.length_cons]; omega), Int.zero_add]
    congr 1
theorem pmul_top {p : Int} (hp : 1 < p) {a b : List Int} (ha : 0 < a.length) (hb : 0 < b.length) (h1 : gI a (a.length - 1) = 1) (h2 : gI b (b.length - 1) = 1) : gI (pmul p a b) (a.length - 1 + (b.length - 1)) = 1 := by
  unfold pmul
  rw [gI_norm, gI_mul]
  have := sumc_top b hb a 0 ha
  rw [Nat.zero_add] at this
  rw [this, h1, h2]
  exact Int.emod_eq_of_lt (by decide) hp
theorem ne_of_gI {a : List Int} {i : Nat} (h : gI a i = 1) : a ≠ [] := fun z => by
  rw [z, gI_nil] at h
  cases h
theorem sq_ne {p : Int} (hp : 1 < p) {n : Nat} {x : List Int} (h : x ∈ mons p n) : pmul p x x ≠ [] := by
  obtain ⟨_, e, h1⟩ := mons_nm hp h
  refine ne_of_gI (pmul_top hp (by omega) (by omega) ?_ ?_) <;> (rw [e]; exact h1)
end Mi

end

section
set_option Elab.async false
set_option linter.all false
set_option maxRecDepth 100000
set_option autoImplicit false
set_option maxHeartbeats 4000000
namespace K7
open PySem PySem.Spec PyProof.Rows L2 DL Mi
local macro_rules | `(tactic| walk_at "side") => `(tactic| first | trivial | assumption | omega | exact .inl (by omega) | exact .inr (by omega) | ((try simp only [List.length_append, List.length_replicate, List.length_map, List.length_range, List.mem_range, List.length_cons, List.length_nil, List.length_dropLast, List.length_set, gZ_gI, setZ_len] at *); (repeat' (first | apply And.intro | split)) <;> (first | assumption | omega)) | fail "side")
section
variable {P : Program} {w : World} {K : PySem.W.Frag} {mg : Str → Option Value} {base : Heap}
def S_l_monics (xs : List Dt) (d : Dt) : Prop := ∃ (p : Int) (power : Int), xs = [.int p, .int power] ∧ (1 < p ∧ p ≤ 5 ∧ 0 ≤ power ∧ power ≤ 3) ∧ d = .lst ((mons p power.toNat).map Dt.li)
theorem ok_l_monics (T : Txt P K mg) : FnOk P w K mg base CX0 1 T.f_l_monics T.fd_l_monics ["_law_p", "_law_power"] (SpP 2 S_l_monics) := by
  refine T.F_l_monics.ok sc_l_monics len_P (fun cdv A outer s H vs Q E hr h => ⟨_, (pss_cons (ps_set (i := 2) sc_l_monics.nd rfl (by first | exact Or.inl rfl | exact Or.inr rfl) (pe_lst (pa_cons (pe_lst pa_nil) pa_nil)))
      (pss_cons (ps_for PassesOwn.never rfl (pi_range1 (by rfl) T.n_range (pa_cons (pv 1) pa_nil)) (pg_name (i := 3) sc_l_monics.nd rfl (by first | exact Or.inl rfl | exact Or.inr rfl)) (pss_cons (ps_set (i := 4) sc_l_monics.nd rfl (by first | exact Or.inl rfl | exact Or.inr rfl) (pe_lst pa_nil))
      (pss_cons (ps_for PassesOwn.never rfl (pi_list (pv 2)) (pg_name (i := 5) sc_l_monics.nd rfl (by first | exact Or.inl rfl | exact Or.inr rfl)) (pss_one (ps_set (i := 4) sc_l_monics.nd rfl (by first | exact Or.inl rfl | exact Or.inr rfl) (pe_op op_cat (pv 4) (pe_lc (own := [("_law_number", 6)]) (g := gName 6) rfl sc_l_monics.nd (pi_range1 (by rfl) T.n_range (pa_cons (pv 0) pa_nil)) (blkOk_by (N := ["_law_p", "_law_power", "_law_found", "_law_turn", "_law_longer", "_law_one", "_law_number"]) (sc := defScope s_l_monics) (by decide +kernel)) (fun _ _ _ _ _ => pg_name (i := 6) sc_l_monics.nd rfl (by first | exact Or.inl rfl | exact Or.inr rfl)) (fun _ _ _ _ _ => pts_nil) (fun _ _ _ _ _ => (pe_op op_cat (pv 5) (pe_lst (pa_cons (pv 6) pa_nil)))))))))
      (pss_one (ps_set (i := 2) sc_l_monics.nd rfl (by first | exact Or.inl rfl | exact Or.inr rfl) (pv 4))))))
      (pss_one (ps_ret (pe_lc (own := [("_law_one", 5)]) (g := gName 5) rfl sc_l_monics.nd (pi_list (pv 2)) (blkOk_by (N := ["_law_p", "_law_power", "_law_found", "_law_turn", "_law_longer", "_law_one", "_law_number"]) (sc := defScope s_l_monics) (by decide +kernel)) (fun _ _ _ _ _ => pg_name (i := 5) sc_l_monics.nd rfl (by first | exact Or.inl rfl | exact Or.inr rfl)) (fun _ _ _ _ _ => pts_nil) (fun _ _ _ _ _ => (pe_op op_cat (pv 5) (pe_lst (pa_cons pe_int pa_nil))))))))), go_P h fun xs d hS => ?_⟩)
  obtain ⟨p, power, rfl, hpre, rfl⟩ := hS
  show Fin _ [.sh (.int p), .sh (.int power), .non, .non, .non, .non, .non] _
  have ⟨hp0, hp1, hp2, hp3⟩ := hpre
  refine fin_seq (ds_set (DE.ofN (DN.eq (d' := .lst (([[]] : List (List Int)).map Dt.li)) (dn_lst (da_cons (DE.ofN (dn_liC da_nil rfl (Nat.le_of_ble_eq_true rfl))) da_nil) (Nat.le_of_ble_eq_true rfl)) rfl))) ?_
  refine fin_seq (ds_fold (l := List.range power.toNat) (fun f : List (List Int) => [.sh (.int p), .sh (.int power), .sh (.lst (f.map Dt.li)), .non, .non, .non, .non]) (fun f _ => mlong p f) (fun n f => f = mfound p n) [[]] (dw_rng1 (da_cons (de_var rfl) da_nil) ?_) rfl (fun n f k hk hf => ?_)) ?_
  · omega
  · have hn : n < power.toNat := by have := (List.getElem?_eq_some_iff.mp hk).1; rwa [List.length_range] at this
    have hsm := mfound_small hp1 (show n ≤ 3 by omega)
    rw [← hf] at hsm
    have hl := hsm.1
    refine ⟨tn_nx dg_name (ds_seq (ds_set (DE.ofN (DN.eq (d' := .lst (([] : List (List Int)).map Dt.li)) (dn_lst da_nil (Nat.le_of_ble_eq_true rfl)) rfl))) (ds_seq (ds_fold (l := f) (fun acc : List (List Int) => [.sh (.int p), .sh (.int power), .sh (.lst (f.map Dt.li)), .sh (.int (k : Nat)), .sh (.lst (acc.map Dt.li)), .non, .non]) (mrow p) (fun m acc => acc.length ≤ m * 5) [] (dw_list (de_var rfl)) (by decide) (fun m acc one hm ha => ?_)) (ds_set (de_var rfl)))) (by (try dsimp only [List.set_cons_zero, List.set_cons_succ]); (repeat (first | exact Weak.nil | refine Weak.keep ?_ | refine Weak.drop ?_))), ?_⟩
    · have hml : m < f.length := (List.getElem?_eq_some_iff.mp hm).1
      refine ⟨tn_nx dg_name (ds_set (DE.ofN (DN.eq (dn_op (de_var rfl) (DE.ofN (dn_mapB (fun k : Nat => .li (one ++ [(k : Int)])) (dw_rng1 (da_cons (de_var rfl) da_nil) ?_) ?_ rfl fun x hx => ⟨_, dgc_name (by simp), (DE.ofN (dn_op (de_var rfl) (DE.ofN (dn_liC (da_cons (de_var rfl) da_nil) rfl (Nat.le_of_ble_eq_true rfl))) (rn_catI ?_))), rfl⟩)) (rn_cat ?_)) ?_))) (by (try dsimp only [List.set_cons_zero, List.set_cons_succ]); (repeat (first | exact Weak.nil | refine Weak.keep ?_ | refine Weak.drop ?_))), ?_⟩
      · omega
      · rw [List.length_range]; omega
      · have := hsm.2 one (List.mem_of_getElem? hm)
        simp only [List.length_cons, List.length_nil]
        omega
      · rw [List.length_map, List.length_map, List.length_range]; omega
      · unfold mrow
        rw [List.map_append, List.map_map]
        rfl
      · unfold mrow
        rw [List.length_append, List.length_map, List.length_range]
        omega
    · rw [hf, mfound_succ]
  refine fin_ret (DE.ofN (DN.eq (dn_mapB (fun one : List Int => .li (one ++ [1])) (dw_list (de_var rfl)) ?_ rfl fun x hx => ⟨_, dgc_name (by simp), (DE.ofN (dn_op (de_var rfl) (DE.ofN (dn_liC (da_cons de_int da_nil) rfl (Nat.le_of_ble_eq_true rfl))) (rn_catI ?_))), rfl⟩) ?_)) rfl
  · rw [show (List.range power.toNat).foldl (fun f _ => mlong p f) [[]] = mfound p power.toNat from rfl]
    have := (mfound_small hp1 (show power.toNat ≤ 3 by omega)).1
    omega
  · have := (mfound_small hp1 (show power.toNat ≤ 3 by omega)).2 _ hx
    simp only [List.length_cons, List.length_nil]
    omega
  · unfold mons
    rw [List.map_map]
    rfl
end
end K7

end

section
set_option Elab.async false
set_option linter.all false
set_option maxRecDepth 100000
set_option autoImplicit false
set_option maxHeartbeats 4000000
namespace K7
open PySem PySem.Spec PyProof.Rows L2 DL Mi
local macro_rules | `(tactic| walk_at "side") => `(tactic| first | trivial | assumption | omega | exact .inl (by omega) | exact .inr (by omega) | ((try simp only [List.length_append, List.length_replicate, List.length_map, List.length_range, List.mem_range, List.length_cons, List.length_nil, List.length_dropLast, List.length_set, gZ_gI, setZ_len] at *); (repeat' (first | apply And.intro | split)) <;> (first | assumption | omega)) | fail "side")
section
variable {P : Program} {w : World} {K : PySem.W.Frag} {mg : Str → Option Value} {base : Heap}
def S_l_is_double (xs : List Dt) (d : Dt) : Prop := ∃ (p : Int) (one : List Int), xs = [.int p, .li one] ∧ (PP p ∧ p ≤ 5 ∧ Nm p one ∧ one.length ≤ 6) ∧ d = .bl (dbl p one)
theorem ok_l_is_double (T : Txt P K mg) : FnOk P w K mg base CX0 5 T.f_l_is_double T.fd_l_is_double ["_law_p", "_law_one"] (SpP 2 S_l_is_double) := by
  refine T.F_l_is_double.ok sc_l_is_double len_P (fun cdv A outer s H vs Q E hr h => ⟨_, (pss_cons (ps_for PassesOwn.never rfl (pi_range2 (by rfl) T.n_range (pa_cons pe_int (pa_cons (pe_op op_add (pe_op op_fdiv (pe_callB (r := rLenS K) call_len_seq (by rfl) T.n_len PySem.boot_len (pa_cons (pv 1) pa_nil)) pe_int) pe_int) pa_nil))) (pg_name (i := 2) sc_l_is_double.nd rfl (by first | exact Or.inl rfl | exact Or.inr rfl)) (pss_one (ps_for PassesOwn.never rfl (pi_list (pe_call (ok_l_monics T) (hr.mono (by decide)) (by rfl) T.g_l_monics T.F_l_monics.kp T.b_l_monics .nil pass0 (pa_cons (pv 0) (pa_cons (pv 2) pa_nil)))) (pg_name (i := 3) sc_l_is_double.nd rfl (by first | exact Or.inl rfl | exact Or.inr rfl)) (pss_one (ps_if (PW.pt (pw_and (pt_cmpR op_lt (pe_op op_mul pe_int (pv 2)) (pe_callB (r := rLenS K) call_len_seq (by rfl) T.n_len PySem.boot_len (pa_cons (pv 1) pa_nil)) (nomark _)) (pw_and1 (pt_cmpR (r := rEqD K) (op_eqD hr.units) (pe_call (ok_l_rest T) (hr.mono (by decide)) (by rfl) T.g_l_rest T.F_l_rest.kp T.b_l_rest .nil pass0 (pa_cons (pv 0) (pa_cons (pv 1) (pa_cons (pe_call (ok_l_times T) (hr.mono (by decide)) (by rfl) T.g_l_times T.F_l_times.kp T.b_l_times .nil pass0 (pa_cons (pv 0) (pa_cons (pv 3) (pa_cons (pv 3) pa_nil)))) pa_nil)))) (pe_lst pa_nil) (nomark _))))) (pss_one (ps_ret pe_bl)) pss_nil)))))
      (pss_one (ps_ret pe_bl))), go_P h fun xs d hS => ?_⟩)
  obtain ⟨p, one, rfl, hpre, rfl⟩ := hS
  show Fin _ [.sh (.int p), .sh (.li one), .non, .non] _
  have ⟨hp0, hp1, hp2, hp3⟩ := hpre
  have hb := hp0.bd
  have h1 := hp0.one
  refine fin_any2 (l1 := List.range (((one.length : Int) / 2 + 1) - 1).toNat) (e1 := fun k : Nat => .int (1 + (k : Nat))) (l2 := fun k => mons p (1 + k)) (e2 := Dt.li) (f := dblT p one) (d := .bl true)
    (ds0 := [.sh (.int p), .sh (.li one), .non, .non]) (dsx := fun k => [.sh (.int p), .sh (.li one), .sh (.int (1 + (k : Nat))), .non]) (dsy := fun k low => [.sh (.int p), .sh (.li one), .sh (.int (1 + (k : Nat))), .sh (.li low)])
    (dw_rng2 (da_cons de_int (da_cons (de_op (de_op (de_cb (da_cons (de_var rfl) da_nil) cd_lenI) de_int (rd_div ?_)) de_int rd_I0) da_nil)) ?_) (fun k hk => dg_name) (fun k hk => DW.eq (dw_list (de_call (da_cons (de_var rfl) (da_cons (de_var rfl) da_nil)) rfl ⟨_, _,  rfl, ?_, rfl⟩)) (by rw [show (1 + (k : Int)).toNat = 1 + k by omega])) (fun k hk low hlow => dg_name)
    (fun k hk low hlow => (dt_and (dt_test (de_op (de_op de_int (de_var rfl) (rd_mulC ?_)) (de_cb (da_cons (de_var rfl) da_nil) cd_lenI) (rd_B0))) fun hq1 => (dt_test (de_op (de_call (da_cons (de_var rfl) (da_cons (de_var rfl) (da_cons (DE.ofN (dn_call (da_cons (de_var rfl) (da_cons (de_var rfl) (da_cons (de_var rfl) da_nil))) rfl ⟨_, _, _,  rfl, ?_, rfl⟩)) da_nil))) rfl ⟨_, _, _,  rfl, ?_, rfl⟩) (DE.ofN (dn_liC da_nil rfl (Nat.le_of_ble_eq_true rfl))) (rd_eqL))))) (fun k low => de_bl) (fun k => (by (try dsimp only [List.set_cons_zero, List.set_cons_succ]); (repeat (first | exact Weak.nil | refine Weak.keep ?_ | refine Weak.drop ?_)))) (fun k low => (by (try dsimp only [List.set_cons_zero, List.set_cons_succ]); (repeat (first | exact Weak.nil | refine Weak.keep ?_ | refine Weak.drop ?_))))
    (fun h ds' => by rw [show dbl p one = true from h]) (fun h => fin_ret de_bl (by rw [show dbl p one = false from h]))
  all_goals try have hk' := List.mem_range.mp hk
  all_goals try have hm := mons_nm h1 hlow
  · omega
  · omega
  · exact ⟨h1, hp1, by omega, by omega⟩
  · exact .inl ⟨by decide, by decide⟩
  · refine ⟨hb.1, by omega, by omega, hm.1.cm hb.2⟩
  · have hl := pmul_len p low low
    exact ⟨hp0, hp2, nm_norm hb.1 _, sq_ne h1 hlow, by omega, by omega⟩
end
end K7

end

section
set_option Elab.async false
set_option linter.all false
set_option maxRecDepth 100000
set_option autoImplicit false
set_option maxHeartbeats 4000000
namespace K7
open PySem PySem.Spec PyProof.Rows L2 DL Mi
local macro_rules | `(tactic| walk_at "side") => `(tactic| first | trivial | assumption | omega | exact .inl (by omega) | exact .inr (by omega) | ((try simp only [List.length_append, List.length_replicate, List.length_map, List.length_range, List.mem_range, List.length_cons, List.length_nil, List.length_dropLast, List.length_set, gZ_gI, setZ_len] at *); (repeat' (first | apply And.intro | split)) <;> (first | assumption | omega)) | fail "side")
section
variable {P : Program} {w : World} {K : PySem.W.Frag} {mg : Str → Option Value} {base : Heap}
def S_l_made (xs : List Dt) (d : Dt) : Prop := ∃ (p : Int) (v : Dt), xs = [.int p, v] ∧ PP p ∧ Vk v ∧ Lv v ∧ RpD v ∧ crv p v = false ∧ d = .non
def H_l_made (C : Addr) (x0 dj : Dt) (xr : List Dt) (d : Dt) : Prop := ∃ (p : Int) (f : List Int), x0 = .int p ∧ dj = .li f ∧ xr = [] ∧ PP p ∧ f.length ≤ 19 ∧ crvL p f = true ∧ d = .ins C (cf p f)
theorem call_reprS {X : Cx} {a : Addr} {pn : List (Addr × Obj)} (hG : X.A.guards = some []) (hu : X.A.units + 64 < cLine) : CallR (X.suite a pn) (.builtin "repr") (rRepr X.K) := call_repr (X := X.suite a pn) hG hu
theorem kit_self (K : PySem.W.Frag) (C : Addr) : PySem.W.kitOne K (.ref C) (.ref C) = some true := by
  unfold PySem.W.kitOne
  rw [if_pos (by simp)]
theorem ok_l_made (T : Txt P K mg) : FnG P w K mg base (L2.CX P w) 9 T.f_l_made T.fd_l_made ["_law_p", "_law_value"] (SpU (SpP 2 S_l_made) (SpH 2 (H_l_made T.C_Curve))) := by
  refine fng_of T.F_l_made sc_l_made (len_U len_P len_H) (fun cdv A outer s H vs Q E hG hr h => ⟨_, (pss_cons (ps_set (i := 2) sc_l_made.nd rfl (by first | exact Or.inl rfl | exact Or.inr rfl) pe_non)
      (pss_cons (ps_try_as (i := 3) (c := .ref T.C_CurveError) rfl rfl sc_l_made.nd rfl rfl ⟨rfl, by decide, .inl T.gC_CurveError⟩ (takes_of rfl rfl rfl rfl)
        (fun W pn xe tk po => pss_one (ps_set (i := 2) sc_l_made.nd rfl (by first | exact Or.inl rfl | exact Or.inr rfl) (pe_makeS T.mk_Curve (ok_Curve_init T) (hr.mono (by decide)) (by rfl) T.gC_Curve T.b_Curve_init (fun σ => passAt tk σ) (pa_cons (pv 0) (pa_cons (pv 1) pa_nil)))))
        (fun a oe cls d pn hz hfl => pss_one (ps_if (PW.pt (pw_or (pt_not (pt_val (pe_callB (call_isD hz hfl) (by rfl) T.n_isinstance (by decide +kernel) (pa_cons (pv 3) (pa_cons (pe_glob (v := .ref T.C_InvalidPolynomial) (by rfl) T.gC_InvalidPolynomial rfl) pa_nil)))))
          (pw_or1 (pt_cmpR op_ne (pe_callB (call_reprS hG hr.units) (by rfl) T.n_repr (by decide +kernel) (pa_cons (pe_xf T.xf_IP T.nv_IP hz hfl (pv 3)) pa_nil)) (pe_callB (call_reprS hG hr.units) (by rfl) T.n_repr (by decide +kernel) (pa_cons (pv 1) pa_nil)) (nomark _)))))
          (pss_one (ps_ret pe_str)) pss_nil)))
      (pss_one (ps_ret (pv 2))))), h.elim (fun h => go_P h fun xs d hS => ?_) (fun h => go_H h fun a x0 dj xr d hS => ?_)⟩)
  · obtain ⟨p, v, rfl, hp, hv, hl, hR, hc, rfl⟩ := hS
    show Fin _ [.sh (.int p), .sh v, .non, .non] _
    refine fin_seq (ds_set de_non) ?_
    refine fin_seq (ds_tryX (dsE := [.sh (.int p), .sh v, .sh .non, .non]) (Inc.l _ _) (da_cons (de_var rfl) (da_cons (de_var rfl) da_nil)) rfl ⟨p, v, rfl, rfl, hp, hv, hl, hc, rfl, rfl⟩ T.em_IP (fun F O' σ' H' a dd u S hdd hdv D' k => ?_)) (fin_ret (de_var rfl) rfl)
    obtain ⟨v1, e1, hv1⟩ := S.sh (i := 1) (d := v) rfl
    have hend : D'.nx σ' H' := k O' σ' H' (Le.refl O' H') (S.weak (by dsimp only [List.set_cons_zero, List.set_cons_succ]; repeat (first | exact Weak.nil | refine Weak.keep ?_ | refine Weak.drop ?_)))
    refine sx_is S rfl hdd.1 T.xc_IP (kit_self _ _) ?_
    refine iteF ?_
    refine sx_val S rfl hdd.1 ?_
    refine ⟨u, toPy v, rfl, dp_of gr_get hdv hR.1, hR.2, ?_⟩
    refine ⟨v1, e1, v1, toPy v, rfl, dp_of gr_get hv1 hR.1, hR.2, ?_⟩
    refine ⟨rfl, ?_⟩
    rw [decide_eq_true rfl]
    exact ⟨false, rfl, iteF hend⟩
  · obtain ⟨p, f, rfl, rfl, rfl, hp, hl, hc, rfl⟩ := hS
    show Fin _ [.sh (.int p), .bo a (.li f), .non, .non] _
    refine fin_seq (ds_set de_non) ?_
    exact fin_seq (ds_tryI (Inc.r _ _) (de_var rfl) rfl has_bo ⟨p, f, rfl, rfl, rfl, hp, hl, hc, rfl, rfl⟩) (fin_ret (de_var rfl) ⟨rfl, rfl⟩)

end
end K7

end

section
set_option Elab.async false
set_option linter.all false
set_option maxRecDepth 100000
set_option autoImplicit false
/-! texts of small things -/
namespace Mi
open PySem L2 DL
/-- small flat things -/
def Sm (d : PyData) : Prop := d = .none ∨ d = .bool true ∨ ∃ i : Int, d = .int i ∧ -16 ≤ i ∧ i ≤ 16
theorem sm_ints : ∀ k ∈ List.range 33, (PyData.shown (.int ((k : Int) - 16))).length ≤ 5 ∧ PyData.showable (.int ((k : Int) - 16)) = true := by decide +kernel
theorem sm_int {i : Int} (h1 : -16 ≤ i) (h2 : i ≤ 16) : (PyData.shown (.int i)).length ≤ 5 ∧ PyData.showable (.int i) = true := by
  have := sm_ints (i + 16).toNat (List.mem_range.mpr (by omega))
  rwa [show (((i + 16).toNat : Nat) : Int) - 16 = i by omega] at this
theorem Sm.len {d : PyData} (h : Sm d) : d.shown.length ≤ 5 := by
  rcases h with rfl | rfl | ⟨i, rfl, h1, h2⟩
  · decide
  · decide
  · exact (sm_int h1 h2).1
theorem Sm.sh {d : PyData} (h : Sm d) : d.showable = true := by
  rcases h with rfl | rfl | ⟨i, rfl, h1, h2⟩
  · rfl
  · rfl
  · exact (sm_int h1 h2).2
theorem Sm.di {d : PyData} (h : Sm d) : d.hasDict = false := by
  rcases h with rfl | rfl | ⟨i, rfl, h1, h2⟩ <;> rfl
theorem Sm.dp {d : PyData} (h : Sm d) : d.depth = 0 := by
  rcases h with rfl | rfl | ⟨i, rfl, h1, h2⟩ <;> rfl
theorem Sm.la {d : PyData} (h : Sm d) : d.canLay0 = true := by
  rcases h with rfl | rfl | ⟨i, rfl, h1, h2⟩ <;> rfl
theorem sm_all : ∀ (ds : List PyData), (∀ d ∈ ds, Sm d) → PyData.showableAll ds = true ∧ PyData.hasDictAll ds = false ∧ PyData.depthAll ds = 0 ∧ PyData.canLayAll0 ds = true ∧ ((PyData.shownAll ds).map (·.length)).sum ≤ 5 * ds.length ∧ (PyData.shownAll ds).length = ds.length
  | [], _ => ⟨rfl, rfl, rfl, rfl, Nat.le_refl _, rfl⟩
  | d :: ds, h => by
    have hd := h d List.mem_cons_self
    obtain ⟨h1, h2, h3, h4, h5, h6⟩ := sm_all ds fun x hx => h x (List.mem_cons_of_mem _ hx)
    refine ⟨?_, ?_, ?_, ?_, ?_, ?_⟩
    · unfold PyData.showableAll
      rw [hd.sh, h1]
      rfl
    · unfold PyData.hasDictAll
      rw [hd.di, h2]
      rfl
    · unfold PyData.depthAll
      rw [hd.dp, h3]
      rfl
    · unfold PyData.canLayAll0
      rw [hd.la, h4]
      rfl
    · unfold PyData.shownAll
      rw [List.map_cons, List.sum_cons, List.length_cons]
      have := hd.len
      omega
    · unfold PyData.shownAll
      rw [List.length_cons, List.length_cons, h6]
theorem size1000 {n : Nat} (h : n ≤ 1000) : n ≤ sizeLine := Nat.le_of_lt (small1000 h)
theorem rp_list {ds : List PyData} (h : ∀ d ∈ ds, Sm d) (hl : ds.length ≤ 100) : Rp (.list ds) ∧ SeqAt.shaped (.list ds) = true := by
  obtain ⟨h1, h2, h3, h4, h5, h6⟩ := sm_all ds h
  refine ⟨⟨?_, ?_, ?_, ?_⟩, ?_⟩
  · unfold PyData.showable; exact h1
  · unfold PyData.hasDict; exact h2
  · unfold PyData.depth; rw [h3]; decide
  · have := listText_len_le (PyData.shownAll ds)
    refine size1000 ?_
    unfold PyData.shown
    omega
  · unfold SeqAt.shaped
    rw [show PyData.canLay0 (.list ds) = true by unfold PyData.canLay0; exact h4, Bool.true_and]
    refine decide_eq_true ?_
    unfold PyData.depth
    rw [h3]
    decide
theorem rp_tup {ds : List PyData} (h : ∀ d ∈ ds, Sm d) (hl : ds.length ≤ 100) : Rp (.tuple ds) := by
  obtain ⟨h1, h2, h3, h4, h5, h6⟩ := sm_all ds h
  refine ⟨?_, ?_, ?_, ?_⟩
  · unfold PyData.showable; exact h1
  · unfold PyData.hasDict; exact h2
  · unfold PyData.depth; rw [h3]; decide
  · have := tupleText_len_le (PyData.shownAll ds)
    refine size1000 ?_
    unfold PyData.shown
    omega
theorem toPys_ints : ∀ xs : List Int, toPys (xs.map Dt.int) = xs.map PyData.int
  | [] => rfl
  | x :: r => by
    rw [List.map_cons, List.map_cons]
    unfold toPys
    rw [toPys_ints r]
    rfl
theorem plains_ints : ∀ xs : List Int, plains (xs.map Dt.int) = true
  | [] => rfl
  | x :: r => by
    rw [List.map_cons]
    unfold plains
    rw [plains_ints r]
    rfl
theorem sm_map {xs : List Int} (h : ∀ x ∈ xs, -16 ≤ x ∧ x ≤ 16) : ∀ d ∈ xs.map PyData.int, Sm d := fun d hd => by
  obtain ⟨x, hx, rfl⟩ := List.mem_map.mp hd
  exact .inr (.inr ⟨x, rfl, h x hx⟩)
/-- lists of small ints -/
theorem rpd_li {xs : List Int} (h : ∀ x ∈ xs, -16 ≤ x ∧ x ≤ 16) (hl : xs.length ≤ 100) : RpD (.li xs) :=
  ⟨by unfold DL.plain; rfl, by unfold toPy; exact (rp_list (sm_map h) (by rw [List.length_map]; exact hl)).1⟩
theorem rpd_tup {xs : List Int} (h : ∀ x ∈ xs, -16 ≤ x ∧ x ≤ 16) (hl : xs.length ≤ 100) : RpD (.tup (xs.map Dt.int)) :=
  ⟨by unfold DL.plain; exact plains_ints xs, by unfold toPy; rw [toPys_ints]; exact rp_tup (sm_map h) (by rw [List.length_map]; exact hl)⟩
theorem rpd_non : RpD .non := ⟨by unfold DL.plain; rfl, ⟨rfl, rfl, by decide, by decide⟩⟩
theorem rpd_rep {d : Dt} {n : Nat} (hd : d = .non ∨ d = .bl true) (hn : n ≤ 100) : RpD (.lst (List.replicate n d)) := by
  have h1 : DL.plain d = true := by rcases hd with rfl | rfl <;> (unfold DL.plain; rfl)
  refine ⟨by unfold DL.plain; exact plains_rep h1 _, ?_⟩
  unfold toPy
  rw [toPys_rep]
  refine (rp_list (fun x hx => ?_) (by rw [List.length_replicate]; exact hn)).1
  rw [(List.mem_replicate.mp hx).2]
  rcases hd with rfl | rfl
  · exact .inl rfl
  · exact .inr (.inl rfl)
theorem rpd_int {i : Int} (h1 : -16 ≤ i) (h2 : i ≤ 16) : RpD (.int i) := ⟨by unfold DL.plain; rfl, ⟨(sm_int h1 h2).2, rfl, by unfold toPy PyData.depth; decide, size1000 (Nat.le_trans (sm_int h1 h2).1 (by decide))⟩⟩
theorem rpd_11 : RpD (.str "11") := ⟨by unfold DL.plain; rfl, ⟨rfl, rfl, by unfold toPy PyData.depth; decide, size1000 (by decide +kernel)⟩⟩
theorem rp_gen {f : List Int} (h : f.length ≤ 19) : RpD (.int (((f.length : Int) - 2) / 2)) := rpd_int (by omega) (by omega)
abbrev given (f : List Int) : Dt := .lst (f.map Dt.int ++ [.non])
theorem toPys_given : ∀ xs : List Int, toPys (xs.map Dt.int ++ [.non]) = xs.map PyData.int ++ [.none]
  | [] => rfl
  | x :: r => by
    rw [List.map_cons, List.map_cons, List.cons_append, List.cons_append]
    unfold toPys
    rw [toPys_given r]
    rfl
theorem plains_given : ∀ xs : List Int, plains (xs.map Dt.int ++ [.non]) = true
  | [] => rfl
  | x :: r => by
    rw [List.map_cons, List.cons_append]
    unfold plains
    rw [plains_given r]
    rfl
theorem eqvAll_given : ∀ xs : List Int, PyData.eqvAll (xs.map PyData.int ++ [.none]) (xs.map PyData.int ++ [.none]) = true
  | [] => rfl
  | x :: r => by
    rw [List.map_cons, List.cons_append]
    unfold PyData.eqvAll
    rw [eqvAll_given r]
    unfold PyData.eqv
    simp
theorem given_ne (f : List Int) : (!PyData.eqv (toPy (given f)) (toPy (given f))) = false := by
  unfold toPy
  rw [toPys_given]
  unfold PyData.eqv
  rw [eqvAll_given]
  rfl
theorem lay_given : ∀ xs : List Int, PyData.canLayAll0 (xs.map PyData.int ++ [.none]) = true
  | [] => rfl
  | x :: r => by
    rw [List.map_cons, List.cons_append]
    unfold PyData.canLayAll0
    rw [lay_given r]
    rfl
theorem depth_given : ∀ xs : List Int, PyData.depthAll (xs.map PyData.int ++ [.none]) = 0
  | [] => rfl
  | x :: r => by
    rw [List.map_cons, List.cons_append]
    unfold PyData.depthAll
    rw [depth_given r]
    rfl
theorem given_shp {f : List Int} (h : f.length ≤ 19) : shp (given f) = true := by
  unfold shp
  rw [show DL.plain (given f) = true by unfold DL.plain; exact plains_given f, Bool.true_and]
  unfold toPy
  rw [toPys_given]
  unfold SeqAt.shaped
  rw [show PyData.canLay0 (.list (f.map PyData.int ++ [.none])) = true by unfold PyData.canLay0; exact lay_given f, Bool.true_and]
  refine decide_eq_true ?_
  unfold PyData.depth
  rw [depth_given]
  decide
end Mi

end

section
set_option Elab.async false
set_option linter.all false
set_option maxRecDepth 100000
set_option autoImplicit false
set_option maxHeartbeats 4000000
namespace K7
open PySem PySem.Spec PyProof.Rows L2 DL Mi
local macro_rules | `(tactic| walk_at "side") => `(tactic| first | trivial | assumption | omega | exact .inl (by omega) | exact .inr (by omega) | ((try simp only [List.length_append, List.length_replicate, List.length_map, List.length_range, List.mem_range, List.length_cons, List.length_nil, List.length_dropLast, List.length_set, gZ_gI, setZ_len] at *); (repeat' (first | apply And.intro | split)) <;> (first | assumption | omega)) | fail "side")
section
variable {P : Program} {w : World} {K : PySem.W.Frag} {mg : Str → Option Value} {base : Heap}
def S_l_curve_right (xs : List Dt) (d : Dt) : Prop := ∃ (p : Int) (v : Dt), xs = [.int p, v, .bl false] ∧ PP p ∧ Vk v ∧ Lv v ∧ RpD v ∧ crv p v = false ∧ d = .bl true
def H_l_curve_right (x0 dj : Dt) (xr : List Dt) (d : Dt) : Prop := ∃ (p : Int) (f : List Int), x0 = .int p ∧ dj = .li f ∧ xr = [.bl true] ∧ PP p ∧ f.length ≤ 19 ∧ crvL p f = true ∧ RpD (.li f) ∧ d = .bl true
theorem ok_l_curve_right (T : Txt P K mg) : FnG P w K mg base (L2.CX P w) 10 T.f_l_curve_right T.fd_l_curve_right ["_law_p", "_law_value", "_law_due"] (SpU (SpP 3 S_l_curve_right) (SpH 3 H_l_curve_right)) := by
  refine fng_of T.F_l_curve_right sc_l_curve_right (len_U len_P len_H) (fun cdv A outer s H vs Q E hG hr h => h.elim (fun h => ⟨_, (pss_cons (ps_set (i := 3) sc_l_curve_right.nd rfl (by first | exact Or.inl rfl | exact Or.inr rfl) (pe_callB (call_repr hG hr.units) (by rfl) T.n_repr (by decide +kernel) (pa_cons (pv 1) pa_nil)))
      (pss_cons (ps_set (i := 4) sc_l_curve_right.nd rfl (by first | exact Or.inl rfl | exact Or.inr rfl) (pe_callG (ok_l_made T) hG (hr.mono (by decide)) (by rfl) T.g_l_made T.F_l_made.kp T.b_l_made .nil passL (pa_cons (pv 0) (pa_cons (pv 1) pa_nil))))
      (pss_cons (ps_if (pt_cmpR op_ne (pe_callB (call_repr hG hr.units) (by rfl) T.n_repr (by decide +kernel) (pa_cons (pv 1) pa_nil)) (pv 3) (nomark _)) (pss_one (ps_ret pe_bl)) pss_nil)
      (pss_cons (ps_if (PW.pt (pw_or (pt_cmpR op_eq (pv 4) pe_str (nomark _)) (pw_or1 (pt_cmpR op_eq (pe_cmpR op_isN (pv 4) pe_non (nomark _)) (pv 2) (nomark _))))) (pss_one (ps_ret pe_bl)) pss_nil)
      (pss_cons (ps_if (pt_cmpR op_isN (pv 4) pe_non (nomark _)) (pss_one (ps_ret pe_bl)) pss_nil)
      (pss_cons (ps_par (i := 5) (j := 6) rfl sc_l_curve_right.nd rfl rfl (by decide) rfl rfl (pa_cons (pe_meth0 (pv 4) T.cl_Curve T.m_Curve_polynomial (ok_Curve_polynomial T) (hr.mono (by decide)) T.b_Curve_polynomial .nil pass0 ) (pa_cons (pe_callTy (r := rListS K) call_list_of (by rfl) T.n_list (by decide +kernel) (pa_cons (pv 1) pa_nil)) pa_nil)) (by rfl))
      (pss_cons (ps_expr (pe_bm PySem.F.plainAttrs_list PySem.F.slot_list_append PySem.F.type_list_append mt_append (pv 5) (pa_cons pe_non pa_nil)))
      (pss_cons (ps_if (PW.pt (pw_or (pt_cmpR (r := rNeD K) (op_neD hr.units) (pe_meth0 (pv 4) T.cl_Curve T.m_Curve_polynomial (ok_Curve_polynomial T) (hr.mono (by decide)) T.b_Curve_polynomial .nil pass0 ) (pv 6) (nomark _)) (pw_or (pt_cmpR (r := rNeD K) (op_neD hr.units) (pv 5) (pe_op op_cat (pv 6) (pe_lst (pa_cons pe_non pa_nil))) (nomark _)) (pw_or (pt_cmpR op_ne (pe_meth0 (pv 4) T.cl_Curve T.m_Curve_prime (ok_Curve_prime T) (hr.mono (by decide)) T.b_Curve_prime .nil pass0 ) (pv 0) (nomark _)) (pw_or1 (pt_cmpR op_ne (pe_callB (call_repr hG hr.units) (by rfl) T.n_repr (by decide +kernel) (pa_cons (pe_meth0 (pv 4) T.cl_Curve T.m_Curve_genus (ok_Curve_genus T) (hr.mono (by decide)) T.b_Curve_genus .nil pass0 ) pa_nil)) (pe_callB (call_repr hG hr.units) (by rfl) T.n_repr (by decide +kernel) (pa_cons (pe_op op_fdiv (pe_op op_sub (pe_callB (r := rLenS K) call_len_seq (by rfl) T.n_len PySem.boot_len (pa_cons (pv 6) pa_nil)) pe_int) pe_int) pa_nil)) (nomark _))))))) (pss_one (ps_ret pe_bl)) pss_nil)
      (pss_cons (ps_expr (pe_bm PySem.F.plainAttrs_list PySem.F.slot_list_append PySem.F.type_list_append mt_append (pv 1) (pa_cons pe_int pa_nil)))
      (pss_cons (ps_set (i := 7) sc_l_curve_right.nd rfl (by first | exact Or.inl rfl | exact Or.inr rfl) (pe_and (pe_cmpR (r := rEqD K) (op_eqD hr.units) (pe_meth0 (pv 4) T.cl_Curve T.m_Curve_polynomial (ok_Curve_polynomial T) (hr.mono (by decide)) T.b_Curve_polynomial .nil pass0 ) (pv 6) (nomark _)) (pe_and (pe_cmpR op_isBl (pe_cmpR (op_own (ok_Curve_eq T) T.eq_Curve T.eqf_Curve T.b_Curve_eq pass0 (hr.mono (by decide))) (pe_makeK0 T.mk_Curve (ok_Curve_init T) (hr.mono (by decide)) (by rfl) T.gC_Curve T.kb_Curve passL (pk_cons (pv 6) (pk_cons (pv 0) pk_nil))) (pv 4) (nomark _)) pe_bl (nomark _)) (pe_one (pe_cmpR op_isBl (pe_cmpR (op_own (ok_Curve_eq T) T.eq_Curve T.eqf_Curve T.b_Curve_eq pass0 (hr.mono (by decide))) (pv 4) (pv 6) (nomark _)) pe_bl (nomark _))))))
      (pss_cons (ps_expr (pe_bm0 PySem.F.plainAttrs_list PySem.F.slot_list_pop PySem.F.type_list_pop mt_pop (pv 1)))
      (pss_one (ps_ret (pv 7)))))))))))))), go_P h fun xs d hS => ?_⟩) (fun h => ⟨_, (pss_cons (ps_set (i := 3) sc_l_curve_right.nd rfl (by first | exact Or.inl rfl | exact Or.inr rfl) (pe_callB (call_repr hG hr.units) (by rfl) T.n_repr (by decide +kernel) (pa_cons (pv 1) pa_nil)))
      (pss_cons (ps_set (i := 4) sc_l_curve_right.nd rfl (by first | exact Or.inl rfl | exact Or.inr rfl) (pe_callG (ok_l_made T) hG (hr.mono (by decide)) (by rfl) T.g_l_made T.F_l_made.kp T.b_l_made .nil passL (pa_cons (pv 0) (pa_cons (pv 1) pa_nil))))
      (pss_cons (ps_if (pt_cmpR op_ne (pe_callB (call_repr hG hr.units) (by rfl) T.n_repr (by decide +kernel) (pa_cons (pv 1) pa_nil)) (pv 3) (nomark _)) (pss_one (ps_ret pe_bl)) pss_nil)
      (pss_cons (ps_if (PW.pt (pw_or (pt_cmpR (op_own (ok_Curve_eq T) T.eq_Curve T.eqf_Curve T.b_Curve_eq pass0 (hr.mono (by decide))) (pv 4) pe_str (nomark _)) (pw_or1 (pt_cmpR op_eq (pe_cmpR op_isN (pv 4) pe_non (nomark _)) (pv 2) (nomark _))))) (pss_one (ps_ret pe_bl)) pss_nil)
      (pss_cons (ps_if (pt_cmpR op_isN (pv 4) pe_non (nomark _)) (pss_one (ps_ret pe_bl)) pss_nil)
      (pss_cons (ps_par (i := 5) (j := 6) rfl sc_l_curve_right.nd rfl rfl (by decide) rfl rfl (pa_cons (pe_meth0 (pv 4) T.cl_Curve T.m_Curve_polynomial (ok_Curve_polynomial T) (hr.mono (by decide)) T.b_Curve_polynomial .nil pass0 ) (pa_cons (pe_callTy (r := rListS K) call_list_of (by rfl) T.n_list (by decide +kernel) (pa_cons (pv 1) pa_nil)) pa_nil)) (by rfl))
      (pss_cons (ps_expr (pe_bm PySem.F.plainAttrs_list PySem.F.slot_list_append PySem.F.type_list_append mt_append (pv 5) (pa_cons pe_non pa_nil)))
      (pss_cons (ps_if (PW.pt (pw_or (pt_cmpR (r := rNeD K) (op_neD hr.units) (pe_meth0 (pv 4) T.cl_Curve T.m_Curve_polynomial (ok_Curve_polynomial T) (hr.mono (by decide)) T.b_Curve_polynomial .nil pass0 ) (pv 6) (nomark _)) (pw_or (pt_cmpR (r := rNeD K) (op_neD hr.units) (pv 5) (pe_op op_cat (pv 6) (pe_lst (pa_cons pe_non pa_nil))) (nomark _)) (pw_or (pt_cmpR op_ne (pe_meth0 (pv 4) T.cl_Curve T.m_Curve_prime (ok_Curve_prime T) (hr.mono (by decide)) T.b_Curve_prime .nil pass0 ) (pv 0) (nomark _)) (pw_or1 (pt_cmpR op_ne (pe_callB (call_repr hG hr.units) (by rfl) T.n_repr (by decide +kernel) (pa_cons (pe_meth0 (pv 4) T.cl_Curve T.m_Curve_genus (ok_Curve_genus T) (hr.mono (by decide)) T.b_Curve_genus .nil pass0 ) pa_nil)) (pe_callB (call_repr hG hr.units) (by rfl) T.n_repr (by decide +kernel) (pa_cons (pe_op op_fdiv (pe_op op_sub (pe_callB (r := rLenS K) call_len_seq (by rfl) T.n_len PySem.boot_len (pa_cons (pv 6) pa_nil)) pe_int) pe_int) pa_nil)) (nomark _))))))) (pss_one (ps_ret pe_bl)) pss_nil)
      (pss_cons (ps_expr (pe_bm PySem.F.plainAttrs_list PySem.F.slot_list_append PySem.F.type_list_append mt_append (pv 1) (pa_cons pe_int pa_nil)))
      (pss_cons (ps_set (i := 7) sc_l_curve_right.nd rfl (by first | exact Or.inl rfl | exact Or.inr rfl) (pe_and (pe_cmpR (r := rEqD K) (op_eqD hr.units) (pe_meth0 (pv 4) T.cl_Curve T.m_Curve_polynomial (ok_Curve_polynomial T) (hr.mono (by decide)) T.b_Curve_polynomial .nil pass0 ) (pv 6) (nomark _)) (pe_and (pe_cmpR op_isBl (pe_cmpR (op_own (ok_Curve_eq T) T.eq_Curve T.eqf_Curve T.b_Curve_eq pass0 (hr.mono (by decide))) (pe_makeK0 T.mk_Curve (ok_Curve_init T) (hr.mono (by decide)) (by rfl) T.gC_Curve T.kb_Curve passL (pk_cons (pv 6) (pk_cons (pv 0) pk_nil))) (pv 4) (nomark _)) pe_bl (nomark _)) (pe_one (pe_cmpR op_isBl (pe_cmpR (op_own (ok_Curve_eq T) T.eq_Curve T.eqf_Curve T.b_Curve_eq pass0 (hr.mono (by decide))) (pv 4) (pv 6) (nomark _)) pe_bl (nomark _))))))
      (pss_cons (ps_expr (pe_bm0 PySem.F.plainAttrs_list PySem.F.slot_list_pop PySem.F.type_list_pop mt_pop (pv 1)))
      (pss_one (ps_ret (pv 7)))))))))))))), go_H h fun a x0 dj xr d hS => ?_⟩))
  · obtain ⟨p, v, rfl, hp, hv, hl, hR, hc, rfl⟩ := hS
    show Fin _ [.sh (.int p), .sh v, .sh (.bl false), .non, .non, .non, .non, .non] _
    refine fin_seq (ds_set (de_cb (da_cons (de_var rfl) da_nil) (cd_repr hR))) ?_
    refine fin_seq (ds_set (de_callP (Inc.l _ _) (da_cons (de_var rfl) (da_cons (de_var rfl) da_nil)) rfl ⟨p, v, rfl, hp, hv, hl, hR, hc, rfl⟩)) ?_
    refine fin_when (b := false) (DT.eq (dt_test (de_op (de_cb (da_cons (de_var rfl) da_nil) (cd_repr hR)) (de_var rfl) rd_neS)) (by simp)) (fun hb => nomatch hb) (fun _ => ?_)
    refine fin_when (b := false) (DT.eq (dt_or (dt_test (de_op (de_var rfl) de_str rd_eqNS)) fun _ => dt_test (de_op (de_op (de_var rfl) de_non rd_isNT) (de_var rfl) rd_eqB)) rfl) (fun hb => nomatch hb) (fun _ => ?_)
    exact fin_when (b := true) (dt_test (de_op (de_var rfl) de_non rd_isNT)) (fun _ => fin_ret de_bl rfl) (fun hb => nomatch hb)
  · obtain ⟨p, f, rfl, rfl, rfl, hp, hl, hc, hR, rfl⟩ := hS
    show Fin _ [.sh (.int p), .bo a (.li f), .sh (.bl true), .non, .non, .non, .non, .non] _
    refine fin_seq (ds_set (de_cbP rfl has_bo (cd_repr hR) rfl)) ?_
    refine fin_seq (ds_set (de_callH (Inc.r _ _) (de_var rfl) rfl (by trivial) da_nil rfl has_bo rfl ⟨p, f, rfl, rfl, rfl, hp, hl, hc, rfl⟩)) ?_
    refine fin_when (b := false) (DT.eq (dt_test (de_op (de_cbP rfl has_bo (cd_repr hR) rfl) (de_var rfl) rd_neS)) (by simp)) (fun hb => nomatch hb) (fun _ => ?_)
    refine fin_when (b := false) (DT.eq (dt_or (dt_test (de_own (b := false) (de_var rfl) de_str (by trivial) T.nf_S ⟨p, f, _, false, rfl, .inr ⟨.inr ⟨_, rfl⟩, rfl⟩, rfl⟩)) fun _ => dt_test (de_op (de_op (de_var rfl) de_non (rd_isN (fun z => nomatch z))) (de_var rfl) rd_eqB)) rfl) (fun hb => nomatch hb) (fun _ => ?_)
    refine fin_when (b := false) (dt_test (de_op (de_var rfl) de_non (rd_isN (fun z => nomatch z)))) (fun hb => nomatch hb) (fun _ => ?_)
    refine fin_seq (ds_parM (dm_ow (DN.of_li (dn_meth (de_var rfl) da_nil rfl rfl ⟨p, f, rfl, trivial, rfl⟩)) (dm_sh (DE.ofN (dn_cbPI rfl has_bo cn_listI)) dm_nil)) (by decide)) ?_
    refine fin_seq (ds_appD rfl has_ow de_non rfl has_ow ?_) ?_
    · rw [List.length_map]
      omega
    refine fin_when (b := false) (DT.eq (dt_or (dt_test (de_op (DE.ofN (dn_meth (de_var rfl) da_nil rfl rfl ⟨p, f, rfl, trivial, rfl⟩)) (de_var rfl) rd_neL)) fun _ => dt_or (dt_test (de_opP rfl (by trivial) (DE.ofN (dn_op (DE.of_li (de_var rfl)) (DE.ofN (dn_lst (da_cons de_non da_nil) (Nat.le_of_ble_eq_true rfl))) (rn_cat ?_))) rfl has_ow (RDeq (given_ne f) (rd_neD (given_shp hl) (given_shp hl))) rfl)) fun _ => dt_or (dt_test (de_op (de_meth (de_var rfl) da_nil rfl rfl ⟨p, f, rfl, trivial, rfl⟩) (de_var rfl) rd_neI)) fun _ => dt_test (de_op (de_cb (da_cons (de_meth (de_var rfl) da_nil rfl rfl ⟨p, f, rfl, trivial, rfl⟩) da_nil) (cd_repr (rp_gen hl))) (de_cb (da_cons (de_op (de_op (de_cb (da_cons (de_var rfl) da_nil) cd_lenI) de_int rd_I0) de_int (rd_div (by decide))) da_nil) (cd_repr (rp_gen hl))) rd_neS)) (by simp)) (fun hb => nomatch hb) (fun _ => ?_)
    · rw [List.length_map]
      simp only [List.length_cons, List.length_nil]
      omega
    refine fin_seq (ds_appI rfl has_bo de_int rfl has_bo ?_) ?_
    · omega
    refine fin_seq (ds_set (DEq2 (a := true && (true && true)) rfl (de_and (DEq2 (b := true) (by simp) (de_op (DE.ofN (dn_meth (de_var rfl) da_nil rfl rfl ⟨p, f, rfl, trivial, rfl⟩)) (de_var rfl) rd_eqL)) fun _ => de_and (DEq2 (b := true) (by simp) (de_op (de_own (b := true) (DE.ofN (dn_makeK0 (Inc.l _ _) (da_cons (de_var rfl) (da_cons (de_var rfl) da_nil)) rfl ⟨p, f, rfl, rfl, hp, hl, hc, rfl, rfl⟩ rfl)) (de_var rfl) T.is_Curve T.nf_C ⟨p, f, _, true, rfl, .inl ⟨p, f, rfl, by simp⟩, rfl⟩) de_bl rd_isB)) fun _ => DEq2 (b := true) (by simp) (de_op (de_own (b := false) (de_var rfl) (de_var rfl) (by trivial) T.nf_L ⟨p, f, _, false, rfl, .inr ⟨.inl ⟨_, rfl⟩, rfl⟩, rfl⟩) de_bl rd_isB)))) ?_
    refine fin_seq (ds_popI rfl has_bo ?_) ?_
    · simp
    refine fin_ret (de_var rfl) ⟨rfl, ?_⟩
    show some (Sl.bo a (.li ((f ++ [1]).dropLast))) = _
    rw [List.dropLast_concat]

end
end K7

end

section
set_option Elab.async false
set_option linter.all false
set_option maxRecDepth 100000
set_option autoImplicit false
/-! draws; the law's polynomials and what they are bent to -/
namespace Mi
open PySem L2 DL
def drawS (g : List Int) (b : Int) : Nat → List Int
  | 0 => g
  | n + 1 => (rndG (drawS g b n) b).2
def drawV (g : List Int) (b : Int) (i : Nat) : Int := (rndG (drawS g b i) b).1
def drawL (g : List Int) (b : Int) (n : Nat) : List Int := (List.range n).map (drawV g b)
theorem drawS_gk {n b : Int} {g : List Int} (h : Gk n g) : ∀ i : Nat, Gk (n + i) (drawS g b i)
  | 0 => by
    show Gk (n + ((0 : Nat) : Int)) g
    rw [show n + ((0 : Nat) : Int) = n by omega]
    exact h
  | i + 1 => by
    have := rndG_gk (b := b) (drawS_gk (b := b) h i)
    rw [show n + ((i + 1 : Nat) : Int) = n + (i : Int) + 1 by omega]
    exact this
theorem drawV_bd {n b : Int} {g : List Int} (h : Gk n g) (hb : 0 < b) (i : Nat) : 0 ≤ drawV g b i ∧ drawV g b i < b := rndG_bd (drawS_gk h i) hb
theorem drawL_len (g : List Int) (b : Int) (n : Nat) : (drawL g b n).length = n := by
  unfold drawL
  rw [List.length_map, List.length_range]
theorem drawL_bd {n b : Int} {g : List Int} (h : Gk n g) (hb : 0 < b) (k : Nat) : ∀ x ∈ drawL g b k, 0 ≤ x ∧ x < b := fun x hx => by
  obtain ⟨i, _, rfl⟩ := List.mem_map.mp hx
  exact drawV_bd h hb i
theorem pp_draw {k : Int} (h1 : 0 ≤ k) (h2 : k < 5) : PP (gZ [3, 5, 7, 11, 13] k) := by
  have : k = 0 ∨ k = 1 ∨ k = 2 ∨ k = 3 ∨ k = 4 := by omega
  rcases this with rfl | rfl | rfl | rfl | rfl
  · exact .inl rfl
  · exact .inr (.inl rfl)
  · exact .inr (.inr (.inl rfl))
  · exact .inr (.inr (.inr (.inl rfl)))
  · exact .inr (.inr (.inr (.inr rfl)))
def Sz (s : Int) : Prop := s = 1 ∨ s = 3 ∨ s = 5 ∨ s = 7
theorem sz_draw {k : Int} (h1 : 0 ≤ k) (h2 : k < 4) : Sz (gZ [1, 3, 5, 7] k) := by
  have : k = 0 ∨ k = 1 ∨ k = 2 ∨ k = 3 := by omega
  rcases this with rfl | rfl | rfl | rfl
  · exact .inl rfl
  · exact .inr (.inl rfl)
  · exact .inr (.inr (.inl rfl))
  · exact .inr (.inr (.inr rfl))
/-- monic, of the length n + 1, rests by p -/
structure Mon (p : Int) (n : Nat) (x : List Int) : Prop where
  nm : Nm p x
  len : x.length = n + 1
  top : gI x n = 1
theorem mon_of {p : Int} (hp : 1 < p) {n : Nat} {y : List Int} (hl : y.length = n) (h : ∀ x ∈ y, 0 ≤ x ∧ x < p) : Mon p n (y ++ [1]) := by
  have hg : gI (y ++ [1]) n = 1 := by
    rw [gI_app, if_neg (by omega), show n - y.length = 0 by omega]
    rfl
  refine ⟨⟨fun w hw => ?_, ?_⟩, by rw [List.length_append, hl]; rfl, hg⟩
  · rcases List.mem_append.mp hw with hw | hw
    · exact h w hw
    · rw [List.mem_singleton.mp hw]
      omega
  · unfold Nz cTrim
    rw [lastI_gI, List.length_append, show y.length + ([1] : List Int).length - 1 = n by simp; omega, hg]
    simp
theorem mon_mul {p : Int} (hp : 1 < p) {n m : Nat} {x y : List Int} (hx : Mon p n x) (hy : Mon p m y) : Mon p (n + m) (pmul p x y) := by
  have hg : gI (pmul p x y) (n + m) = 1 := by
    have := pmul_top hp (a := x) (b := y) (by rw [hx.len]; omega) (by rw [hy.len]; omega) (by rw [hx.len]; exact hx.top) (by rw [hy.len]; exact hy.top)
    rw [hx.len, hy.len] at this
    exact this
  have hz : ∀ i, n + m + 1 ≤ i → gI (pmul p x y) i = 0 := fun i hi => by
    unfold pmul
    rw [gI_norm, gI_mul]
    have : ∀ (a : List Int) (k : Nat), k + a.length + y.length ≤ i + 1 → sumc y a k i = 0 := fun a => by
      induction a with
      | nil => intro k h; rfl
      | cons z r ih =>
        intro k h
        rw [List.length_cons] at h
        show (if _ then _ else _) + sumc y r (k + 1) i = 0
        rw [ih (k + 1) (by omega), if_neg (by omega)]
        rfl
    rw [this x 0 (by rw [hx.len, hy.len]; omega), Int.zero_emod]
  have hl : (pmul p x y).length = n + m + 1 := by
    have h1 := nz_len (nz_norm p (mulL x y)) (m := n + m + 1) (fun i hi => hz i hi)
    by_cases h2 : (pmul p x y).length ≤ n + m
    · rw [gI_ge h2] at hg
      cases hg
    · have h1 : (pmul p x y).length ≤ n + m + 1 := h1
      omega
  exact ⟨nm_norm (by omega) _, hl, hg⟩
theorem Mon.last {p : Int} {n : Nat} {x : List Int} (h : Mon p n x) : gZ x (-1) = 1 := by
  rw [lead_gI, h.len]
  exact h.top
theorem Mon.polL {p : Int} {n : Nat} {x : List Int} (h : Mon p n x) (hn : n ≤ 60) : polL p x = true := by
  have h1 : x.filter (fun i => !okI p i) = [] := by
    rw [List.filter_eq_nil_iff]
    intro y hy
    have := h.nm.bd y hy
    simp [okI]
    omega
  rw [polL_3 (by have := h.len; omega) h1, h.last]
  simp
/-- a monic one makes a curve just if it is simple -/
theorem Mon.crv {p : Int} (hp : PP p) {n : Nat} {x : List Int} (h : Mon p n x) (hn : n = 1 ∨ n = 3 ∨ n = 5 ∨ n = 7) : crvL p x = lsimple p x := by
  rw [crv_eq hp (by have := h.len; omega), h.polL (by omega), h.last, h.len]
  have : inV (.int ((n + 1 : Nat) : Int)) [.int 2, .int 4, .int 6, .int 8] = true := by
    rcases hn with rfl | rfl | rfl | rfl <;> rfl
  rw [this]
  rfl
theorem Mon.small {p : Int} (hp : PP p) {n : Nat} {x : List Int} (h : Mon p n x) : ∀ y ∈ x, -16 ≤ y ∧ y ≤ 16 := fun y hy => by
  have := h.nm.bd y hy
  unfold PP at hp
  omega
/-- what is handed in, and is no curve -/
structure Bent (p : Int) (d : Dt) : Prop where
  vk : Vk d
  lv : Lv d
  rp : RpD d
  cr : crv p d = false
  nc : ∀ xs, d = .li xs → (inV (.int (xs.length : Int)) [.int 2, .int 4, .int 6, .int 8] && (decide (gZ xs (-1) = 1) && decide (xs.filter (fun i => !okI p i) = []))) = false
theorem bent_li {p : Int} {xs : List Int} (hl : xs.length ≤ 100) (hs : ∀ y ∈ xs, -16 ≤ y ∧ y ≤ 16) (h : (inV (.int (xs.length : Int)) [.int 2, .int 4, .int 6, .int 8] && (decide (gZ xs (-1) = 1) && decide (xs.filter (fun i => !okI p i) = []))) = false) : Bent p (.li xs) := by
  refine ⟨.li xs hl, hl, rpd_li hs hl, ?_, fun ys e => by cases e; exact h⟩
  show crvL p xs = false
  unfold crvL
  cases h1 : polL p xs with
  | false => rfl
  | true =>
    have h2 : decide (xs.filter (fun i => !okI p i) = []) = true := by
      by_cases e : xs.filter (fun i => !okI p i) = []
      · exact decide_eq_true e
      · rw [polL_2 e] at h1; cases h1
    rw [h2, Bool.and_true] at h
    rw [Bool.true_and]
    revert h
    cases inV (.int (xs.length : Int)) [.int 2, .int 4, .int 6, .int 8] <;> cases decide (gZ xs (-1) = 1) <;> simp
theorem bent_len {p : Int} {xs : List Int} (hl : xs.length ≤ 100) (hs : ∀ y ∈ xs, -16 ≤ y ∧ y ≤ 16) (h : ¬ ((xs.length : Int) = 2 ∨ (xs.length : Int) = 4 ∨ (xs.length : Int) = 6 ∨ (xs.length : Int) = 8)) : Bent p (.li xs) :=
  bent_li hl hs (by
    cases e : inV (.int (xs.length : Int)) [.int 2, .int 4, .int 6, .int 8] with
    | false => rfl
    | true => exact absurd (inV_4 e) h)
theorem bent_last {p : Int} {xs : List Int} (hl : xs.length ≤ 100) (hs : ∀ y ∈ xs, -16 ≤ y ∧ y ≤ 16) (h : gZ xs (-1) ≠ 1) : Bent p (.li xs) :=
  bent_li hl hs (by rw [decide_eq_false h, Bool.false_and, Bool.and_false])
theorem bent_out {p : Int} {xs : List Int} (hl : xs.length ≤ 100) (hs : ∀ y ∈ xs, -16 ≤ y ∧ y ≤ 16) {x : Int} (hx : x ∈ xs) (h : okI p x = false) : Bent p (.li xs) :=
  bent_li hl hs (by
    have : ¬ xs.filter (fun i => !okI p i) = [] := fun z => by
      rw [List.filter_eq_nil_iff] at z
      have := z x hx
      rw [h] at this
      exact this rfl
    rw [decide_eq_false this, Bool.and_false, Bool.and_false])
theorem bent_non (p : Int) : Bent p .non := ⟨.non, trivial, rpd_non, rfl, fun _ e => nomatch e⟩
theorem bent_11 (p : Int) : Bent p (.str "11") := ⟨.str _, trivial, rpd_11, rfl, fun _ e => nomatch e⟩
theorem bent_tup {p : Int} {xs : List Int} (hl : xs.length ≤ 100) (hs : ∀ y ∈ xs, -16 ≤ y ∧ y ≤ 16) : Bent p (.tup (xs.map Dt.int)) := ⟨.tup _, trivial, rpd_tup hs hl, rfl, fun _ e => nomatch e⟩
theorem bent_rep {p : Int} {d : Dt} {n : Nat} (hd : d = .non ∨ d = .bl true) (hn : n ≤ 50) : Bent p (.lst (List.replicate (n + 1) d)) := ⟨.rep d n hn hd, trivial, rpd_rep hd (by omega), rfl, fun _ e => nomatch e⟩
theorem cut_take {α : Type} (xs : List α) (k : Nat) (h : k ≤ xs.length) : cut xs none (some (k : Int)) = xs.take k := by
  unfold cut
  rw [HT.sIx_none, HT.sIx_nat, List.drop_zero, Nat.min_eq_left h, Nat.sub_zero]
theorem cut_drop {α : Type} (xs : List α) (k : Nat) (h : k ≤ xs.length) : cut xs (some (k : Int)) none = xs.drop k := by
  unfold cut
  rw [HT.sIx_none, HT.sIx_nat, Nat.min_eq_left h, List.take_of_length_le (by rw [List.length_drop]; exact Nat.le_refl _)]
/-- one place of a monic one changed -/
theorem mon_swap {p : Int} {n k : Nat} {x : List Int} {c : Int} (h : Mon p n x) (hk : k < n) (hc : 0 ≤ c ∧ c < p) : Mon p n (cut x none (some (k : Int)) ++ [c] ++ cut x (some ((k : Int) + 1)) none) := by
  have hl := h.len
  rw [cut_take x k (by omega), show (k : Int) + 1 = ((k + 1 : Nat) : Int) by omega, cut_drop x (k + 1) (by omega)]
  have hlen : (x.take k ++ [c] ++ x.drop (k + 1)).length = n + 1 := by
    rw [List.length_append, List.length_append, List.length_take, List.length_drop, Nat.min_eq_left (by omega)]
    simp only [List.length_cons, List.length_nil]
    omega
  have htop : gI (x.take k ++ [c] ++ x.drop (k + 1)) n = 1 := by
    rw [gI_app, if_neg (by rw [List.length_append, List.length_take, Nat.min_eq_left (by omega)]; simp only [List.length_cons, List.length_nil]; omega)]
    have e : n - (x.take k ++ [c]).length = n - (k + 1) := by
      rw [List.length_append, List.length_take, Nat.min_eq_left (by omega)]
      rfl
    rw [e]
    unfold gI
    rw [List.getElem?_drop, show k + 1 + (n - (k + 1)) = n by omega]
    exact h.top
  refine ⟨⟨fun y hy => ?_, ?_⟩, hlen, htop⟩
  · rcases List.mem_append.mp hy with hy | hy
    · rcases List.mem_append.mp hy with hy | hy
      · exact h.nm.bd y (List.mem_of_mem_take hy)
      · rw [List.mem_singleton.mp hy]
        exact hc
    · exact h.nm.bd y (List.mem_of_mem_drop hy)
  · unfold Nz cTrim
    rw [lastI_gI, hlen, show n + 1 - 1 = n by omega, htop]
    simp
end Mi
namespace Mi
open PySem L2 DL
theorem cut_sub {α : Type} {xs : List α} {lo hi : Option Int} {y : α} (h : y ∈ cut xs lo hi) : y ∈ xs := List.mem_of_mem_drop (List.mem_of_mem_take h)
theorem gZ_snoc (xs : List Int) (y : Int) : gZ (xs ++ [y]) (-1) = y := by
  rw [lead_gI, gI_app, if_neg (by rw [List.length_append]; simp), List.length_append]
  rw [show xs.length + ([y] : List Int).length - 1 - xs.length = 0 by simp]
  rfl
def Sml (xs : List Int) : Prop := ∀ y ∈ xs, -16 ≤ y ∧ y ≤ 16
theorem sml_app {a b : List Int} (ha : Sml a) (hb : Sml b) : Sml (a ++ b) := fun y hy => (List.mem_append.mp hy).elim (ha y) (hb y)
theorem sml_one {x : Int} (h : -16 ≤ x ∧ x ≤ 16) : Sml [x] := fun y hy => by rw [List.mem_singleton.mp hy]; exact h
theorem sml_rep (n : Nat) : Sml (List.replicate n 0) := fun y hy => by
  rw [(List.mem_replicate.mp hy).2]
  exact ⟨by decide, by decide⟩
theorem sml_cut {a : List Int} (ha : Sml a) (lo hi : Option Int) : Sml (cut a lo hi) := fun y hy => ha y (cut_sub hy)
end Mi
namespace Mi
open PySem L2 DL
theorem shp_int (i : Int) : shp (.int i) = true := by
  unfold shp
  rw [show DL.plain (.int i) = true by unfold DL.plain; rfl, Bool.true_and]
  unfold toPy SeqAt.shaped
  rw [show PyData.canLay0 (.int i) = true from rfl, Bool.true_and]
  exact decide_eq_true (by show 0 ≤ _; omega)
theorem shp_sc {d : Dt} (h : d = .non ∨ d = .bl true) : shp d = true := by
  rcases h with rfl | rfl
  · unfold shp
    rw [show DL.plain .non = true by unfold DL.plain; rfl]
    rfl
  · unfold shp
    rw [show DL.plain (.bl true) = true by unfold DL.plain; rfl]
    rfl
theorem eqv_one (a : Int) : PyData.eqv (toPy (.int a)) (toPy (.int 1)) = decide (a = 1) := by
  unfold toPy PyData.eqv
  by_cases h : a = 1
  · simp [h]
  · simp [h]
theorem dZ_rep (d : Dt) (n : Nat) : dZ (List.replicate (n + 1) d) (-1) = d := by
  unfold dZ
  have h := atI_last (List.replicate n d) d
  rw [show List.replicate n d ++ [d] = List.replicate (n + 1) d from (List.replicate_succ' ..).symm] at h
  rw [h]
  rfl
theorem rep_eq {d : Dt} {n : Nat} (hd : d = .non ∨ d = .bl true) : PyData.eqv (toPy (.lst (((List.replicate (n + 1) d).filter fun _ => true).map fun d => d))) (toPy (.lst [])) = false := by
  have := rep_ne (n := n) hd
  simpa using this
end Mi

end

section
set_option Elab.async false
set_option linter.all false
set_option autoImplicit false
/-! sequences of whole numbers, their products -/
namespace Aa
abbrev Sq := Nat → Int
def cv : Sq → Sq → Sq
  | f, g, 0 => f 0 * g 0
  | f, g, n + 1 => f 0 * g (n + 1) + cv (fun i => f (i + 1)) g n
def sh (f : Sq) : Sq := fun i => f (i + 1)
theorem cv_zero (f g : Sq) : cv f g 0 = f 0 * g 0 := by rw [cv]
theorem cv_succ (f g : Sq) (n : Nat) : cv f g (n + 1) = f 0 * g (n + 1) + cv (sh f) g n := by rw [cv]; rfl
theorem cv_add_left (f h g : Sq) (n : Nat) : cv (fun i => f i + h i) g n = cv f g n + cv h g n := by
  induction n generalizing f h with
  | zero => simp only [cv_zero]; grind
  | succ n ih =>
    simp only [cv_succ]
    have := ih (sh f) (sh h)
    have e : sh (fun i => f i + h i) = fun i => sh f i + sh h i := rfl
    rw [e, this]; grind
theorem cv_smul_left (c : Int) (f g : Sq) (n : Nat) : cv (fun i => c * f i) g n = c * cv f g n := by
  induction n generalizing f with
  | zero => simp only [cv_zero]; grind
  | succ n ih =>
    simp only [cv_succ]
    have := ih (sh f)
    have e : sh (fun i => c * f i) = fun i => c * sh f i := rfl
    rw [e, this]; grind
theorem cv_succ' (f g : Sq) (n : Nat) : cv f g (n + 1) = cv f (sh g) n + f (n + 1) * g 0 := by
  induction n generalizing f with
  | zero => rw [cv_succ, cv_zero, cv_zero]; rfl
  | succ n ih =>
    rw [cv_succ, ih (sh f), cv_succ f (sh g)]
    show f 0 * g (n + 1 + 1) + (cv (sh f) (sh g) n + f (n + 1 + 1) * g 0) = f 0 * g (n + 1 + 1) + cv (sh f) (sh g) n + f (n + 1 + 1) * g 0
    grind
theorem cv_comm (f g : Sq) (n : Nat) : cv f g n = cv g f n := by
  induction n generalizing f g with
  | zero => simp only [cv_zero]; grind
  | succ n ih => rw [cv_succ, cv_succ' g f, ih (sh f) g]; grind
theorem cv_add_right (f g h : Sq) (n : Nat) : cv f (fun i => g i + h i) n = cv f g n + cv f h n := by
  rw [cv_comm, cv_add_left, cv_comm g, cv_comm h]
theorem cv_smul_right (c : Int) (f g : Sq) (n : Nat) : cv f (fun i => c * g i) n = c * cv f g n := by
  rw [cv_comm, cv_smul_left, cv_comm g]
theorem cv_assoc (f g h : Sq) (n : Nat) : cv (cv f g) h n = cv f (cv g h) n := by
  induction n generalizing f with
  | zero => simp only [cv_zero]; grind
  | succ n ih =>
    have e : sh (cv f g) = fun i => f 0 * sh g i + cv (sh f) g i := by funext i; exact cv_succ f g i
    rw [cv_succ, cv_succ f (cv g h), cv_succ g h, e, cv_add_left, cv_smul_left, ih (sh f), cv_zero]
    grind
theorem cv_congr {f f' g g' : Sq} {p : Int} (hf : ∀ i, f i % p = f' i % p) (hg : ∀ i, g i % p = g' i % p) (n : Nat) : cv f g n % p = cv f' g' n % p := by
  induction n generalizing f f' with
  | zero => rw [cv_zero, cv_zero, Int.mul_emod, hf, hg, ← Int.mul_emod]
  | succ n ih =>
    rw [cv_succ, cv_succ, Int.add_emod, ih (f := sh f) (f' := sh f') (fun i => hf (i + 1)), Int.mul_emod, hf, hg, ← Int.mul_emod, ← Int.add_emod]
theorem cv_null {f g : Sq} (hf : ∀ i, f i = 0) (n : Nat) : cv f g n = 0 := by
  induction n generalizing f with
  | zero => rw [cv_zero, hf, Int.zero_mul]
  | succ n ih => rw [cv_succ, hf, Int.zero_mul, ih (f := sh f) (fun i => hf (i + 1))]; rfl
/-- nought from A, nought from B -/
theorem cv_top {f g : Sq} {A B : Nat} (hf : ∀ i, A ≤ i → f i = 0) (hg : ∀ i, B ≤ i → g i = 0) : ∀ n, A + B ≤ n + 1 → cv f g n = 0 := by
  intro n
  induction n generalizing f A with
  | zero =>
    intro h
    rw [cv_zero]
    by_cases hA : A = 0
    · rw [hf 0 (by omega), Int.zero_mul]
    · rw [hg 0 (by omega), Int.mul_zero]
  | succ n ih =>
    intro h
    by_cases hA : A = 0
    · exact cv_null (fun i => hf i (by omega)) _
    · rw [cv_succ, ih (f := sh f) (A := A - 1) (fun i hi => hf (i + 1) (by omega)) (by omega), hg (n + 1) (by omega), Int.mul_zero]; rfl
theorem cv_lead {f g : Sq} {A B : Nat} (hf : ∀ i, A < i → f i = 0) (hg : ∀ i, B < i → g i = 0) : cv f g (A + B) = f A * g B := by
  induction A generalizing f with
  | zero =>
    cases B with
    | zero => exact cv_zero f g
    | succ B => rw [Nat.zero_add, cv_succ, cv_null (f := sh f) (fun i => hf (i + 1) (by omega)), Int.add_zero]
  | succ A ih =>
    rw [show A + 1 + B = A + B + 1 by omega, cv_succ, hg _ (by omega), Int.mul_zero, Int.zero_add, ih (f := sh f) (fun i hi => hf (i + 1) (by omega))]
    rfl
/-- the slope -/
def dq (f : Sq) : Sq := fun n => ((n + 1 : Nat) : Int) * f (n + 1)
theorem dq_cv (f g : Sq) (n : Nat) : dq (cv f g) n = cv (dq f) g n + cv f (dq g) n := by
  induction n generalizing f with
  | zero =>
    unfold dq
    simp only [cv_zero, cv_succ, sh]
    grind
  | succ n ih =>
    have h := ih (sh f)
    have e : sh (dq f) = fun i => dq (sh f) i + sh (sh f) i := by
      funext i
      unfold dq sh
      grind
    rw [cv_succ (dq f), cv_succ f (dq g), e, cv_add_left]
    have h2 := cv_succ f g (n + 1)
    have h3 := cv_succ (sh f) g n
    unfold dq at *
    simp only [sh] at *
    grind
/-- a number -/
def cq (c : Int) : Sq := fun i => if i = 0 then c else 0
theorem cv_cq (c : Int) (f : Sq) (n : Nat) : cv (cq c) f n = c * f n := by
  cases n with
  | zero => rw [cv_zero]; rfl
  | succ n => rw [cv_succ, cv_null (f := sh (cq c)) (fun i => rfl), Int.add_zero]; rfl
end Aa

end

section
set_option Elab.async false
set_option linter.all false
set_option maxRecDepth 100000
set_option autoImplicit false
/-! the ring of polynomials over a small prime -/
namespace Mi
open PySem L2 DL Aa
/-! coefficients of what is reckoned -/
theorem gI_addL (a b : List Int) (i : Nat) : gI (addL a b) i = gI a i + gI b i := by
  have h1 := szI_le a b
  by_cases hi : i < (szI a b).toNat
  · unfold addL
    have e : gI ((List.range (szI a b).toNat).map fun i => gI (a ++ List.replicate (szI a b - a.length).toNat 0) i + gI (b ++ List.replicate (szI a b - b.length).toNat 0) i) i = gI (a ++ List.replicate (szI a b - a.length).toNat 0) i + gI (b ++ List.replicate (szI a b - b.length).toNat 0) i := by
      conv => lhs; unfold gI
      rw [List.getElem?_map, List.getElem?_range hi]
      rfl
    rw [e, gI_pad, gI_pad]
  · rw [gI_ge (by have := addL_len a b; omega), gI_ge (show a.length ≤ i by omega), gI_ge (show b.length ≤ i by omega)]
    rfl
theorem gI_padd (p : Int) (a b : List Int) (i : Nat) : gI (padd p a b) i = (gI a i + gI b i) % p := by
  unfold padd
  rw [gI_norm, gI_addL]
theorem gI_pneg (p : Int) (a : List Int) (i : Nat) : gI (pneg p a) i = (0 - gI a i) % p := by
  unfold pneg
  rw [gI_norm, gI_map (fun x => 0 - x) rfl]
theorem gI_psub (p : Int) (a b : List Int) (i : Nat) : gI (psub p a b) i = (gI a i - gI b i) % p := by
  unfold psub
  rw [gI_padd, gI_pneg, Int.add_emod_emod]
  congr 1
  omega
theorem sumc_cv (b : List Int) : ∀ (a : List Int) (n i : Nat), sumc b a n i = if n ≤ i then cv (gI a) (gI b) (i - n) else 0
  | [], n, i => by
    rw [cv_null (fun i => gI_nil i)]
    split <;> rfl
  | x :: r, n, i => by
    show (if n ≤ i ∧ i < n + b.length then x * gI b (i - n) else 0) + sumc b r (n + 1) i = _
    rw [sumc_cv b r (n + 1) i]
    by_cases h : n ≤ i
    · rw [if_pos h]
      have h1 : (if n ≤ i ∧ i < n + b.length then x * gI b (i - n) else 0) = x * gI b (i - n) := by
        split
        · rfl
        · rw [gI_ge (show b.length ≤ i - n by omega), Int.mul_zero]
      rw [h1]
      by_cases h2 : n = i
      · subst h2
        rw [if_neg (by omega), Nat.sub_self, cv_zero, gI_zero, Int.add_zero]
      · rw [if_pos (by omega), show i - n = (i - (n + 1)) + 1 by omega, cv_succ, gI_zero]
        congr 1
    · rw [if_neg h, if_neg (by omega), if_neg (by omega)]
      rfl
theorem gI_pmul (p : Int) (a b : List Int) (i : Nat) : gI (pmul p a b) i = cv (gI a) (gI b) i % p := by
  unfold pmul
  rw [gI_norm, gI_mul, sumc_cv, if_pos (Nat.zero_le _), Nat.sub_zero]
theorem gI_idx (f : Nat → Int → Int) (h : ∀ n, f n 0 = 0) : ∀ (a : List Int) (k i : Nat), gI ((idx k a).map fun q => f q.1 q.2) i = f (k + i) (gI a i)
  | [], k, i => by rw [gI_nil, h]; exact gI_nil i
  | x :: r, k, 0 => by rw [gI_zero]; exact gI_zero _ _
  | x :: r, k, i + 1 => by
    rw [gI_succ]
    show gI (f k x :: (idx (k + 1) r).map fun q => f q.1 q.2) (i + 1) = _
    rw [gI_succ, gI_idx f h r (k + 1) i]
    congr 1; omega
theorem cut_one {α : Type} (xs : List α) : cut xs (some 1) none = xs.drop 1 := by
  by_cases h : 1 ≤ xs.length
  · exact cut_drop xs 1 h
  · have : xs = [] := List.length_eq_zero_iff.mp (by omega)
    subst this
    unfold cut
    simp
theorem gI_drop (xs : List Int) (k i : Nat) : gI (xs.drop k) i = gI xs (k + i) := by
  unfold gI
  rw [List.getElem?_drop]
theorem gI_slope (p : Int) (a : List Int) (i : Nat) : gI (slope p a) i = dq (gI a) i % p := by
  unfold slope
  rw [gI_norm, cut_one, gI_drop, gI_idx (fun n x => (n : Int) * x) (fun n => Int.mul_zero _), show 0 + (1 + i) = i + 1 by omega, show 1 + i = i + 1 by omega]
  rfl
/-! the ring -/
abbrev Pr := { p : Int // PP p }
theorem Pr.pos (q : Pr) : 0 < q.1 := q.2.bd.1
theorem Pr.one (q : Pr) : 1 < q.1 := q.2.one
structure Pol (q : Pr) where
  l : List Int
  nm : Nm q.1 l
namespace Pol
variable {q : Pr}
def c (a : Pol q) (i : Nat) : Int := gI a.l i
theorem c_mod (a : Pol q) (i : Nat) : a.c i % q.1 = a.c i := a.nm.mod q.pos i
theorem ext {a b : Pol q} (h : ∀ i, a.c i = b.c i) : a = b := by
  obtain ⟨x, hx⟩ := a
  obtain ⟨y, hy⟩ := b
  obtain rfl : x = y := hx.eq hy h
  rfl
def of (l : List Int) : Pol q := ⟨norm q.1 l, nm_norm q.pos l⟩
theorem c_of (l : List Int) (i : Nat) : (of l : Pol q).c i = gI l i % q.1 := gI_norm _ _ _
theorem of_l (a : Pol q) : of a.l = a := ext fun i => by rw [c_of]; exact a.c_mod i
def k (n : Int) : Pol q := of [n]
theorem c_k (n : Int) (i : Nat) : (k n : Pol q).c i = cq n i % q.1 := by
  unfold k
  rw [c_of]
  cases i with
  | zero => rfl
  | succ i => rfl
def add (a b : Pol q) : Pol q := ⟨padd q.1 a.l b.l, nm_norm q.pos _⟩
def neg (a : Pol q) : Pol q := ⟨pneg q.1 a.l, nm_norm q.pos _⟩
def sub (a b : Pol q) : Pol q := ⟨psub q.1 a.l b.l, nm_norm q.pos _⟩
def mul (a b : Pol q) : Pol q := ⟨pmul q.1 a.l b.l, nm_norm q.pos _⟩
instance : Add (Pol q) := ⟨add⟩
instance : Neg (Pol q) := ⟨neg⟩
instance : Sub (Pol q) := ⟨sub⟩
instance : Mul (Pol q) := ⟨mul⟩
instance : NatCast (Pol q) := ⟨fun n => k n⟩
instance : IntCast (Pol q) := ⟨fun n => k n⟩
instance (n : Nat) : OfNat (Pol q) n := ⟨k n⟩
instance : SMul Nat (Pol q) := ⟨fun n a => (n : Pol q) * a⟩
instance : SMul Int (Pol q) := ⟨fun n a => (n : Pol q) * a⟩
def pow (a : Pol q) : Nat → Pol q
  | 0 => 1
  | n + 1 => pow a n * a
instance : HPow (Pol q) Nat (Pol q) := ⟨pow⟩
theorem c_add (a b : Pol q) (i : Nat) : (a + b).c i = (a.c i + b.c i) % q.1 := gI_padd _ _ _ _
theorem c_neg (a : Pol q) (i : Nat) : (-a).c i = (0 - a.c i) % q.1 := gI_pneg _ _ _
theorem c_sub (a b : Pol q) (i : Nat) : (a - b).c i = (a.c i - b.c i) % q.1 := gI_psub _ _ _ _
theorem c_mul (a b : Pol q) (i : Nat) : (a * b).c i = cv a.c b.c i % q.1 := gI_pmul _ _ _ _
theorem c_nat (n : Nat) (i : Nat) : ((n : Pol q)).c i = cq n i % q.1 := c_k _ _
theorem c_int (n : Int) (i : Nat) : ((n : Pol q)).c i = cq n i % q.1 := c_k _ _
theorem c_lit (n : Nat) (i : Nat) : ((OfNat.ofNat n : Pol q)).c i = cq n i % q.1 := c_k _ _
theorem cv_mod {p : Int} (f g : Sq) (i : Nat) : cv (fun j => f j % p) g i % p = cv f g i % p := cv_congr (fun j => Int.emod_emod_of_dvd _ (Int.dvd_refl p)) (fun _ => rfl) i
theorem mod_cv {p : Int} (f g : Sq) (i : Nat) : cv f (fun j => g j % p) i % p = cv f g i % p := cv_congr (fun _ => rfl) (fun j => Int.emod_emod_of_dvd _ (Int.dvd_refl p)) i
theorem em {x y p : Int} (h : x = y) : x % p = y % p := by rw [h]
theorem add_assoc' (a b d : Pol q) : a + b + d = a + (b + d) := ext fun i => by
  rw [c_add, c_add, c_add, c_add, Int.emod_add_emod, Int.add_emod_emod]
  exact em (by omega)
theorem add_comm' (a b : Pol q) : a + b = b + a := ext fun i => by
  rw [c_add, c_add]; exact em (by omega)
theorem cq_zero (i : Nat) : cq 0 i = 0 := by unfold cq; split <;> rfl
theorem c_zero (i : Nat) : (0 : Pol q).c i = 0 := by
  show (OfNat.ofNat 0 : Pol q).c i = 0
  rw [c_lit]
  show cq 0 i % q.1 = 0
  rw [cq_zero, Int.zero_emod]
theorem add_zero' (a : Pol q) : a + 0 = a := ext fun i => by rw [c_add, c_zero, Int.add_zero, c_mod]
theorem mul_comm' (a b : Pol q) : a * b = b * a := ext fun i => by rw [c_mul, c_mul, cv_comm]
theorem mul_assoc' (a b d : Pol q) : a * b * d = a * (b * d) := ext fun i => by
  rw [c_mul, c_mul, show (a * b).c = fun j => cv a.c b.c j % q.1 from funext (c_mul a b), show (b * d).c = fun j => cv b.c d.c j % q.1 from funext (c_mul b d), cv_mod, mod_cv, cv_assoc]
theorem distrib' (a b d : Pol q) : a * (b + d) = a * b + a * d := ext fun i => by
  rw [c_add, c_mul, c_mul, c_mul, show (b + d).c = fun j => (b.c j + d.c j) % q.1 from funext (c_add b d), mod_cv, cv_add_right, Int.emod_add_emod, Int.add_emod_emod]
theorem k_mul (n : Int) (a : Pol q) (i : Nat) : (k n * a).c i = (n * a.c i) % q.1 := by
  rw [c_mul, show (k n : Pol q).c = fun j => cq n j % q.1 from funext (c_k n), cv_mod, cv_cq]
theorem one_mul' (a : Pol q) : 1 * a = a := ext fun i => by
  show (k (1 : Nat) * a).c i = _
  rw [k_mul]
  show (1 * a.c i) % q.1 = _
  rw [Int.one_mul, c_mod]
theorem zero_mul' (a : Pol q) : 0 * a = 0 := ext fun i => by
  show (k (0 : Nat) * a).c i = _
  rw [k_mul, c_zero]
  show (0 * a.c i) % q.1 = _
  rw [Int.zero_mul, Int.zero_emod]
theorem neg_add' (a : Pol q) : -a + a = 0 := ext fun i => by
  rw [c_add, c_neg, Int.emod_add_emod, c_zero, show 0 - a.c i + a.c i = 0 by omega, Int.zero_emod]
theorem sub_eq' (a b : Pol q) : a - b = a + -b := ext fun i => by
  rw [c_add, c_neg, c_sub, Int.add_emod_emod]; exact em (by omega)
theorem k_add (m n : Int) : (k (m + n) : Pol q) = k m + k n := ext fun i => by
  rw [c_add, c_k, c_k, c_k, Int.emod_add_emod, Int.add_emod_emod]
  refine em ?_
  unfold cq
  split <;> rfl
theorem k_neg (m : Int) : (k (-m) : Pol q) = -k m := ext fun i => by
  rw [c_neg, c_k, c_k, Int.sub_emod, Int.emod_emod_of_dvd _ (Int.dvd_refl _), ← Int.sub_emod]
  refine em ?_
  unfold cq
  split <;> omega
instance : Lean.Grind.CommRing (Pol q) where
  nsmul := inferInstance
  npow := inferInstance
  zsmul := inferInstance
  add_zero := add_zero'
  add_comm := add_comm'
  add_assoc := add_assoc'
  mul_assoc := mul_assoc'
  mul_one a := (mul_comm' a 1).trans (one_mul' a)
  one_mul := one_mul'
  left_distrib := distrib'
  right_distrib a b d := by rw [mul_comm', distrib', mul_comm' d a, mul_comm' d b]
  zero_mul := zero_mul'
  mul_zero a := (mul_comm' a 0).trans (zero_mul' a)
  pow_zero a := rfl
  pow_succ a n := rfl
  ofNat_succ n := by
    show (k ((n + 1 : Nat) : Int) : Pol q) = k ((n : Nat) : Int) + k ((1 : Nat) : Int)
    rw [← k_add]
    rfl
  ofNat_eq_natCast n := rfl
  nsmul_eq_natCast_mul n a := rfl
  neg_add_cancel := neg_add'
  sub_eq_add_neg := sub_eq'
  neg_zsmul n a := by
    show k (-n) * a = -(k n * a)
    refine ext fun i => ?_
    rw [k_mul, c_neg, k_mul, Int.sub_emod, Int.emod_emod_of_dvd _ (Int.dvd_refl _), ← Int.sub_emod]
    refine em ?_
    rw [Int.neg_mul]; omega
  zsmul_natCast_eq_nsmul n a := rfl
  intCast_ofNat n := rfl
  intCast_neg n := k_neg n
  mul_comm := mul_comm'
example (a b d : Pol q) : (a + b) * (a - b) * d = d * a * a - d * b * b := by grind
end Pol
end Mi

end

section
set_option Elab.async false
set_option linter.all false
set_option maxRecDepth 100000
set_option autoImplicit false
/-! lengths, division, common factors -/
namespace Mi
namespace Pol
open PySem L2 DL Aa
variable {q : Pr}
def n (a : Pol q) : Nat := a.l.length
theorem c_ge {a : Pol q} {i : Nat} (h : a.n ≤ i) : a.c i = 0 := gI_ge h
theorem n_le {a : Pol q} {m : Nat} (h : ∀ i, m ≤ i → a.c i = 0) : a.n ≤ m := nz_len a.nm.nz h
theorem n_zero {a : Pol q} : a.n = 0 ↔ a = 0 := by
  constructor
  · intro h
    exact ext fun i => by rw [c_zero]; exact c_ge (by omega)
  · intro h
    subst h
    have := n_le (a := (0 : Pol q)) (m := 0) fun i _ => c_zero i
    omega
theorem n_pos {a : Pol q} (h : a ≠ 0) : 0 < a.n := by
  rcases Nat.eq_zero_or_pos a.n with z | z
  · exact absurd (n_zero.mp z) h
  · exact z
theorem lead_ne {a : Pol q} (h : a ≠ 0) : a.c (a.n - 1) ≠ 0 := nz_last a.nm.nz fun z => h (n_zero.mp (by unfold n; rw [z]; rfl))
theorem lt_n {a : Pol q} {i : Nat} (h : a.c i ≠ 0) : i < a.n := by
  rcases Nat.lt_or_ge i a.n with z | z
  · exact z
  · exact absurd (c_ge z) h
theorem c_bd (a : Pol q) (i : Nat) : 0 ≤ a.c i ∧ a.c i < q.1 := a.nm.gI q.pos i
theorem l_inj {a b : Pol q} (h : a.l = b.l) : a = b := by
  cases a; cases b; cases h; rfl
theorem l_zero : (0 : Pol q).l = [] := List.length_eq_zero_iff.mp (n_zero.mpr rfl)
theorem l_nil {a : Pol q} : a.l = [] ↔ a = 0 := ⟨fun h => n_zero.mp (by unfold n; rw [h]; rfl), fun h => by rw [h, l_zero]⟩
/-- no noughts' product -/
theorem mul_mod_ne {x y : Int} (hx : 0 < x ∧ x < q.1) (hy : 0 < y ∧ y < q.1) : x * y % q.1 ≠ 0 := fun z => by
  have hi := inv_bd (q.2.inv hx.1 hx.2)
  have h1 : inv q.1 x * x * y % q.1 = y % q.1 := by
    rw [Int.mul_emod, hi.2.2, Int.one_mul, Int.emod_emod_of_dvd _ (Int.dvd_refl _)]
  rw [Int.mul_assoc, Int.mul_emod, z, Int.mul_zero, Int.zero_emod, Int.emod_eq_of_lt (by omega) hy.2] at h1
  omega
theorem c_lead {a b : Pol q} (ha : a ≠ 0) (hb : b ≠ 0) : (a * b).c (a.n - 1 + (b.n - 1)) = a.c (a.n - 1) * b.c (b.n - 1) % q.1 := by
  have h1 := n_pos ha
  have h2 := n_pos hb
  rw [c_mul, cv_lead (fun i hi => c_ge (by omega)) (fun i hi => c_ge (by omega))]
theorem n_mul {a b : Pol q} (ha : a ≠ 0) (hb : b ≠ 0) : (a * b).n = a.n + b.n - 1 := by
  have h1 := n_pos ha
  have h2 := n_pos hb
  have h3 : (a * b).n ≤ a.n + b.n - 1 := n_le fun i hi => by
    rw [c_mul, cv_top (A := a.n) (B := b.n) (fun i hi => c_ge hi) (fun i hi => c_ge hi) i (by omega), Int.zero_emod]
  have l1 := lead_ne ha
  have l2 := lead_ne hb
  have b1 := a.c_bd (a.n - 1)
  have b2 := b.c_bd (b.n - 1)
  have h4 : a.n - 1 + (b.n - 1) < (a * b).n := lt_n (by rw [c_lead ha hb]; exact mul_mod_ne (by omega) (by omega))
  omega
theorem mul_ne {a b : Pol q} (ha : a ≠ 0) (hb : b ≠ 0) : a * b ≠ 0 := fun z => by
  have h1 := n_pos ha
  have h2 := n_pos hb
  have := n_mul ha hb
  rw [z, n_zero.mpr rfl] at this
  omega
theorem mul_zero_or {a b : Pol q} (h : a * b = 0) : a = 0 ∨ b = 0 := by
  by_cases ha : a = 0
  · exact .inl ha
  · by_cases hb : b = 0
    · exact .inr hb
    · exact absurd h (mul_ne ha hb)
theorem mul_left_cancel {a b d : Pol q} (ha : a ≠ 0) (h : a * b = a * d) : b = d := by
  have : a * (b - d) = 0 := by grind
  rcases mul_zero_or this with z | z
  · exact absurd z ha
  · grind
theorem one_ne : (1 : Pol q) ≠ 0 := fun z => by
  have h : (1 : Pol q).c 0 = (0 : Pol q).c 0 := by rw [z]
  rw [c_zero] at h
  have h2 : (1 : Pol q).c 0 = cq ((1 : Nat) : Int) 0 % q.1 := c_lit 1 0
  rw [h2] at h
  have h3 : cq ((1 : Nat) : Int) 0 = 1 := rfl
  rw [h3, Int.emod_eq_of_lt (by decide) q.one] at h
  cases h
theorem n_add (a b : Pol q) {m : Nat} (ha : a.n ≤ m) (hb : b.n ≤ m) : (a + b).n ≤ m := n_le fun i hi => by
  rw [c_add, c_ge (by omega), c_ge (by omega)]; exact Int.zero_emod _
theorem n_sub (a b : Pol q) {m : Nat} (ha : a.n ≤ m) (hb : b.n ≤ m) : (a - b).n ≤ m := n_le fun i hi => by
  rw [c_sub, c_ge (by omega), c_ge (by omega)]; exact Int.zero_emod _
/-! divisors -/
def dvd (a b : Pol q) : Prop := ∃ d, b = a * d
theorem dvd_refl (a : Pol q) : dvd a a := ⟨1, by grind⟩
theorem dvd_trans {a b d : Pol q} (h1 : dvd a b) (h2 : dvd b d) : dvd a d := by
  obtain ⟨x, rfl⟩ := h1
  obtain ⟨y, rfl⟩ := h2
  exact ⟨x * y, by grind⟩
theorem dvd_zero (a : Pol q) : dvd a 0 := ⟨0, by grind⟩
theorem dvd_add {a b d : Pol q} (h1 : dvd a b) (h2 : dvd a d) : dvd a (b + d) := by
  obtain ⟨x, rfl⟩ := h1
  obtain ⟨y, rfl⟩ := h2
  exact ⟨x + y, by grind⟩
theorem dvd_sub {a b d : Pol q} (h1 : dvd a b) (h2 : dvd a d) : dvd a (b - d) := by
  obtain ⟨x, rfl⟩ := h1
  obtain ⟨y, rfl⟩ := h2
  exact ⟨x - y, by grind⟩
theorem dvd_mul {a b : Pol q} (d : Pol q) (h : dvd a b) : dvd a (b * d) := by
  obtain ⟨x, rfl⟩ := h
  exact ⟨x * d, by grind⟩
theorem dvd_mul_left {a b : Pol q} (d : Pol q) (h : dvd a b) : dvd a (d * b) := by
  obtain ⟨x, rfl⟩ := h
  exact ⟨x * d, by grind⟩
theorem dvd_n {a b : Pol q} (h : dvd a b) (hb : b ≠ 0) : a.n ≤ b.n := by
  obtain ⟨x, rfl⟩ := h
  have ha : a ≠ 0 := fun z => hb (by rw [z]; grind)
  have hx : x ≠ 0 := fun z => hb (by rw [z]; grind)
  have := n_pos hx
  rw [n_mul ha hx]
  omega
/-! division -/
def quo (a b : Pol q) : Pol q := ⟨parQ q.1 a.l b.l, nm_parQ q.pos _ _⟩
def rem (a b : Pol q) : Pol q := ⟨parR q.1 a.l b.l, nm_parR q.pos _ _⟩
/-- what a division keeps, at the rows from A on -/
structure ParI (p : Int) (one other : List Int) (A : Nat) (s : List Int × List Int) : Prop where
  l1 : s.1.length = one.length
  l2 : s.2.length = one.length + 1 - other.length
  lo : ∀ i, i < A → gI s.2 i = 0
  eq : ∀ i, gI s.1 i % p = (gI one i - cv (gI other) (gI s.2) i) % p
theorem cv_shift (g : Sq) (m : Int) : ∀ (A i : Nat), cv g (fun j => if j = A then m else 0) i = if A ≤ i then m * g (i - A) else 0
  | 0, i => by
    rw [if_pos (Nat.zero_le _), cv_comm]
    exact cv_cq m g i
  | A + 1, 0 => by
    rw [cv_zero, if_neg (by omega), if_neg (by omega), Int.mul_zero]
  | A + 1, i + 1 => by
    rw [cv_succ', if_neg (by omega), Int.mul_zero, Int.add_zero]
    have e : sh (fun j => if j = A + 1 then m else 0) = fun j => if j = A then m else 0 := by
      funext j
      show (if j + 1 = A + 1 then m else 0) = _
      by_cases h : j = A
      · rw [if_pos h, if_pos (by omega)]
      · rw [if_neg h, if_neg (by omega)]
    rw [e, cv_shift g m A i]
    by_cases h : A ≤ i
    · rw [if_pos h, if_pos (by omega), show i + 1 - (A + 1) = i - A by omega]
    · rw [if_neg h, if_neg (by omega)]
theorem ParI.step {p : Int} {one other : List Int} {back : Int} {A k : Nat} {s : List Int × List Int} (h : ParI p one other (A + 1) s) (ho : 0 < other.length) (hA : A + k + other.length = one.length) : ParI p one other A (parStep p one other back s k) := by
  have hl := parStep_len p one other back s k
  have ha : parAt one other k = (A : Int) := by unfold parAt; omega
  have h2 : (parStep p one other back s k).2 = s.2.set A (parNum p other back (A : Int) s.1) := by
    unfold parStep
    show setZ s.2 (parAt one other k) (parNum p other back (parAt one other k) s.1) = _
    rw [ha, setZ_nat]
  have hn : parNum p other back (A : Int) s.1 = gI s.1 (A + other.length - 1) * back % p := by
    unfold parNum
    rw [show (A : Int) + (other.length : Int) - 1 = ((A + other.length - 1 : Nat) : Int) by omega, gZ_gI]
  refine ⟨hl.1.trans h.l1, hl.2.trans h.l2, fun i hi => ?_, fun i => ?_⟩
  · rw [h2, gI_set, if_neg (by omega)]
    exact h.lo i (by omega)
  · rw [gI_pstep (A := A) h.l1 ho hA, h2]
    have hl2 := h.l2
    have e : gI (s.2.set A (parNum p other back (A : Int) s.1)) = fun j => gI s.2 j + if j = A then parNum p other back (A : Int) s.1 else 0 := by
      funext j
      rw [gI_set]
      by_cases hj : j = A
      · subst hj
        rw [if_pos ⟨rfl, by omega⟩, if_pos rfl, h.lo j (by omega), Int.zero_add]
      · rw [if_neg (fun z => hj z.1), if_neg hj, Int.add_zero]
    rw [e, cv_add_right, cv_shift, hn]
    unfold red
    have hq := h.eq i
    by_cases hi : A ≤ i
    · rw [if_pos hi]
      by_cases hi2 : i < A + other.length
      · rw [if_pos ⟨hi, hi2⟩, Int.emod_emod_of_dvd _ (Int.dvd_refl _), Int.sub_emod, hq, ← Int.sub_emod]
        exact em (by omega)
      · rw [if_neg (by omega), gI_ge (show other.length ≤ i - A by omega), Int.mul_zero, Int.add_zero]
        exact hq
    · rw [if_neg (by omega), if_neg hi, Int.add_zero]
      exact hq
theorem ParI.go {p : Int} {one other : List Int} {back : Int} (ho : 0 < other.length) : ∀ (A k : Nat) (s : List Int × List Int), ParI p one other A s → A + k + other.length = one.length + 1 → ParI p one other 0 ((List.range' k A).foldl (parStep p one other back) s)
  | 0, k, s, h, _ => h
  | A + 1, k, s, h, hA => by
    rw [List.range'_succ, List.foldl_cons]
    exact ParI.go ho A (k + 1) _ (h.step ho (by omega)) (by omega)
theorem parL_eq {p : Int} {one other : List Int} (ho : 0 < other.length) (i : Nat) : gI (parL p one other).1 i % p = (gI one i - cv (gI other) (gI (parL p one other).2) i) % p := by
  have hz : ∀ n i : Nat, cv (gI other) (gI (List.replicate n 0)) i = 0 := fun n i => by rw [cv_comm]; exact cv_null (fun i => gI_rep n i) i
  by_cases h : other.length ≤ one.length + 1
  · have e : parN one other = one.length + 1 - other.length := by unfold parN; omega
    have e2 : (mxI ((one.length : Int) - (other.length : Int) + 1) 0).toNat = one.length + 1 - other.length := by unfold mxI; split <;> omega
    have : ParI p one other 0 (parL p one other) := by
      unfold parL
      rw [e, List.range_eq_range']
      refine ParI.go ho _ 0 _ ⟨rfl, ?_, fun i _ => gI_rep _ i, fun i => ?_⟩ (by omega)
      · rw [List.length_replicate, e2]
      · show gI one i % p = (gI one i - cv (gI other) (gI (List.replicate _ 0)) i) % p
        rw [hz, Int.sub_zero]
    exact this.eq i
  · have e : parN one other = 0 := by unfold parN; omega
    have e1 : parL p one other = (one, List.replicate (mxI ((one.length : Int) - (other.length : Int) + 1) 0).toNat 0) := by
      unfold parL
      rw [e]
      rfl
    rw [e1]
    show gI one i % p = (gI one i - cv (gI other) (gI (List.replicate _ 0)) i) % p
    rw [hz, Int.sub_zero]
theorem div_eq (a b : Pol q) (hb : b ≠ 0) : a = b * quo a b + rem a b := ext fun i => by
  have hpos : 0 < b.l.length := n_pos hb
  have h := parL_eq (p := q.1) (one := a.l) (other := b.l) hpos i
  have e1 : (rem a b).c i = gI (parL q.1 a.l b.l).1 i % q.1 := by
    show gI (parR _ _ _) i = _
    unfold parR
    rw [gI_norm]
  have e2 : (quo a b).c = fun j => gI (parL q.1 a.l b.l).2 j % q.1 := by
    funext j
    show gI (parQ _ _ _) j = _
    unfold parQ
    rw [gI_norm]
  rw [c_add, c_mul, e2, mod_cv, e1, Int.add_emod, h, ← Int.add_emod, Int.emod_add_emod, Int.add_emod_emod]
  show a.c i = (cv b.c (gI (parL q.1 a.l b.l).2) i + (a.c i - cv b.c (gI (parL q.1 a.l b.l).2) i)) % q.1
  rw [show ∀ x y : Int, x + (y - x) = y from fun x y => by omega, c_mod]
theorem rem_n (a : Pol q) {b : Pol q} (hb : b ≠ 0) : (rem a b).n < b.n := by
  have hne : b.l ≠ [] := fun z => hb (l_nil.mp z)
  exact parR_len hne (b.nm.inv q.2 hne)
/-- quotient and rest are told by their sizes -/
theorem div_uniq {a b x y : Pol q} (h : a = b * x + y) (hy : y.n < b.n) : quo a b = x ∧ rem a b = y := by
  have hb : b ≠ 0 := fun z => by rw [n_zero.mpr z] at hy; omega
  have h1 := div_eq a b hb
  have h2 := rem_n a hb
  have h3 : b * (quo a b - x) = y - rem a b := by grind
  by_cases e : quo a b - x = 0
  · have h4 : y - rem a b = 0 := by rw [← h3, e]; grind
    exact ⟨by grind, by grind⟩
  · have h4 := n_mul hb e
    have h5 := n_pos e
    have h6 := n_sub y (rem a b) (m := b.n - 1) (by omega) (by omega)
    rw [h3] at h4
    omega
theorem rem_zero {a b : Pol q} (hb : b ≠ 0) : rem a b = 0 ↔ dvd b a := by
  constructor
  · intro h
    have := div_eq a b hb
    rw [h] at this
    exact ⟨quo a b, by grind⟩
  · intro ⟨x, h⟩
    exact (div_uniq (x := x) (y := 0) (by grind) (by rw [n_zero.mpr rfl]; exact n_pos hb)).2
/-! common factors -/
theorem rem_dvd {a b d : Pol q} (hb : b ≠ 0) (h2 : dvd d b) : dvd d (rem a b) ↔ dvd d a := by
  have h := div_eq a b hb
  constructor
  · intro h1
    rw [h]
    exact dvd_add (dvd_mul _ h2) h1
  · intro h1
    have : rem a b = a - b * quo a b := by grind
    rw [this]
    exact dvd_sub h1 (dvd_mul _ h2)
/-- g is a common factor of a and b that all others divide, and is made of them -/
structure Gcd (a b g : Pol q) : Prop where
  dv : ∀ d, dvd d g ↔ dvd d a ∧ dvd d b
  cb : ∃ u v, g = u * a + v * b
theorem Gcd.zero (a : Pol q) : Gcd a 0 a := ⟨fun d => ⟨fun h => ⟨h, dvd_zero d⟩, fun h => h.1⟩, 1, 0, by grind⟩
theorem Gcd.step {a b g : Pol q} (hb : b ≠ 0) (h : Gcd b (rem a b) g) : Gcd a b g := by
  refine ⟨fun d => ?_, ?_⟩
  · rw [h.dv]
    constructor
    · intro ⟨h1, h2⟩
      exact ⟨(rem_dvd hb h1).mp h2, h1⟩
    · intro ⟨h1, h2⟩
      exact ⟨h2, (rem_dvd hb h2).mpr h1⟩
  · obtain ⟨u, v, e⟩ := h.cb
    have := div_eq a b hb
    exact ⟨v, u - v * quo a b, by grind⟩
theorem Gcd.d1 {a b g : Pol q} (h : Gcd a b g) : dvd g a := ((h.dv g).mp (dvd_refl g)).1
theorem Gcd.d2 {a b g : Pol q} (h : Gcd a b g) : dvd g b := ((h.dv g).mp (dvd_refl g)).2
end Pol
end Mi

end

section
set_option Elab.async false
set_option linter.all false
set_option maxRecDepth 100000
set_option autoImplicit false
/-! slopes, p-th powers, double factors -/
namespace Mi
namespace Pol
open PySem L2 DL Aa
variable {q : Pr}
def der (a : Pol q) : Pol q := ⟨slope q.1 a.l, nm_slope q.pos _⟩
theorem c_der (a : Pol q) (i : Nat) : (der a).c i = dq a.c i % q.1 := gI_slope _ _ _
theorem dq_mod (p : Int) (f : Sq) (i : Nat) : dq (fun j => f j % p) i % p = dq f i % p := by
  unfold dq
  rw [Int.mul_emod, Int.emod_emod_of_dvd _ (Int.dvd_refl _), ← Int.mul_emod]
theorem der_mul (a b : Pol q) : der (a * b) = der a * b + a * der b := ext fun i => by
  rw [c_der, c_add, c_mul, c_mul, show (a * b).c = fun j => cv a.c b.c j % q.1 from funext (c_mul a b), dq_mod, dq_cv,
    show (der a).c = fun j => dq a.c j % q.1 from funext (c_der a), show (der b).c = fun j => dq b.c j % q.1 from funext (c_der b), cv_mod, mod_cv, ← Int.add_emod]
theorem der_add (a b : Pol q) : der (a + b) = der a + der b := ext fun i => by
  rw [c_der, c_add, c_der, c_der, show (a + b).c = fun j => (a.c j + b.c j) % q.1 from funext (c_add a b), dq_mod, ← Int.add_emod]
  refine em ?_
  unfold dq
  rw [Int.mul_add]
theorem der_n (a : Pol q) : (der a).n ≤ a.n - 1 := n_le fun i hi => by
  rw [c_der]
  unfold dq
  rw [c_ge (by omega), Int.mul_zero, Int.zero_emod]
/-! numbers -/
theorem k_mul_k (x y : Int) : (k x * k y : Pol q) = k (x * y) := ext fun i => by
  rw [k_mul, c_k, c_k, Int.mul_emod, Int.emod_emod_of_dvd _ (Int.dvd_refl _), ← Int.mul_emod]
  refine em ?_
  unfold cq
  split
  · rfl
  · exact Int.mul_zero _
theorem k_mod {x y : Int} (h : x % q.1 = y % q.1) : (k x : Pol q) = k y := ext fun i => by
  rw [c_k, c_k]
  unfold cq
  split
  · exact h
  · rfl
theorem k_one : (k 1 : Pol q) = 1 := rfl
theorem k_zero : (k 0 : Pol q) = 0 := rfl
theorem pow0 (a : Pol q) : a ^ 0 = 1 := rfl
theorem k_pow (x : Int) : ∀ m : Nat, (k x ^ m : Pol q) = k (x ^ m)
  | 0 => by rw [pow0, Int.pow_zero, k_one]
  | m + 1 => by
    rw [Lean.Grind.Semiring.pow_succ, k_pow x m, k_mul_k, Int.pow_succ]
theorem one_n (a : Pol q) (h : a.n ≤ 1) : a = k (a.c 0) := ext fun i => by
  rw [c_k]
  unfold cq
  cases i with
  | zero => rw [if_pos rfl, c_mod]
  | succ i => rw [if_neg (by omega), c_ge (by omega)]; rfl
theorem unit {a : Pol q} (h : a.n = 1) : ∃ w, w * a = 1 := by
  have ha : a ≠ 0 := fun z => by rw [n_zero.mpr z] at h; cases h
  have h1 := lead_ne ha
  rw [h] at h1
  have h2 := a.c_bd 0
  have hi := inv_bd (q.2.inv (show 0 < a.c 0 by have : a.c 0 ≠ 0 := h1; omega) h2.2)
  refine ⟨k (inv q.1 (a.c 0)), ?_⟩
  have e := one_n a (by omega)
  generalize a.c 0 = y at *
  rw [e, k_mul_k, ← k_one]
  refine k_mod ?_
  rw [hi.2.2, Int.emod_eq_of_lt (by decide) q.one]
/-! powers of x -/
def X : Pol q := of [0, 1]
theorem c_X (i : Nat) : (X : Pol q).c i = if i = 1 then 1 else 0 := by
  unfold X
  rw [c_of]
  match i with
  | 0 => rfl
  | 1 => exact Int.emod_eq_of_lt (by decide) q.one
  | i + 2 =>
    rw [gI_ge (by simp only [List.length_cons, List.length_nil]; omega), if_neg (by omega)]
    exact Int.zero_emod _
theorem c_X_mul (a : Pol q) (i : Nat) : (X * a).c i = if 1 ≤ i then a.c (i - 1) else 0 := by
  rw [c_mul, show (X : Pol q).c = fun j => if j = 1 then 1 else 0 from funext c_X, cv_comm, cv_shift]
  split
  · rw [Int.one_mul, c_mod]
  · exact Int.zero_emod _
theorem of_cons (x : Int) (l : List Int) : (of (x :: l) : Pol q) = k x + X * of l := ext fun i => by
  rw [c_of, c_add, c_k, c_X_mul]
  cases i with
  | zero =>
    rw [gI_zero, if_neg (by omega), Int.add_zero, Int.emod_emod_of_dvd _ (Int.dvd_refl _)]
    rfl
  | succ i =>
    rw [gI_succ, if_pos (by omega), c_of, Int.emod_add_emod]
    have : cq x (i + 1) = 0 := rfl
    rw [this, Int.zero_add, Int.emod_emod_of_dvd _ (Int.dvd_refl _), Nat.add_sub_cancel]
theorem of_nil : (of [] : Pol q) = 0 := ext fun i => by rw [c_of, gI_nil, c_zero]; exact Int.zero_emod _
theorem of_rep (l : List Int) : ∀ m : Nat, (of (List.replicate m 0 ++ l) : Pol q) = X ^ m * of l
  | 0 => by
    show of l = 1 * of l
    grind
  | m + 1 => by
    rw [List.replicate_succ, List.cons_append, of_cons, of_rep l m, k_zero]
    grind
/-! p-th powers -/
theorem frob3 (h : (3 : Pol q) = 0) (a b : Pol q) : (a + b) ^ 3 = a ^ 3 + b ^ 3 := by grind
theorem frob5 (h : (5 : Pol q) = 0) (a b : Pol q) : (a + b) ^ 5 = a ^ 5 + b ^ 5 := by grind
theorem frob7 (h : (7 : Pol q) = 0) (a b : Pol q) : (a + b) ^ 7 = a ^ 7 + b ^ 7 := by grind
theorem frob11 (h : (11 : Pol q) = 0) (a b : Pol q) : (a + b) ^ 11 = a ^ 11 + b ^ 11 := by grind
theorem frob13 (h : (13 : Pol q) = 0) (a b : Pol q) : (a + b) ^ 13 = a ^ 13 + b ^ 13 := by grind
theorem char_zero (m : Nat) (h : q.1 = (m : Int)) : (OfNat.ofNat m : Pol q) = 0 := by
  show k ((m : Nat) : Int) = 0
  rw [← k_zero]
  refine k_mod ?_
  rw [← h, Int.emod_self, Int.zero_emod]
def pn (q : Pr) : Nat := q.1.toNat
theorem pn_eq (q : Pr) : (pn q : Int) = q.1 := Int.toNat_of_nonneg (Int.le_of_lt q.pos)
theorem frob (a b : Pol q) : (a + b) ^ pn q = a ^ pn q + b ^ pn q := by
  have h := q.2
  unfold PP at h
  have hp := pn_eq q
  rcases h with h | h | h | h | h
  · have e : pn q = 3 := by omega
    rw [e]; exact frob3 (char_zero 3 h) a b
  · have e : pn q = 5 := by omega
    rw [e]; exact frob5 (char_zero 5 h) a b
  · have e : pn q = 7 := by omega
    rw [e]; exact frob7 (char_zero 7 h) a b
  · have e : pn q = 11 := by omega
    rw [e]; exact frob11 (char_zero 11 h) a b
  · have e : pn q = 13 := by omega
    rw [e]; exact frob13 (char_zero 13 h) a b
theorem fermat_all : ∀ p ∈ [(3 : Nat), 5, 7, 11, 13], ∀ x ∈ List.range 13, ((x : Int) ^ p) % (p : Int) = (x : Int) % (p : Int) := by decide +kernel
theorem pow_emod (x p : Int) : ∀ m : Nat, (x % p) ^ m % p = x ^ m % p
  | 0 => by rw [Int.pow_zero, Int.pow_zero]
  | m + 1 => by rw [Int.pow_succ, Int.pow_succ, Int.mul_emod, pow_emod x p m, Int.emod_emod_of_dvd _ (Int.dvd_refl _), ← Int.mul_emod]
theorem fermat (x : Int) : x ^ pn q % q.1 = x % q.1 := by
  have h := q.2
  unfold PP at h
  have hp := pn_eq q
  have h1 := Int.emod_nonneg x (show q.1 ≠ 0 by omega)
  have h2 := Int.emod_lt_of_pos x q.pos
  have := fermat_all (pn q) (by simp; omega) (x % q.1).toNat (List.mem_range.mpr (by omega))
  rw [Int.toNat_of_nonneg h1, hp, pow_emod, Int.emod_emod_of_dvd _ (Int.dvd_refl _)] at this
  exact this
theorem k_pn (x : Int) : (k x ^ pn q : Pol q) = k x := by rw [k_pow]; exact k_mod (fermat x)
theorem mul_pow (a b : Pol q) : ∀ m : Nat, (a * b) ^ m = a ^ m * b ^ m
  | 0 => by show (1 : Pol q) = 1 * 1; grind
  | m + 1 => by
    rw [Lean.Grind.Semiring.pow_succ, Lean.Grind.Semiring.pow_succ, Lean.Grind.Semiring.pow_succ, mul_pow a b m]; grind
/-- numbers m places from one another -/
def spr (m : Nat) : List Int → List Int
  | [] => []
  | x :: l => x :: (List.replicate (m - 1) 0 ++ spr m l)
theorem gI_spr {m : Nat} (hm : 0 < m) : ∀ (l : List Int) (i : Nat), gI (spr m l) i = if i % m = 0 then gI l (i / m) else 0
  | [], i => by
    rw [gI_nil]
    show gI [] i = _
    rw [gI_nil]
    split <;> rfl
  | x :: l, 0 => by
    rw [Nat.zero_mod, if_pos rfl, Nat.zero_div, gI_zero]
    exact gI_zero _ _
  | x :: l, i + 1 => by
    show gI (x :: (List.replicate (m - 1) 0 ++ spr m l)) (i + 1) = _
    rw [gI_succ, gI_app, List.length_replicate]
    by_cases h : i < m - 1
    · rw [if_pos h, gI_rep, Nat.mod_eq_of_lt (by omega), if_neg (by omega)]
    · rw [if_neg h, gI_spr hm l]
      have e : i + 1 = (i - (m - 1)) + m := by omega
      rw [e, Nat.add_mod_right, Nat.add_div_right _ hm, gI_succ]
theorem pow_spr (l : List Int) : (of l : Pol q) ^ pn q = of (spr (pn q) l) := by
  have h0 : 0 < pn q := by have := pn_eq q; have := q.pos; omega
  induction l with
  | nil =>
    show (of [] : Pol q) ^ pn q = of []
    rw [of_nil]
    obtain ⟨m, hm⟩ : ∃ m, pn q = m + 1 := ⟨pn q - 1, by omega⟩
    rw [hm, Lean.Grind.Semiring.pow_succ]
    grind
  | cons x l ih =>
    show (of (x :: l) : Pol q) ^ pn q = of (x :: (List.replicate (pn q - 1) 0 ++ spr (pn q) l))
    rw [of_cons, of_cons, of_rep, frob, mul_pow, k_pn, ih]
    obtain ⟨m, hm⟩ : ∃ m, pn q = m + 1 := ⟨pn q - 1, by omega⟩
    rw [hm, Nat.add_sub_cancel, Lean.Grind.Semiring.pow_succ]
    grind
/-- every p-th number -/
def evr (a : Pol q) : List Int := (List.range a.n).map fun i => a.c (pn q * i)
theorem gI_evr (a : Pol q) (i : Nat) : gI (evr a) i = a.c (pn q * i) := by
  have h0 : 0 < pn q := by have := pn_eq q; have := q.pos; omega
  by_cases h : i < a.n
  · unfold evr gI
    rw [List.getElem?_map, List.getElem?_range h]
    rfl
  · rw [gI_ge (by unfold evr; rw [List.length_map, List.length_range]; omega), c_ge]
    have : i ≤ pn q * i := Nat.le_mul_of_pos_left i h0
    omega
/-- only p-th places: a p-th power -/
theorem pow_of {a : Pol q} (h : ∀ i, i % pn q ≠ 0 → a.c i = 0) : (of (evr a)) ^ pn q = a := by
  have h0 : 0 < pn q := by have := pn_eq q; have := q.pos; omega
  rw [pow_spr]
  refine ext fun i => ?_
  rw [c_of, gI_spr h0]
  by_cases e : i % pn q = 0
  · rw [if_pos e, gI_evr]
    have : pn q * (i / pn q) = i := by have := Nat.div_add_mod i (pn q); omega
    rw [this, c_mod]
  · rw [if_neg e, h i e]
    exact Int.zero_emod _
theorem der_zero {a : Pol q} (h : der a = 0) : ∀ i, i % pn q ≠ 0 → a.c i = 0 := fun i hi => by
  have hp := pn_eq q
  cases i with
  | zero => exact absurd (Nat.zero_mod _) hi
  | succ i =>
    have h1 : (der a).c i = 0 := by rw [h, c_zero]
    rw [c_der] at h1
    unfold dq at h1
    by_cases e : a.c (i + 1) = 0
    · exact e
    · have b1 := a.c_bd (i + 1)
      have h2 : ((i + 1 : Nat) : Int) % q.1 * a.c (i + 1) % q.1 = 0 := by
        rw [Int.mul_emod, Int.emod_emod_of_dvd _ (Int.dvd_refl _), ← Int.mul_emod]
        exact h1
      have b2 := Int.emod_lt_of_pos ((i + 1 : Nat) : Int) q.pos
      have b3 : ((i + 1 : Nat) : Int) % q.1 = (((i + 1) % pn q : Nat) : Int) := by rw [Int.natCast_emod, hp]
      exact absurd h2 (mul_mod_ne ⟨by omega, b2⟩ ⟨by omega, b1.2⟩)
theorem pow_n {a : Pol q} (ha : a ≠ 0) : ∀ m : Nat, a ^ m ≠ 0 ∧ (a ^ m).n = m * (a.n - 1) + 1
  | 0 => by
    refine ⟨one_ne, ?_⟩
    show (1 : Pol q).n = _
    have h1 : (1 : Pol q).n ≤ 1 := n_le fun i hi => by
      have : (1 : Pol q).c i = cq ((1 : Nat) : Int) i % q.1 := c_lit 1 i
      rw [this]
      unfold cq
      rw [if_neg (by omega)]
      exact Int.zero_emod _
    have := n_pos (one_ne : (1 : Pol q) ≠ 0)
    omega
  | m + 1 => by
    obtain ⟨h1, h2⟩ := pow_n ha m
    rw [Lean.Grind.Semiring.pow_succ]
    refine ⟨mul_ne h1 ha, ?_⟩
    rw [n_mul h1 ha, h2]
    have := n_pos ha
    have e : (m + 1) * (a.n - 1) = m * (a.n - 1) + (a.n - 1) := Nat.succ_mul _ _
    omega
/-! common factors are there -/
theorem gcd_ex : ∀ (m : Nat) (a b : Pol q), b.n ≤ m → ∃ g, Gcd a b g
  | 0, a, b, h => by
    have : b = 0 := n_zero.mp (by omega)
    subst this
    exact ⟨a, Gcd.zero a⟩
  | m + 1, a, b, h => by
    by_cases hb : b = 0
    · subst hb
      exact ⟨a, Gcd.zero a⟩
    · have := rem_n a hb
      obtain ⟨g, hg⟩ := gcd_ex m b (rem a b) (by omega)
      exact ⟨g, hg.step hb⟩
theorem min_div : ∀ (m : Nat) (g : Pol q), g.n ≤ m → 2 ≤ g.n → ∃ d, dvd d g ∧ 2 ≤ d.n ∧ ∀ e, dvd e d → 2 ≤ e.n → d.n ≤ e.n
  | 0, g, h, h2 => by omega
  | m + 1, g, h, h2 => by
    by_cases e : ∀ e, dvd e g → 2 ≤ e.n → g.n ≤ e.n
    · exact ⟨g, dvd_refl g, h2, e⟩
    · obtain ⟨x, hx⟩ := Classical.not_forall.mp e
      have h3 : dvd x g ∧ 2 ≤ x.n ∧ ¬ g.n ≤ x.n := by
        refine ⟨Classical.byContradiction fun z => hx fun y => absurd y z, Classical.byContradiction fun z => hx fun _ y => absurd y z, fun z => hx fun _ _ => z⟩
      obtain ⟨d, h4, h5, h6⟩ := min_div m x (by omega) h3.2.1
      exact ⟨d, dvd_trans h4 h3.1, h5, h6⟩
/-- what divides a polynomial and its slope has a factor that divides it twice -/
theorem sq_of_common {f g : Pol q} (hf : f ≠ 0) (h1 : dvd g f) (h2 : dvd g (der f)) (hg : 2 ≤ g.n) : ∃ d, 2 ≤ d.n ∧ dvd (d * d) f := by
  obtain ⟨d, d1, d2, d3⟩ := min_div g.n g (Nat.le_refl _) hg
  refine ⟨d, d2, ?_⟩
  have dne : d ≠ 0 := fun z => by rw [n_zero.mpr z] at d2; omega
  obtain ⟨x, hx⟩ := dvd_trans d1 h1
  have e1 : der f = der d * x + d * der x := by rw [hx, der_mul]
  have e2 : dvd d (der d * x) := by
    have : der d * x = der f - d * der x := by grind
    rw [this]
    exact dvd_sub (dvd_trans d1 h2) (dvd_mul _ (dvd_refl d))
  suffices h : dvd d x by
    obtain ⟨y, hy⟩ := h
    exact ⟨y, by grind⟩
  by_cases hd : der d = 0
  · have hp := pow_of (der_zero hd)
    have p2 : 2 ≤ pn q := by have := pn_eq q; have := q.one; omega
    have rne : (of (evr d) : Pol q) ≠ 0 := fun z => by
      rw [z] at hp
      obtain ⟨m, hm⟩ : ∃ m, pn q = m + 1 := ⟨pn q - 1, by omega⟩
      rw [hm, Lean.Grind.Semiring.pow_succ] at hp
      exact dne (by grind)
    have hn := (pow_n rne (pn q)).2
    rw [hp] at hn
    have r1 := n_pos rne
    have hr : 2 ≤ (of (evr d) : Pol q).n := by
      rcases Nat.lt_or_ge (of (evr d) : Pol q).n 2 with z | z
      · rw [show (of (evr d) : Pol q).n - 1 = 0 by omega, Nat.mul_zero] at hn
        omega
      · exact z
    have hdv : dvd (of (evr d)) d := by
      obtain ⟨m, hm⟩ : ∃ m, pn q = m + 1 := ⟨pn q - 1, by omega⟩
      rw [hm, Lean.Grind.Semiring.pow_succ] at hp
      exact ⟨of (evr d) ^ m, by grind⟩
    have := d3 _ hdv hr
    have h5 : 2 * ((of (evr d) : Pol q).n - 1) ≤ pn q * ((of (evr d) : Pol q).n - 1) := Nat.mul_le_mul_right _ p2
    omega
  · obtain ⟨e, he⟩ := gcd_ex (der d).n d (der d) (Nat.le_refl _)
    have ene : e ≠ 0 := fun z => by
      obtain ⟨y, hy⟩ := he.d1
      exact dne (by rw [hy, z]; grind)
    have h3 := dvd_n he.d2 hd
    have h4 := der_n d
    have h5 : e.n = 1 := by
      have := n_pos ene
      rcases Nat.lt_or_ge e.n 2 with z | z
      · omega
      · have := d3 e he.d1 z
        omega
    obtain ⟨w, hw⟩ := unit h5
    obtain ⟨u, v, huv⟩ := he.cb
    have e5 : x = d * (w * u * x) + w * v * (der d * x) := by grind
    rw [e5]
    exact dvd_add (dvd_mul _ (dvd_refl d)) (dvd_mul_left _ e2)
/-- and what divides twice divides the slope -/
theorem common_of_sq {f d : Pol q} (h : dvd (d * d) f) : dvd d f ∧ dvd d (der f) := by
  obtain ⟨x, rfl⟩ := h
  refine ⟨⟨d * x, by grind⟩, ?_⟩
  rw [der_mul, der_mul]
  exact ⟨(der d + der d) * x + d * der x, by grind⟩
end Pol
end Mi

end

section
set_option Elab.async false
set_option linter.all false
set_option maxRecDepth 100000
set_option autoImplicit false
/-! the two laws about squares -/
namespace Mi
open PySem L2 DL
namespace Pol
variable {q : Pr}
theorem lc_gcd : ∀ (m : Nat) (a b : Pol q), b.n ≤ m → ∃ g : Pol q, Gcd a b g ∧ (whl lcT (lcS q.1) m (a.l, b.l)).1 = g.l
  | 0, a, b, h => by
    have : b = 0 := n_zero.mp (by omega)
    subst this
    exact ⟨a, Gcd.zero a, rfl⟩
  | m + 1, a, b, h => by
    by_cases hb : b = 0
    · subst hb
      refine ⟨a, Gcd.zero a, ?_⟩
      rw [l_zero, whl_stop _ _ (show lcT (a.l, []) = false from rfl)]
    · have ne : b.l ≠ [] := fun z => hb (l_nil.mp z)
      have h1 := rem_n a hb
      obtain ⟨g, hg, e⟩ := lc_gcd m b (rem a b) (by omega)
      refine ⟨g, hg.step hb, ?_⟩
      have ht : lcT (a.l, b.l) = true := by unfold lcT; simpa using ne
      have e2 : lcS q.1 (a.l, b.l) = (b.l, (rem a b).l) := by
        show (b.l, (lpE q.1 a.l b.l).1) = _
        rw [(lpE_ok q.2 a.nm b.nm ne).1]
        rfl
      show (if lcT (a.l, b.l) = true then whl lcT (lcS q.1) m (lcS q.1 (a.l, b.l)) else (a.l, b.l)).1 = _
      rw [if_pos ht, e2, e]
theorem simple_iff (f : Pol q) : lsimple q.1 f.l = true ↔ ∃ g, Gcd f (der f) g ∧ g.n = 1 := by
  obtain ⟨g, hg, e⟩ := lc_gcd (der f).n f (der f) (Nat.le_refl _)
  have e2 : lcom q.1 f.l (slope q.1 f.l) = g.l := e
  have e3 : lsimple q.1 f.l = decide (g.n = 1) := by
    unfold lsimple
    rw [e2]
    exact decide_eq_decide.mpr (by unfold n; omega)
  rw [e3]
  constructor
  · intro h
    exact ⟨g, hg, of_decide_eq_true h⟩
  · intro ⟨g', hg', h'⟩
    refine decide_eq_true ?_
    obtain ⟨w, hw⟩ := unit h'
    have h1 : dvd g 1 := by
      have : dvd g g' := (hg'.dv g).mpr ⟨hg.d1, hg.d2⟩
      rw [← hw]
      exact dvd_mul_left _ this
    have h2 := dvd_n h1 one_ne
    have h3 : g ≠ 0 := fun z => by
      obtain ⟨y, hy⟩ := h1
      exact one_ne (by rw [hy, z]; grind)
    have h4 := n_pos h3
    have h5 : (1 : Pol q).n = 1 := (pow_n (one_ne : (1 : Pol q) ≠ 0) 0).2.trans (by omega)
    omega
theorem simple_sq {f : Pol q} (hf : f ≠ 0) : lsimple q.1 f.l = false ↔ ∃ d : Pol q, 2 ≤ d.n ∧ dvd (d * d) f := by
  constructor
  · intro h
    obtain ⟨g, hg⟩ := gcd_ex (der f).n f (der f) (Nat.le_refl _)
    have hn : g.n ≠ 1 := fun z => by
      have := (simple_iff f).mpr ⟨g, hg, z⟩
      rw [h] at this
      cases this
    have gne : g ≠ 0 := fun z => by
      obtain ⟨y, hy⟩ := hg.d1
      exact hf (by rw [hy, z]; grind)
    have := n_pos gne
    exact sq_of_common hf hg.d1 hg.d2 (by omega)
  · intro ⟨d, hd, h⟩
    cases hs : lsimple q.1 f.l with
    | false => rfl
    | true =>
      obtain ⟨g, hg, h1⟩ := (simple_iff f).mp hs
      have h2 := (hg.dv d).mpr (common_of_sq h)
      have gne : g ≠ 0 := fun z => by rw [n_zero.mpr z] at h1; cases h1
      have := dvd_n h2 gne
      omega
theorem mul_l (a b : Pol q) : (a * b).l = pmul q.1 a.l b.l := rfl
theorem twice_pol {d x : Pol q} (hd : 2 ≤ d.n) (hx : x ≠ 0) : lsimple q.1 (pmul q.1 (pmul q.1 d.l d.l) x.l) = false := by
  have dne : d ≠ 0 := fun z => by rw [n_zero.mpr z] at hd; omega
  rw [← mul_l, ← mul_l]
  exact (simple_sq (mul_ne (mul_ne dne dne) hx)).mpr ⟨d, hd, x, rfl⟩
theorem rest_iff {a b : Pol q} (hb : b ≠ 0) : (lpE q.1 a.l b.l).1 = [] ↔ dvd b a := by
  have ne : b.l ≠ [] := fun z => hb (l_nil.mp z)
  rw [(lpE_ok q.2 a.nm b.nm ne).1, ← rem_zero hb, ← l_nil]
  exact Iff.rfl
theorem sq_ne0 {d : Pol q} (hd : 2 ≤ d.n) : d * d ≠ 0 := by
  have dne : d ≠ 0 := fun z => by rw [n_zero.mpr z] at hd; omega
  exact mul_ne dne dne
/-- a monic multiple -/
theorem monic_of {d : Pol q} (hd : 2 ≤ d.n) : ∃ (e : Pol q) (u v : Pol q), e = d * u ∧ d = e * v ∧ e.n = d.n ∧ Mon q.1 (d.n - 1) e.l := by
  have dne : d ≠ 0 := fun z => by rw [n_zero.mpr z] at hd; omega
  have h1 := lead_ne dne
  have h2 := d.c_bd (d.n - 1)
  have hi := inv_bd (q.2.inv (show 0 < d.c (d.n - 1) by omega) h2.2)
  have e1 : (k (inv q.1 (d.c (d.n - 1))) * k (d.c (d.n - 1)) : Pol q) = 1 := by
    rw [k_mul_k, ← k_one]
    refine k_mod ?_
    rw [hi.2.2, Int.emod_eq_of_lt (by decide) q.one]
  have une : (k (inv q.1 (d.c (d.n - 1))) : Pol q) ≠ 0 := fun z => one_ne (by rw [← e1, z]; grind)
  have hn : (k (inv q.1 (d.c (d.n - 1))) : Pol q).n = 1 := by
    have h3 := n_pos une
    have h4 : (k (inv q.1 (d.c (d.n - 1))) : Pol q).n ≤ 1 := n_le fun i hi => by
      rw [c_k]
      unfold Aa.cq
      rw [if_neg (by omega)]
      exact Int.zero_emod _
    omega
  have hn2 : (d * k (inv q.1 (d.c (d.n - 1)))).n = d.n := by
    rw [n_mul dne une, hn]; omega
  refine ⟨d * k (inv q.1 (d.c (d.n - 1))), _, k (d.c (d.n - 1)), rfl, by grind, hn2, ⟨Pol.nm _, ?_, ?_⟩⟩
  · show (d * k (inv q.1 (d.c (d.n - 1)))).n = _
    omega
  · show (d * k (inv q.1 (d.c (d.n - 1)))).c (d.n - 1) = 1
    rw [mul_comm', k_mul]
    exact hi.2.2
end Pol
/-- all monic ones are listed -/
theorem mrow_mem {p : Int} {y : List Int} {j : Int} (hj : 0 ≤ j ∧ j < p) : ∀ (f acc : List (List Int)), (y ∈ f ∨ y ++ [j] ∈ acc) → y ++ [j] ∈ f.foldl (mrow p) acc
  | [], acc, h => by
    rcases h with h | h
    · cases h
    · exact h
  | z :: f, acc, h => by
    rw [List.foldl_cons]
    refine mrow_mem hj f _ ?_
    rcases h with h | h
    · rcases List.mem_cons.mp h with rfl | h
      · refine .inr (List.mem_append_right _ (List.mem_map.mpr ⟨j.toNat, List.mem_range.mpr (by omega), ?_⟩))
        rw [Int.toNat_of_nonneg hj.1]
      · exact .inl h
    · exact .inr (List.mem_append_left _ h)
theorem mfound_mem {p : Int} : ∀ (n : Nat) (y : List Int), y.length = n → (∀ x ∈ y, 0 ≤ x ∧ x < p) → y ∈ mfound p n
  | 0, y, h, _ => by
    rw [List.length_eq_zero_iff.mp h]
    exact List.mem_singleton.mpr rfl
  | n + 1, y, h, hb => by
    have hne : y ≠ [] := fun z => by rw [z] at h; cases h
    have e := List.dropLast_concat_getLast hne
    rw [mfound_succ, ← e]
    refine mrow_mem (hb _ (List.getLast_mem hne)) _ _ (.inl (mfound_mem n _ (by rw [List.length_dropLast]; omega) fun x hx => hb x ((List.dropLast_sublist _).subset hx)))
theorem mons_mem {p : Int} {n : Nat} {x : List Int} (h : Mon p n x) : x ∈ mons p n := by
  have hne : x ≠ [] := fun z => by have := h.len; rw [z] at this; cases this
  have e := List.dropLast_concat_getLast hne
  have hl : x.getLast hne = 1 := by
    have h1 := h.top
    have h2 := lastI_gI x
    unfold lastI at h2
    rw [List.getLast?_eq_some_getLast hne, h.len, Nat.add_sub_cancel, h1] at h2
    exact h2
  unfold mons
  rw [← e, hl]
  exact List.mem_map.mpr ⟨_, mfound_mem n _ (by rw [List.length_dropLast, h.len]; rfl) fun y hy => h.nm.bd y ((List.dropLast_sublist _).subset hy), rfl⟩
theorem twice_ok {p a : Int} (hp : PP p) (ha : 0 ≤ a ∧ a < p) {n : Nat} {X : List Int} (hX : Mon p n X) (hn : n ≤ 3) : lsimple p (pmul p (pmul p [a, 1] [a, 1]) X) = false := by
  have h1 : Mon p 1 [a, 1] := mon_of hp.one (y := [a]) rfl (fun x hx => by rw [List.mem_singleton.mp hx]; exact ha)
  refine Pol.twice_pol (q := ⟨p, hp⟩) (d := ⟨[a, 1], h1.nm⟩) (x := ⟨X, hX.nm⟩) (Nat.le_refl 2) fun z => ?_
  have := Pol.n_zero.mpr z
  have e := hX.len
  unfold Pol.n at this
  rw [e] at this
  cases this
/-- a monic one's squares are found by trying -/
theorem dbl_iff {p : Int} (hp : PP p) {n : Nat} {x : List Int} (hx : Mon p n x) (hn : n % 2 = 1) : dbl p x = true ↔ ∃ (d : List Int) (m : Nat), 1 ≤ m ∧ Mon p m d ∧ (lpE p x (pmul p d d)).1 = [] := by
  unfold dbl
  rw [List.any_eq_true]
  constructor
  · intro ⟨k, hk, h⟩
    unfold dblK at h
    obtain ⟨d, hd, h⟩ := List.any_eq_true.mp h
    unfold dblT at h
    rw [Bool.and_eq_true_iff] at h
    obtain ⟨h1, h2, h3⟩ := mons_nm hp.one hd
    exact ⟨d, 1 + k, by omega, ⟨h1, h2, h3⟩, of_decide_eq_true h.2⟩
  · intro ⟨d, m, hm, hd, h⟩
    have hsq := mon_mul hp.one hd hd
    have hl := hx.len
    have hle : m + m ≤ n := by
      have hd2 : 2 ≤ (⟨d, hd.nm⟩ : Pol ⟨p, hp⟩).n := by
        unfold Pol.n
        show 2 ≤ d.length
        rw [hd.len]; omega
      have hdv := (Pol.rest_iff (q := ⟨p, hp⟩) (a := ⟨x, hx.nm⟩) (Pol.sq_ne0 hd2)).mp h
      have := Pol.dvd_n hdv (fun z => by
        have := Pol.n_zero.mpr z
        unfold Pol.n at this
        have this : x.length = 0 := this
        rw [hl] at this
        cases this)
      have this : (pmul p d d).length ≤ x.length := this
      rw [hl, hsq.len] at this
      omega
    refine ⟨m - 1, List.mem_range.mpr (by omega), ?_⟩
    unfold dblK
    rw [List.any_eq_true]
    refine ⟨d, by rw [show 1 + (m - 1) = m by omega]; exact mons_mem hd, ?_⟩
    unfold dblT
    rw [decide_eq_true h, Bool.and_true]
    exact decide_eq_true (by omega)
theorem simple_dbl {p : Int} (hp : p = 3 ∨ p = 5) {n : Nat} {x : List Int} (hx : Mon p n x) (hn : n = 1 ∨ n = 3 ∨ n = 5) : (lsimple p x == dbl p x) = false := by
  have hP : PP p := hp.elim .inl fun h => .inr (.inl h)
  have hf : (⟨x, hx.nm⟩ : Pol ⟨p, hP⟩) ≠ 0 := fun z => by
    have := Pol.n_zero.mpr z
    unfold Pol.n at this
    have this : x.length = 0 := this
    rw [hx.len] at this
    cases this
  have h1 := dbl_iff hP hx (by omega)
  have h2 := Pol.simple_sq hf
  have h3 : dbl p x = true ↔ lsimple p x = false := by
    rw [h1]
    refine Iff.trans ?_ h2.symm
    constructor
    · intro ⟨d, m, hm, hd, h⟩
      have hd2 : 2 ≤ (⟨d, hd.nm⟩ : Pol ⟨p, hP⟩).n := by
        show 2 ≤ d.length
        rw [hd.len]; omega
      exact ⟨⟨d, hd.nm⟩, hd2, (Pol.rest_iff (q := ⟨p, hP⟩) (a := ⟨x, hx.nm⟩) (Pol.sq_ne0 hd2)).mp h⟩
    · intro ⟨d, hd, h⟩
      obtain ⟨e, u, v, h4, h5, h6, h7⟩ := Pol.monic_of hd
      refine ⟨e.l, d.n - 1, by omega, h7, ?_⟩
      refine (Pol.rest_iff (q := ⟨p, hP⟩) (a := ⟨x, hx.nm⟩) (Pol.sq_ne0 (d := e) (by omega))).mpr ?_
      obtain ⟨y, hy⟩ := h
      exact ⟨v * v * y, by rw [hy, h5]; grind⟩
  cases h4 : lsimple p x <;> cases h5 : dbl p x
  · have := h3.mpr h4
    rw [h5] at this
    cases this
  · rfl
  · rfl
  · have := h3.mp h5
    rw [h4] at this
    cases this
end Mi

end

section
set_option Elab.async false
set_option linter.all false
set_option maxRecDepth 100000
set_option autoImplicit false
set_option maxHeartbeats 4000000
namespace K7
open PySem PySem.Spec PyProof.Rows L2 DL Mi
local macro_rules | `(tactic| walk_at "side") => `(tactic| first | trivial | assumption | omega | exact .inl (by omega) | exact .inr (by omega) | ((try simp only [List.length_append, List.length_replicate, List.length_map, List.length_range, List.mem_range, List.length_cons, List.length_nil, List.length_dropLast, List.length_set, gZ_gI, setZ_len] at *); (repeat' (first | apply And.intro | split)) <;> (first | assumption | omega)) | fail "side")
section
variable {P : Program} {w : World} {K : PySem.W.Frag} {mg : Str → Option Value} {base : Heap}
def S_l_right (dg : Dt) (xs : List Dt) (d : Dt) : Prop := ∃ g : List Int, dg = .li g ∧ xs = [] ∧ Gk 10000 g ∧ d = .bl true
theorem ok_l_right (T : Txt P K mg) : FnG P w K mg base (L2.CX P w) 11 T.f_l_right T.fd_l_right ["_law_generator_here"] (SpG 1 S_l_right) := by
  refine fng_of T.F_l_right sc_l_right len_G (fun cdv A outer s H vs Q E hG hr h => ⟨_, (pss_cons (ps_set (i := 1) sc_l_right.nd rfl (by first | exact Or.inl rfl | exact Or.inr rfl) (pe_call (ok_l_prime T) (hr.mono (by decide)) (by rfl) T.g_l_prime T.F_l_prime.kp T.b_l_prime .nil pass0 (pa_cons (pv 0) pa_nil)))
      (pss_cons (ps_set (i := 2) sc_l_right.nd rfl (by first | exact Or.inl rfl | exact Or.inr rfl) (pe_ix (r := rIxL K) ix_list (pe_lst (pa_cons pe_int (pa_cons pe_int (pa_cons pe_int (pa_cons pe_int pa_nil))))) (pe_call (ok_l_random T) (hr.mono (by decide)) (by rfl) T.g_l_random T.F_l_random.kp T.b_l_random .nil pass0 (pa_cons (pv 0) (pa_cons pe_int pa_nil))) (fun _ _ => rfl)))
      (pss_cons (ps_set (i := 3) sc_l_right.nd rfl (by first | exact Or.inl rfl | exact Or.inr rfl) (pe_op op_cat (pe_lc (own := [("_law_turn", 4)]) (g := gName 4) rfl sc_l_right.nd (pi_range1 (by rfl) T.n_range (pa_cons (pv 2) pa_nil)) (blkOk_by (N := ["_law_generator_here", "_law_p", "_law_size", "_law_one", "_law_turn", "_law_low", "_law_twice", "_law_at", "_law_other", "_law_longer", "_law_value", "_law_item"]) (sc := defScope s_l_right) (by decide +kernel)) (fun _ _ _ _ _ => pg_name (i := 4) sc_l_right.nd rfl (by first | exact Or.inl rfl | exact Or.inr rfl)) (fun _ _ _ _ _ => pts_nil) (fun _ _ _ _ _ => (pe_call (ok_l_random T) (hr.mono (by decide)) (by rfl) T.g_l_random T.F_l_random.kp T.b_l_random .nil pass0 (pa_cons (pv 0) (pa_cons (pv 1) pa_nil))))) (pe_lst (pa_cons pe_int pa_nil))))
      (pss_cons (ps_set (i := 5) sc_l_right.nd rfl (by first | exact Or.inl rfl | exact Or.inr rfl) (pe_lst (pa_cons (pe_call (ok_l_random T) (hr.mono (by decide)) (by rfl) T.g_l_random T.F_l_random.kp T.b_l_random .nil pass0 (pa_cons (pv 0) (pa_cons (pv 1) pa_nil))) (pa_cons pe_int pa_nil))))
      (pss_cons (ps_set (i := 6) sc_l_right.nd rfl (by first | exact Or.inl rfl | exact Or.inr rfl) (pe_call (ok_l_times T) (hr.mono (by decide)) (by rfl) T.g_l_times T.F_l_times.kp T.b_l_times .nil pass0 (pa_cons (pv 1) (pa_cons (pe_call (ok_l_times T) (hr.mono (by decide)) (by rfl) T.g_l_times T.F_l_times.kp T.b_l_times .nil pass0 (pa_cons (pv 1) (pa_cons (pv 5) (pa_cons (pv 5) pa_nil)))) (pa_cons (pe_ifExp (pt_cmpR op_lt (pv 2) pe_int (nomark _)) (pe_lst (pa_cons (pe_call (ok_l_random T) (hr.mono (by decide)) (by rfl) T.g_l_random T.F_l_random.kp T.b_l_random .nil pass0 (pa_cons (pv 0) (pa_cons (pv 1) pa_nil))) (pa_cons pe_int pa_nil))) (pe_op op_cat (pe_lc (own := [("_law_turn", 4)]) (g := gName 4) rfl sc_l_right.nd (pi_range1 (by rfl) T.n_range (pa_cons pe_int pa_nil)) (blkOk_by (N := ["_law_generator_here", "_law_p", "_law_size", "_law_one", "_law_turn", "_law_low", "_law_twice", "_law_at", "_law_other", "_law_longer", "_law_value", "_law_item"]) (sc := defScope s_l_right) (by decide +kernel)) (fun _ _ _ _ _ => pg_name (i := 4) sc_l_right.nd rfl (by first | exact Or.inl rfl | exact Or.inr rfl)) (fun _ _ _ _ _ => pts_nil) (fun _ _ _ _ _ => (pe_call (ok_l_random T) (hr.mono (by decide)) (by rfl) T.g_l_random T.F_l_random.kp T.b_l_random .nil pass0 (pa_cons (pv 0) (pa_cons (pv 1) pa_nil))))) (pe_lst (pa_cons pe_int pa_nil)))) pa_nil)))))
      (pss_cons (ps_if (PW.pt (pw_or (pt_not (pt_val (pe_callG (ok_l_curve_right T) hG (hr.mono (by decide)) (by rfl) T.g_l_curve_right T.F_l_curve_right.kp T.b_l_curve_right .nil passL (pa_cons (pv 1) (pa_cons (pv 3) (pa_cons (pe_call (ok_l_simple T) (hr.mono (by decide)) (by rfl) T.g_l_simple T.F_l_simple.kp T.b_l_simple .nil pass0 (pa_cons (pv 1) (pa_cons (pv 3) pa_nil))) pa_nil)))))) (pw_or1 (PW.pt (pw_and (pt_cmpR op_lt (pv 1) pe_int (nomark _)) (pw_and (pt_cmpR op_lt (pv 2) pe_int (nomark _)) (pw_and1 (pt_cmpR op_eq (pe_call (ok_l_simple T) (hr.mono (by decide)) (by rfl) T.g_l_simple T.F_l_simple.kp T.b_l_simple .nil pass0 (pa_cons (pv 1) (pa_cons (pv 3) pa_nil))) (pe_call (ok_l_is_double T) (hr.mono (by decide)) (by rfl) T.g_l_is_double T.F_l_is_double.kp T.b_l_is_double .nil pass0 (pa_cons (pv 1) (pa_cons (pv 3) pa_nil))) (nomark _))))))))) (pss_one (ps_ret pe_bl)) pss_nil)
      (pss_cons (ps_if (pt_not (pt_val (pe_callG (ok_l_curve_right T) hG (hr.mono (by decide)) (by rfl) T.g_l_curve_right T.F_l_curve_right.kp T.b_l_curve_right .nil passL (pa_cons (pv 1) (pa_cons (pv 6) (pa_cons pe_bl pa_nil)))))) (pss_one (ps_ret pe_bl)) pss_nil)
      (pss_cons (ps_set (i := 7) sc_l_right.nd rfl (by first | exact Or.inl rfl | exact Or.inr rfl) (pe_call (ok_l_random T) (hr.mono (by decide)) (by rfl) T.g_l_random T.F_l_random.kp T.b_l_random .nil pass0 (pa_cons (pv 0) (pa_cons (pv 2) pa_nil))))
      (pss_cons (ps_set (i := 8) sc_l_right.nd rfl (by first | exact Or.inl rfl | exact Or.inr rfl) (pe_op op_cat (pe_op op_cat (pe_slice (r := rSlL K) sl_list (pv 3) po_none (po_some (pv 7))) (pe_lst (pa_cons (pe_call (ok_l_random T) (hr.mono (by decide)) (by rfl) T.g_l_random T.F_l_random.kp T.b_l_random .nil pass0 (pa_cons (pv 0) (pa_cons (pv 1) pa_nil))) pa_nil))) (pe_slice (r := rSlL K) sl_list (pv 3) (po_some (pe_op op_add (pv 7) pe_int)) po_none)))
      (pss_cons (ps_if (PW.pt (pw_and (pt_val (pe_call (ok_l_simple T) (hr.mono (by decide)) (by rfl) T.g_l_simple T.F_l_simple.kp T.b_l_simple .nil pass0 (pa_cons (pv 1) (pa_cons (pv 3) pa_nil)))) (pw_and (pt_val (pe_call (ok_l_simple T) (hr.mono (by decide)) (by rfl) T.g_l_simple T.F_l_simple.kp T.b_l_simple .nil pass0 (pa_cons (pv 1) (pa_cons (pv 8) pa_nil)))) (pw_and1 (pt_cmpR op_ne (pe_cmpR (op_own (ok_Curve_eq T) T.eq_Curve T.eqf_Curve T.b_Curve_eq pass0 (hr.mono (by decide))) (pe_make T.mk_Curve (ok_Curve_init T) (hr.mono (by decide)) (by rfl) T.gC_Curve T.b_Curve_init .nil passL (pa_cons (pv 1) (pa_cons (pv 3) pa_nil))) (pe_make T.mk_Curve (ok_Curve_init T) (hr.mono (by decide)) (by rfl) T.gC_Curve T.b_Curve_init .nil passL (pa_cons (pv 1) (pa_cons (pv 8) pa_nil))) (nomark _)) (pe_cmpR (r := rEqD K) (op_eqD hr.units) (pv 3) (pv 8) (nomark _)) (nomark _)))))) (pss_one (ps_ret pe_bl)) pss_nil)
      (pss_cons (ps_set (i := 9) sc_l_right.nd rfl (by first | exact Or.inl rfl | exact Or.inr rfl) (pe_lst (pa_cons (pe_op op_cat (pe_op op_cat (pv 3) (pe_op op_rep (pe_lst (pa_cons pe_int pa_nil)) (pe_op op_sub pe_int (pv 2)))) (pe_lst (pa_cons pe_int pa_nil))) (pa_cons (pe_op op_cat (pe_op op_cat (pv 3) (pe_op op_rep (pe_lst (pa_cons pe_int pa_nil)) (pe_op op_sub pe_int (pv 2)))) (pe_lst (pa_cons pe_int pa_nil))) (pa_cons (pe_op op_cat (pe_op op_cat (pv 3) (pe_op op_rep (pe_lst (pa_cons pe_int pa_nil)) (pe_op op_sub pe_int (pv 2)))) (pe_lst (pa_cons pe_int pa_nil))) pa_nil)))))
      (pss_cons (ps_for (passes_of rfl) rfl (pi_list (pe_op op_cat (pv 9) (pe_lst (pa_cons (pe_slice (r := rSlL K) sl_list (pv 3) (po_some pe_int) po_none) (pa_cons (pe_op op_cat (pv 3) (pe_lst (pa_cons pe_int pa_nil))) (pa_cons (pe_op op_cat (pe_slice (r := rSlL K) sl_list (pv 3) po_none (po_some (pe_un un_neg pe_int))) (pe_lst (pa_cons pe_int pa_nil))) (pa_cons (pe_lst pa_nil) (pa_cons (pe_lst (pa_cons pe_int pa_nil)) (pa_cons pe_non (pa_cons (pe_callTy (r := rTupS K) call_tuple_of (by rfl) T.n_tuple (by decide +kernel) (pa_cons (pv 3) pa_nil)) (pa_cons pe_str (pa_cons (pe_op op_rep (pe_lst (pa_cons pe_non pa_nil)) (pe_op op_add (pv 2) pe_int)) (pa_cons (pe_op op_rep (pe_lst (pa_cons pe_bl pa_nil)) (pe_op op_add (pv 2) pe_int)) (pa_cons (pe_op op_cat (pe_lst (pa_cons (pv 1) pa_nil)) (pe_slice (r := rSlL K) sl_list (pv 3) (po_some pe_int) po_none)) (pa_cons (pe_op op_cat (pe_op op_cat (pe_op op_cat (pe_slice (r := rSlL K) sl_list (pv 3) po_none (po_some pe_int)) (pe_lst (pa_cons (pe_un un_neg pe_int) pa_nil))) (pe_op op_rep (pe_lst (pa_cons pe_int pa_nil)) (pe_op op_sub (pv 2) pe_int))) (pe_lst (pa_cons pe_int pa_nil))) pa_nil))))))))))))))) (pg_name (i := 10) sc_l_right.nd rfl (by first | exact Or.inl rfl | exact Or.inr rfl)) (pss_cons (ps_if (PW.pt (pw_and (pt_val (pe_callB (r := rIsi K) call_isi (by rfl) T.n_isinstance (by decide +kernel) (pa_cons (pv 10) (pa_cons (pe_bltn (v := .ty "list") (by rfl) T.n_list (by decide +kernel) rfl) pa_nil)))) (pw_and (pt_cmpR (r := rIn K false) op_in_seq (pe_callB (r := rLenS K) call_len_seq (by rfl) T.n_len PySem.boot_len (pa_cons (pv 10) pa_nil)) (pe_lst (pa_cons pe_int (pa_cons pe_int (pa_cons pe_int (pa_cons pe_int pa_nil))))) (by with_unfolding_all rfl)) (pw_and (pt_cmpR (r := rEqD K) (op_eqD hr.units) (pe_ix (r := rIxL K) ix_list (pv 10) (pe_un un_neg pe_int) (fun _ _ => rfl)) pe_int (nomark _)) (pw_and1 (pt_cmpR (r := rEqD K) (op_eqD hr.units) (pe_lc (own := [("_law_item", 11)]) (g := gName 11) rfl sc_l_right.nd (pi_list (pv 10)) (blkOk_by (N := ["_law_generator_here", "_law_p", "_law_size", "_law_one", "_law_turn", "_law_low", "_law_twice", "_law_at", "_law_other", "_law_longer", "_law_value", "_law_item"]) (sc := defScope s_l_right) (by decide +kernel)) (fun _ _ _ _ _ => pg_name (i := 11) sc_l_right.nd rfl (by first | exact Or.inl rfl | exact Or.inr rfl)) (fun _ _ _ _ _ => pts_one (PW.pt (pw_or (pt_val (pe_callB (r := rIsi K) call_isi (by rfl) T.n_isinstance (by decide +kernel) (pa_cons (pv 11) (pa_cons (pe_bltn (v := .ty "bool") (by rfl) T.n_bool (by decide +kernel) rfl) pa_nil)))) (pw_or (pt_not (pt_val (pe_callB (r := rIsi K) call_isi (by rfl) T.n_isinstance (by decide +kernel) (pa_cons (pv 11) (pa_cons (pe_bltn (v := .ty "int") (by rfl) T.n_int (by decide +kernel) rfl) pa_nil))))) (pw_or1 (pt_not (pt_chain op_le op_lt pe_int (pv 11) (pv 1)))))))) (fun _ _ _ _ _ => (pv 11))) (pe_lst pa_nil) (nomark _))))))) (pss_one ps_continue) pss_nil)
      (pss_one (ps_if (pt_not (pt_val (pe_callG (ok_l_curve_right T) hG (hr.mono (by decide)) (by rfl) T.g_l_curve_right T.F_l_curve_right.kp T.b_l_curve_right .nil passL (pa_cons (pv 1) (pa_cons (pv 10) (pa_cons pe_bl pa_nil)))))) (pss_one (ps_ret pe_bl)) pss_nil))))
      (pss_one (ps_ret pe_bl)))))))))))))), go_G h (by decide) fun gg dg xs d hS => ?_⟩)
  obtain ⟨g0, rfl, rfl, hg0, rfl⟩ := hS
  show Fin _ [.bo gg (.li g0), .non, .non, .non, .non, .non, .non, .non, .non, .non, .non, .non] _
  -- the prime
  refine fin_seq (ds_set (de_callB rfl (by trivial) da_nil rfl rfl has_bo ⟨g0, rfl, rfl, hg0.up (by decide), rfl, rfl⟩)) ?_
  have hP := pp_draw (rndG_bd (b := 5) hg0 (by decide)).1 (rndG_bd (b := 5) hg0 (by decide)).2
  have hg1 := rndG_gk (b := 5) hg0
  show Fin _ [.bo gg (.li (rndG g0 5).2), .sh (.int (gZ [3, 5, 7, 11, 13] (rndG g0 5).1)), .non, .non, .non, .non, .non, .non, .non, .non, .non, .non] _
  generalize gZ [3, 5, 7, 11, 13] (rndG g0 5).1 = p at hP ⊢
  generalize (rndG g0 5).2 = g1 at hg1 ⊢
  clear hg0
  have hpb := hP.bd
  have hp1 := hP.one
  -- the size
  have hb4 := rndG_bd (b := 4) hg1 (by decide)
  refine fin_seq (ds_set (de_op (DE.ofN (dn_liC (da_cons de_int (da_cons de_int (da_cons de_int (da_cons de_int da_nil)))) rfl (Nat.le_of_ble_eq_true rfl))) (de_callB rfl (by trivial) (da_cons de_int da_nil) rfl rfl has_bo ⟨g1, 4, rfl, rfl, ⟨hg1.up (by decide), by decide, by decide⟩, rfl, rfl⟩) (rd_ixZ ?_))) ?_
  · simp only [List.length_cons, List.length_nil]
    omega
  have hsz := sz_draw hb4.1 hb4.2
  have hg2 := rndG_gk (b := 4) hg1
  show Fin _ [.bo gg (.li (rndG g1 4).2), .sh (.int p), .sh (.int (gZ [1, 3, 5, 7] (rndG g1 4).1)), .non, .non, .non, .non, .non, .non, .non, .non, .non] _
  clear hb4
  generalize gZ [1, 3, 5, 7] (rndG g1 4).1 = size at hsz ⊢
  generalize (rndG g1 4).2 = g2 at hg2 ⊢
  clear hg1
  have hszb : 0 < size ∧ size < 8 := by unfold Sz at hsz; omega
  obtain ⟨m, rfl⟩ : ∃ m : Nat, size = (m : Int) := ⟨size.toNat, by omega⟩
  have hm : m = 1 ∨ m = 3 ∨ m = 5 ∨ m = 7 := by unfold Sz at hsz; omega
  -- the first polynomial
  refine fin_seq (ds_setN (dn_op (DE.ofN (dn_lcSt (l := List.range ((m : Int)).toNat) (e := fun k : Nat => .int (k : Nat)) (fun i => [.bo gg (.li (drawS g2 p i)), .sh (.int p), .sh (.int (m : Int)), .non, .non, .non, .non, .non, .non, .non, .non, .non]) (drawV g2 p) (dw_rng1 (da_cons (de_var rfl) da_nil) ?_) ?_ rfl (fun i x hx => ⟨_, _, dgc_name (by simp), de_callB rfl (by trivial) (da_cons (de_var rfl) da_nil) rfl rfl has_bo ⟨drawS g2 p i, p, rfl, rfl, ?_, rfl, rfl⟩, rfl⟩))) (DE.ofN (dn_liC (da_cons de_int da_nil) rfl (Nat.le_of_ble_eq_true rfl))) (rn_catI ?_))) ?_
  · omega
  · rw [List.length_range]
    omega
  · have hi : i < m := by
      have := (List.getElem?_eq_some_iff.mp hx).1
      rw [List.length_range] at this
      omega
    exact ⟨(drawS_gk hg2 i).up (by omega), by omega, by omega⟩
  · rw [List.length_map, List.length_range, List.length_range]
    simp only [List.length_cons, List.length_nil]
    omega
  have hlr : (List.range ((m : Int)).toNat).length = m := by rw [List.length_range]; omega
  rw [hlr]
  have hone : Mon p m (drawL g2 p m ++ [1]) := mon_of hp1 (drawL_len _ _ _) (drawL_bd hg2 hpb.1 m)
  have hg3 := drawS_gk (b := p) hg2 m
  show Fin _ [.bo gg (.li (drawS g2 p m)), .sh (.int p), .sh (.int (m : Int)), .ow (.li (drawL g2 p m ++ [1])), .non, .non, .non, .non, .non, .non, .non, .non] _
  generalize drawL g2 p m ++ [1] = one at hone ⊢
  generalize drawS g2 p m = g3 at hg3 ⊢
  clear hg2
  -- the double one
  have hlow := rndG_bd (b := p) hg3 hpb.1
  have hg4 := rndG_gk (b := p) hg3
  refine fin_seq (ds_set (DE.ofN (dn_liC (da_cons (de_callB rfl (by trivial) (da_cons (de_var rfl) da_nil) rfl rfl has_bo ⟨g3, p, rfl, rfl, ⟨hg3.up (by omega), hpb⟩, rfl, rfl⟩) (da_cons de_int da_nil)) rfl (Nat.le_of_ble_eq_true rfl)))) ?_
  show Fin _ [.bo gg (.li (rndG g3 p).2), .sh (.int p), .sh (.int (m : Int)), .ow (.li one), .non, .sh (.li [(rndG g3 p).1, 1]), .non, .non, .non, .non, .non, .non] _
  generalize (rndG g3 p).1 = low at hlow ⊢
  generalize (rndG g3 p).2 = g4 at hg4 ⊢
  clear hg3
  have hX : ∃ n, n ≤ 3 ∧ Mon p n (if decide ((m : Int) < 5) = true then [(rndG g4 p).1, 1] else (List.range (List.range ((3 : Int)).toNat).length).map (drawV g4 p) ++ [1]) := by
    split
    · have hv := rndG_bd (b := p) hg4 hpb.1
      exact ⟨1, by decide, mon_of (y := [(rndG g4 p).1]) hp1 rfl (fun x hx => by rw [List.mem_singleton.mp hx]; exact hv)⟩
    · exact ⟨3, by decide, mon_of hp1 (drawL_len g4 p 3) (drawL_bd hg4 hpb.1 3)⟩
  have hg5 : Gk (10000 + 1 + 1 + (m : Int) + 1 + 3) (if decide ((m : Int) < 5) = true then (rndG g4 p).2 else drawS g4 p (List.range ((3 : Int)).toNat).length) := by
    split
    · exact (rndG_gk (b := p) hg4).up (by omega)
    · exact (drawS_gk (b := p) hg4 3).up (by omega)
  have hX1 := hX.choose_spec.1
  have hX2 := hX.choose_spec.2.len
  have hll := pmul_len p [low, 1] [low, 1]
  have hlc : ∀ x ∈ [low, 1], CMul1 x := fun x hx => by
    rcases List.mem_cons.mp hx with rfl | hx
    · exact ⟨by omega, by omega⟩
    · rw [List.mem_singleton.mp hx]
      exact ⟨by decide, by decide⟩
  refine fin_seq (ds_set (DE.ofN (dn_call (da_cons (de_var rfl) (da_cons (DE.ofN (dn_call (da_cons (de_var rfl) (da_cons (de_var rfl) (da_cons (de_var rfl) da_nil))) rfl ⟨p, [low, 1], [low, 1], rfl, ⟨hpb.1, Nat.le_of_ble_eq_true rfl, Nat.le_of_ble_eq_true rfl, hlc⟩, rfl⟩)) (da_cons (de_ifL (dt_test (de_op (de_var rfl) de_int rd_B0)) (fun hi => DE.ofN (dn_liC (da_cons (de_callB rfl (by trivial) (da_cons (de_var rfl) da_nil) rfl rfl has_bo ⟨g4, p, rfl, rfl, ⟨hg4.up (by omega), hpb⟩, rfl, rfl⟩) (da_cons de_int da_nil)) rfl (Nat.le_of_ble_eq_true rfl)))
    (fun hi => DE.ofN (dn_op (DE.ofN (dn_lcSt (l := List.range ((3 : Int)).toNat) (e := fun k : Nat => .int (k : Nat)) (fun i => [.bo gg (.li (drawS g4 p i)), .sh (.int p), .sh (.int (m : Int)), .ow (.li one), .non, .sh (.li [low, 1]), .non, .non, .non, .non, .non, .non]) (drawV g4 p) (dw_rng1 (da_cons de_int da_nil) ?_) ?_ rfl (fun i x hx => ⟨_, _, dgc_name (by simp), de_callB rfl (by trivial) (da_cons (de_var rfl) da_nil) rfl rfl has_bo ⟨drawS g4 p i, p, rfl, rfl, ?_, rfl, rfl⟩, rfl⟩))) (DE.ofN (dn_liC (da_cons de_int da_nil) rfl (Nat.le_of_ble_eq_true rfl))) (rn_catI ?_)))) da_nil))) rfl ⟨p, _, _, rfl, ?_, rfl⟩))) ?_
  · exact ⟨by decide, by decide⟩
  · exact (by decide : (List.range ((3 : Int)).toNat).length ≤ 100000)
  · have hi : i < 3 := (List.getElem?_eq_some_iff.mp hx).1
    exact ⟨(drawS_gk hg4 i).up (by omega), hpb⟩
  · rw [List.length_map, List.length_range]
    exact (by decide : (List.range ((3 : Int)).toNat).length + 1 ≤ 100000)
  · refine ⟨hpb.1, Nat.le_trans hll (Nat.le_of_ble_eq_true rfl), by omega, (nm_norm hpb.1 _ : Nm p (pmul p [low, 1] [low, 1])).cm hpb.2⟩
  generalize (if decide ((m : Int) < 5) = true then [(rndG g4 p).1, 1] else (List.range (List.range ((3 : Int)).toNat).length).map (drawV g4 p) ++ [1]) = X at hX hX1 hX2 ⊢
  generalize (if decide ((m : Int) < 5) = true then (rndG g4 p).2 else drawS g4 p (List.range ((3 : Int)).toNat).length) = g5 at hg5 ⊢
  clear hg4 hX1 hX2
  obtain ⟨n3, hn3, hX⟩ := hX
  have hlowm : Mon p 1 [low, 1] := mon_of (y := [low]) hp1 rfl (fun x hx => by rw [List.mem_singleton.mp hx]; exact hlow)
  have htw := twice_ok hP hlow hX hn3
  have htm : Mon p (1 + 1 + n3) (pmul p (pmul p [low, 1] [low, 1]) X) := mon_mul hp1 (mon_mul hp1 hlowm hlowm) hX
  show Fin _ [.bo gg (.li g5), .sh (.int p), .sh (.int (m : Int)), .ow (.li one), .non, .sh (.li [low, 1]), .sh (.li (pmul p (pmul p [low, 1] [low, 1]) X)), .non, .non, .non, .non, .non] _
  generalize pmul p (pmul p [low, 1] [low, 1]) X = twice at htw htm ⊢
  clear hX
  -- the first polynomial is told rightly
  have hol := hone.len
  have hor := rpd_li (hone.small hP) (by omega)
  have hoc := hone.crv hP hm
  have hon := hone.nm
  refine fin_when (b := false) (DT.eq (dt_or (dt_not (dt_val (show DE _ _ (.bl true) [.bo gg (.li g5), .sh (.int p), .sh (.int (m : Int)), .ow (.li one), .non, .sh (.li [low, 1]), .sh (.li twice), .non, .non, .non, .non, .non] from ?_))) fun _ => dt_and (dt_test (de_op (de_var rfl) de_int rd_B0)) fun h7 => dt_and (dt_test (de_op (de_var rfl) de_int rd_B0)) fun h6 => dt_test (de_op (de_callL (Inc.refl _) (de_var rfl) rfl (by trivial) da_nil rfl has_ow rfl flat_bl ⟨p, one, rfl, ⟨hP, hon, by omega⟩, rfl⟩) (de_callL (Inc.refl _) (de_var rfl) rfl (by trivial) da_nil rfl has_ow rfl flat_bl ⟨p, one, rfl, ?_, rfl⟩) rd_eqB)) ?_) (fun hb => nomatch hb) (fun _ => ?_)
  · by_cases hs : lsimple p one = true
    · exact de_callH (Inc.r _ _) (de_var rfl) rfl (by trivial) (da_cons (de_callL (Inc.refl _) (de_var rfl) rfl (by trivial) da_nil rfl has_ow rfl flat_bl ⟨p, one, rfl, ⟨hP, hon, by omega⟩, rfl⟩) da_nil) rfl has_ow rfl ⟨p, one, rfl, rfl, by rw [hs], hP, by omega, by rw [hoc, hs], hor, rfl⟩
    · exact de_callL (Inc.l _ _) (de_var rfl) rfl (by trivial) (da_cons (de_callL (Inc.refl _) (de_var rfl) rfl (by trivial) da_nil rfl has_ow rfl flat_bl ⟨p, one, rfl, ⟨hP, hon, by omega⟩, rfl⟩) da_nil) rfl has_ow rfl flat_bl ⟨p, .li one, by rw [show lsimple p one = false by simpa using hs], hP, .li one (by omega), (show one.length ≤ 100 by omega), hor, (by show crvL p one = false; rw [hoc]; simpa using hs), rfl⟩
  · have h7' := of_decide_eq_true h7
    have h6' := of_decide_eq_true h6
    refine ⟨hP, ?_, hon, by omega⟩
    unfold PP at hP
    omega
  · cases e7 : decide (p < 7) with
    | false => rfl
    | true =>
      cases e6 : decide ((m : Int) < 6) with
      | false => rfl
      | true =>
        have h7 := of_decide_eq_true e7
        have h6 := of_decide_eq_true e6
        have h : ¬ lsimple p one = dbl p one := by simpa using simple_dbl (p := p) (by unfold PP at hP; omega) hone (by omega)
        rw [decide_eq_false h]
        rfl
  refine fin_freeze (i := 3) rfl ?_
  -- the double one is refused
  have htl := htm.len
  refine fin_when (b := false) (DT.eq (dt_not (dt_val (de_callP (Inc.l _ _) (da_cons (de_var rfl) (da_cons (de_var rfl) (da_cons de_bl da_nil))) rfl ⟨p, .li twice, rfl, hP, .li twice (by omega), (show twice.length ≤ 100 by omega), rpd_li (htm.small hP) (by omega), ?_, rfl⟩))) rfl) (fun hb => nomatch hb) (fun _ => ?_)
  · show crvL p twice = false
    rw [crv_eq hP (by omega), htw, Bool.and_false, Bool.and_false, Bool.and_false]
  -- another one
  have hat := rndG_bd (b := (m : Int)) hg5 (by omega)
  have hg6 := rndG_gk (b := (m : Int)) hg5
  refine fin_seq (ds_set (de_callB rfl (by trivial) (da_cons (de_var rfl) da_nil) rfl rfl has_bo ⟨g5, (m : Int), rfl, rfl, ⟨hg5.up (by omega), by omega, by omega⟩, rfl, rfl⟩)) ?_
  show Fin _ [.bo gg (.li (rndG g5 (m : Int)).2), .sh (.int p), .sh (.int (m : Int)), .sh (.li one), .non, .sh (.li [low, 1]), .sh (.li twice), .sh (.int (rndG g5 (m : Int)).1), .non, .non, .non, .non] _
  generalize (rndG g5 (m : Int)).1 = at9 at hat ⊢
  generalize (rndG g5 (m : Int)).2 = g6 at hg6 ⊢
  clear hg5
  obtain ⟨k, rfl⟩ : ∃ k : Nat, at9 = (k : Int) := ⟨at9.toNat, by omega⟩
  have hc := rndG_bd (b := p) hg6 hpb.1
  refine fin_seq (ds_set (DE.ofN (dn_op (DE.ofN (dn_op (DE.ofN (dn_sliceI (de_var rfl) do_none (do_some (de_var rfl)))) (DE.ofN (dn_liC (da_cons (de_callB rfl (by trivial) (da_cons (de_var rfl) da_nil) rfl rfl has_bo ⟨g6, p, rfl, rfl, ⟨hg6.up (by omega), hpb⟩, rfl, rfl⟩) da_nil) rfl (Nat.le_of_ble_eq_true rfl))) (rn_catI ?_))) (DE.ofN (dn_sliceI (de_var rfl) (do_some (de_op (de_var rfl) de_int rd_I0)) do_none)) (rn_catI ?_)))) ?_
  · have := cut_len one none (some (k : Int))
    simp only [List.length_cons, List.length_nil]
    omega
  · have := cut_len one none (some (k : Int))
    have := cut_len one (some ((k : Int) + 1)) none
    rw [List.length_append]
    simp only [List.length_cons, List.length_nil]
    omega
  have hother := mon_swap (k := k) hone (by omega) hc
  show Fin _ [.bo gg (.li (rndG g6 p).2), .sh (.int p), .sh (.int (m : Int)), .sh (.li one), .non, .sh (.li [low, 1]), .sh (.li twice), .sh (.int (k : Int)), .sh (.li (cut one none (some (k : Int)) ++ [(rndG g6 p).1] ++ cut one (some ((k : Int) + 1)) none)), .non, .non, .non] _
  generalize cut one none (some (k : Int)) ++ [(rndG g6 p).1] ++ cut one (some ((k : Int) + 1)) none = other at hother ⊢
  generalize (rndG g6 p).2 = g7
  have hol2 := hother.len
  have hoc2 := hother.crv hP hm
  refine fin_when (b := false) (DT.eq (dt_and (dt_val (de_call (da_cons (de_var rfl) (da_cons (de_var rfl) da_nil)) rfl ⟨p, one, rfl, ⟨hP, hon, by omega⟩, rfl⟩)) fun h1 => dt_and (dt_val (de_call (da_cons (de_var rfl) (da_cons (de_var rfl) da_nil)) rfl ⟨p, other, rfl, ⟨hP, hother.nm, by omega⟩, rfl⟩)) fun h2 => dt_test (de_op (de_own (b := decide (one = other)) (DE.ofN (dn_makeX (Inc.l _ _) (da_cons (de_var rfl) (da_cons (de_var rfl) da_nil)) rfl ⟨p, one, rfl, rfl, hP, by omega, by rw [hoc, h1], rfl, rfl⟩)) (DE.ofN (dn_makeX (Inc.l _ _) (da_cons (de_var rfl) (da_cons (de_var rfl) da_nil)) rfl ⟨p, other, rfl, rfl, hP, by omega, by rw [hoc2, h2], rfl, rfl⟩)) T.is_Curve T.nf_C ⟨p, one, _, _, rfl, .inl ⟨p, other, rfl, by simp⟩, rfl⟩) (de_op (de_var rfl) (de_var rfl) rd_eqL) rd_neB)) ?_) (fun hb => nomatch hb) (fun _ => ?_)
  · simp
  -- what is no curve
  have c1 := cut_len one none (some (-1))
  have c2 := cut_len one (some 1) none
  have c3 := cut_len one none (some 1)
  refine fin_seq (ds_set (DE.ofN (dn_lst (da_cons (DE.ofN (dn_op (DE.ofN (dn_op (de_var rfl) (DE.ofN (dn_op (DE.ofN (dn_liC (da_cons de_int da_nil) rfl (Nat.le_of_ble_eq_true rfl))) (de_op de_int (de_var rfl) rd_I0) (rn_repI ?_))) (rn_catI ?_))) (DE.ofN (dn_liC (da_cons de_int da_nil) rfl (Nat.le_of_ble_eq_true rfl))) (rn_catI ?_))) (da_cons (DE.ofN (dn_op (DE.ofN (dn_op (de_var rfl) (DE.ofN (dn_op (DE.ofN (dn_liC (da_cons de_int da_nil) rfl (Nat.le_of_ble_eq_true rfl))) (de_op de_int (de_var rfl) rd_I0) (rn_repI ?_))) (rn_catI ?_))) (DE.ofN (dn_liC (da_cons de_int da_nil) rfl (Nat.le_of_ble_eq_true rfl))) (rn_catI ?_))) (da_cons (DE.ofN (dn_op (DE.ofN (dn_op (de_var rfl) (DE.ofN (dn_op (DE.ofN (dn_liC (da_cons de_int da_nil) rfl (Nat.le_of_ble_eq_true rfl))) (de_op de_int (de_var rfl) rd_I0) (rn_repI ?_))) (rn_catI ?_))) (DE.ofN (dn_liC (da_cons de_int da_nil) rfl (Nat.le_of_ble_eq_true rfl))) (rn_catI ?_))) da_nil))) (Nat.le_of_ble_eq_true rfl)))) ?_
  all_goals try first | exact ⟨by omega, by omega⟩ | (simp only [List.length_append, List.length_replicate, List.length_cons, List.length_nil]; omega)
  refine fin_seq (ds_all (dw_list (DE.ofN (dn_op (de_var rfl) (DE.ofN (dn_lst (da_cons (DE.ofN (dn_sliceI (de_var rfl) (do_some de_int) do_none)) (da_cons (DE.ofN (dn_op (de_var rfl) (DE.ofN (dn_liC (da_cons de_int da_nil) rfl (Nat.le_of_ble_eq_true rfl))) (rn_catI ?_))) (da_cons (DE.ofN (dn_op (DE.ofN (dn_sliceI (de_var rfl) do_none (do_some (de_un de_int ud_neg)))) (DE.ofN (dn_liC (da_cons de_int da_nil) rfl (Nat.le_of_ble_eq_true rfl))) (rn_catI ?_))) (da_cons (DE.ofN (dn_liC da_nil rfl (Nat.le_of_ble_eq_true rfl))) (da_cons (DE.ofN (dn_liC (da_cons de_int da_nil) rfl (Nat.le_of_ble_eq_true rfl))) (da_cons de_non (da_cons (de_tupI (de_var rfl)) (da_cons de_str (da_cons (DE.ofN (dn_op (DE.ofN (dn_lst (da_cons de_non da_nil) (Nat.le_of_ble_eq_true rfl))) (de_op (de_var rfl) de_int rd_I0) (rn_rep ?_))) (da_cons (DE.ofN (dn_op (DE.ofN (dn_lst (da_cons de_bl da_nil) (Nat.le_of_ble_eq_true rfl))) (de_op (de_var rfl) de_int rd_I0) (rn_rep ?_))) (da_cons (DE.ofN (dn_op (DE.ofN (dn_liC (da_cons (de_var rfl) da_nil) rfl (Nat.le_of_ble_eq_true rfl))) (DE.ofN (dn_sliceI (de_var rfl) (do_some de_int) do_none)) (rn_catI ?_))) (da_cons (DE.ofN (dn_op (DE.ofN (dn_op (DE.ofN (dn_op (DE.ofN (dn_sliceI (de_var rfl) do_none (do_some de_int))) (DE.ofN (dn_liC (da_cons (de_un de_int ud_neg) da_nil) rfl (Nat.le_of_ble_eq_true rfl))) (rn_catI ?_))) (DE.ofN (dn_op (DE.ofN (dn_liC (da_cons de_int da_nil) rfl (Nat.le_of_ble_eq_true rfl))) (de_op (de_var rfl) de_int rd_I0) (rn_repI ?_))) (rn_catI ?_))) (DE.ofN (dn_liC (da_cons de_int da_nil) rfl (Nat.le_of_ble_eq_true rfl))) (rn_catI ?_))) da_nil)))))))))))) (Nat.le_of_ble_eq_true rfl))) (rn_cat ?_)))) (fun x hx => ?_)) ?_
  all_goals try first | exact ⟨by omega, by omega⟩ | (simp only [List.length_append, List.length_replicate, List.length_cons, List.length_nil]; omega)
  · have hbt : Bent p x := by
      have hsm : Sml one := hone.small hP
      have e1 : cut one (some 1) none = one.drop 1 := cut_drop one 1 (by omega)
      have e1l : (cut one (some 1) none).length = m := by rw [e1, List.length_drop]; omega
      have e2 : ((m : Int) + 1).toNat = m + 1 := by omega
      have s1 := sml_one (x := 1) (by decide)
      have sp : Sml [p] := sml_one (by unfold PP at hP; omega)
      simp only [List.cons_append, List.nil_append, List.mem_cons, List.not_mem_nil, or_false, e2] at hx
      rcases hx with rfl | rfl | rfl | rfl | rfl | rfl | rfl | rfl | rfl | rfl | rfl | rfl | rfl | rfl | rfl
      · refine bent_len ?_ (sml_app (sml_app hsm (sml_rep _)) s1) ?_ <;> (simp only [List.length_append, List.length_replicate, List.length_cons, List.length_nil]; omega)
      · refine bent_len ?_ (sml_app (sml_app hsm (sml_rep _)) s1) ?_ <;> (simp only [List.length_append, List.length_replicate, List.length_cons, List.length_nil]; omega)
      · refine bent_len ?_ (sml_app (sml_app hsm (sml_rep _)) s1) ?_ <;> (simp only [List.length_append, List.length_replicate, List.length_cons, List.length_nil]; omega)
      · exact bent_len (by omega) (sml_cut hsm _ _) (by omega)
      · refine bent_len ?_ (sml_app hsm s1) ?_ <;> (simp only [List.length_append, List.length_cons, List.length_nil]; omega)
      · refine bent_last ?_ (sml_app (sml_cut hsm _ _) (sml_one (by decide))) (by rw [gZ_snoc]; decide)
        simp only [List.length_append, List.length_cons, List.length_nil]
        omega
      · exact bent_len (by decide) (fun y hy => by simp at hy) (by decide)
      · exact bent_len (by decide) s1 (by decide)
      · exact bent_non p
      · exact bent_tup (by omega) hsm
      · exact bent_11 p
      · exact bent_rep (.inl rfl) (by omega)
      · exact bent_rep (.inr rfl) (by omega)
      · refine bent_out (x := p) ?_ (sml_app sp (sml_cut hsm _ _)) List.mem_cons_self (by unfold okI; rw [decide_eq_false (show ¬ p ≤ p - 1 by omega), Bool.and_false])
        simp only [List.length_append, List.length_cons, List.length_nil]
        omega
      · refine bent_out (x := -1) ?_ (sml_app (sml_app (sml_app (sml_cut hsm _ _) (sml_one (by decide))) (sml_rep _)) s1) (by simp) (by unfold okI; rw [decide_eq_false (show ¬ (-1 : Int) ≥ 0 by decide), Bool.false_and])
        simp only [List.length_append, List.length_replicate, List.length_cons, List.length_nil]
        omega
    obtain ⟨vk, lv, rp, cr, nc⟩ := hbt
    cases vk with
    | li xs h100 =>
      have nc := nc xs rfl
      refine tn_nx dg_name (ds_seq (ds_ifF (DT.eq (b := true && (inV (.int (xs.length : Int)) [.int 2, .int 4, .int 6, .int 8] && (decide (gZ xs (-1) = 1) && decide (xs.filter (fun i => !okI p i) = []))))
        (dt_and (dt_val (de_cb (da_cons (de_var rfl) (da_cons de_ty da_nil)) (cd_isiT trivial rfl))) fun _ => dt_and (dt_test (de_op (de_cb (da_cons (de_var rfl) da_nil) cd_lenI) (DE.ofN (dn_liC (da_cons de_int (da_cons de_int (da_cons de_int (da_cons de_int da_nil)))) rfl (Nat.le_of_ble_eq_true rfl))) (rd_inI))) fun hq => dt_and (dt_test (de_op (de_op (de_var rfl) (de_un de_int ud_neg) (rd_ixZ ?_)) de_int (RDeq (eqv_one _) (rd_eqD (shp_int _) (shp_int _))))) fun _ =>
          dt_test (de_op (DE.ofN (DN.eq (dn_lcBI (fun i => !okI p i) id (dw_li (de_var rfl)) ?_ rfl fun x hx => ⟨_, dgc_name (by simp), DT.eq (dt_or (dt_val (de_cb (da_cons (de_var rfl) (da_cons de_ty da_nil)) (cd_isiT trivial rfl))) fun hq1 => (dt_or (dt_not (dt_val (de_cb (da_cons (de_var rfl) (da_cons de_ty da_nil)) (cd_isiT trivial rfl)))) fun hq2 => (dt_not (dt_test (de_chain de_int (de_var rfl) (de_var rfl) (rd_B0) (rd_B0)))))) ?_, fun hf => de_var rfl, rfl⟩) (by rw [List.map_id]))) (DE.ofN (dn_liC da_nil rfl (Nat.le_of_ble_eq_true rfl))) rd_eqL)) (by rw [Bool.true_and]; exact nc)) ds_next) (ds_ifF (DT.eq (dt_not (dt_val (de_callP (Inc.l _ _) (da_cons (de_var rfl) (da_cons (de_var rfl) (da_cons de_bl da_nil))) rfl ⟨p, _, rfl, hP, .li xs h100, lv, rp, cr, rfl⟩))) rfl) ds_next)) (by (try dsimp only [List.set_cons_zero, List.set_cons_succ]); (repeat (first | exact Weak.nil | refine Weak.keep ?_ | refine Weak.drop ?_)))
      · have := inV_4 hq
        omega
      · omega
      · have e1 : decide (x < p) = decide (x ≤ p - 1) := by
          by_cases h : x < p
          · rw [decide_eq_true h, decide_eq_true (by omega)]
          · rw [decide_eq_false h, decide_eq_false (by omega)]
        show (false || (!true || !(decide (0 ≤ x) && decide (x < p)))) = _
        rw [e1]
        rfl
    | rep d n hn hd =>
      refine tn_nx dg_name (ds_seq (ds_ifF (DT.eq (b := true && (inV (.int ((List.replicate (n + 1) d).length : Int)) [.int 2, .int 4, .int 6, .int 8] && (PyData.eqv (toPy (dZ (List.replicate (n + 1) d) (-1))) (toPy (.int 1)) && false)))
        (dt_and (dt_val (de_cb (da_cons (de_var rfl) (da_cons de_ty da_nil)) (cd_isiT trivial rfl))) fun _ => dt_and (dt_test (de_op (de_cb (da_cons (de_var rfl) da_nil) cd_len) (DE.ofN (dn_liC (da_cons de_int (da_cons de_int (da_cons de_int (da_cons de_int da_nil)))) rfl (Nat.le_of_ble_eq_true rfl))) (rd_inI))) fun hq => dt_and (dt_test (de_op (de_op (de_var rfl) (de_un de_int ud_neg) (rd_ixLZ ?_)) de_int (rd_eqD (by rw [dZ_rep]; exact shp_sc hd) (shp_int _)))) fun _ =>
          dt_test (de_op (DE.ofN (dn_lcB (e := fun d => d) (l := List.replicate (n + 1) d) (fun _ => true) (fun d => d) (by rw [List.map_id']; exact (dw_list (de_var rfl))) ?_ rfl fun x hx => ⟨_, dgc_name (by simp), ?_, fun hf => de_var rfl, rfl⟩)) (DE.ofN (dn_lst da_nil (Nat.le_of_ble_eq_true rfl))) (RDeq (rep_eq hd) (rd_eqD (rep_shp hd hn) rfl)))) (by rw [Bool.and_false, Bool.and_false, Bool.and_false])) ds_next) (ds_ifF (DT.eq (dt_not (dt_val (de_callP (Inc.l _ _) (da_cons (de_var rfl) (da_cons (de_var rfl) (da_cons de_bl da_nil))) rfl ⟨p, _, rfl, hP, .rep d n hn hd, lv, rp, cr, rfl⟩))) rfl) ds_next)) (by (try dsimp only [List.set_cons_zero, List.set_cons_succ]); (repeat (first | exact Weak.nil | refine Weak.keep ?_ | refine Weak.drop ?_)))
      · rw [List.length_replicate]
        omega
      · rw [List.length_replicate]
        omega
      · have e := (List.mem_replicate.mp hx).2
        subst e
        rcases hd with rfl | rfl
        · exact DT.eq (dt_or (dt_val (de_cb (da_cons (de_var rfl) (da_cons de_ty da_nil)) (cd_isiT (b := false) (by trivial) rfl))) fun _ => dt_orT (DT.eq (dt_not (dt_val (de_cb (da_cons (de_var rfl) (da_cons de_ty da_nil)) (cd_isiT (b := false) (by trivial) rfl)))) rfl)) rfl
        · exact dt_orT (dt_val (de_cb (da_cons (de_var rfl) (da_cons de_ty da_nil)) (cd_isiT (b := true) (by trivial) rfl)))
    | non => exact tn_nx dg_name (ds_seq (ds_ifF (dt_andF (dt_val (de_cb (da_cons (de_var rfl) (da_cons de_ty da_nil)) (cd_isiT (b := false) (by trivial) rfl)))) ds_next) (ds_ifF (DT.eq (dt_not (dt_val (de_callP (Inc.l _ _) (da_cons (de_var rfl) (da_cons (de_var rfl) (da_cons de_bl da_nil))) rfl ⟨p, _, rfl, hP, .non, lv, rp, cr, rfl⟩))) rfl) ds_next)) (by (try dsimp only [List.set_cons_zero, List.set_cons_succ]); (repeat (first | exact Weak.nil | refine Weak.keep ?_ | refine Weak.drop ?_)))
    | str y => exact tn_nx dg_name (ds_seq (ds_ifF (dt_andF (dt_val (de_cb (da_cons (de_var rfl) (da_cons de_ty da_nil)) (cd_isiT (b := false) (by trivial) rfl)))) ds_next) (ds_ifF (DT.eq (dt_not (dt_val (de_callP (Inc.l _ _) (da_cons (de_var rfl) (da_cons (de_var rfl) (da_cons de_bl da_nil))) rfl ⟨p, _, rfl, hP, .str y, lv, rp, cr, rfl⟩))) rfl) ds_next)) (by (try dsimp only [List.set_cons_zero, List.set_cons_succ]); (repeat (first | exact Weak.nil | refine Weak.keep ?_ | refine Weak.drop ?_)))
    | tup l => exact tn_nx dg_name (ds_seq (ds_ifF (dt_andF (dt_val (de_cb (da_cons (de_var rfl) (da_cons de_ty da_nil)) (cd_isiT (b := false) (by trivial) rfl)))) ds_next) (ds_ifF (DT.eq (dt_not (dt_val (de_callP (Inc.l _ _) (da_cons (de_var rfl) (da_cons (de_var rfl) (da_cons de_bl da_nil))) rfl ⟨p, _, rfl, hP, .tup l, lv, rp, cr, rfl⟩))) rfl) ds_next)) (by (try dsimp only [List.set_cons_zero, List.set_cons_succ]); (repeat (first | exact Weak.nil | refine Weak.keep ?_ | refine Weak.drop ?_)))
  exact fin_ret de_bl ⟨rfl, _, rfl⟩

end
end K7

end

section
set_option Elab.async false
set_option linter.all false
set_option maxRecDepth 100000
set_option autoImplicit false
set_option maxHeartbeats 4000000
namespace K7
open PySem PySem.Spec PyProof.Rows L2 DL Mi
local macro_rules | `(tactic| walk_at "side") => `(tactic| first | trivial | assumption | omega | exact .inl (by omega) | exact .inr (by omega) | ((try simp only [List.length_append, List.length_replicate, List.length_map, List.length_range, List.mem_range, List.length_cons, List.length_nil, List.length_dropLast, List.length_set, gZ_gI, setZ_len] at *); (repeat' (first | apply And.intro | split)) <;> (first | assumption | omega)) | fail "side")
section
variable {P : Program} {w : World} {K : PySem.W.Frag} {mg : Str → Option Value} {base : Heap}
def S_law (K : PySem.W.Frag) (xs : List Dt) (d : Dt) : Prop := ∃ (ns : List Int) (dsc : Dt), xs = [dsc] ∧ Scr K dsc ns ∧ d = .bl true
theorem ok_law (T : Txt P K mg) : FnG P w K mg base (L2.CX P w) 12 T.f_law T.fd_law ["_law_script"] (SpP 1 (S_law K)) := by
  refine fng_of T.F_law sc_law len_P (fun cdv A outer s H vs Q E hG hr h => ⟨_, (pss_cons (ps_for (passes_of rfl) rfl (pi_range1 (by rfl) T.n_range (pa_cons pe_int pa_nil)) (pg_name (i := 1) sc_law.nd rfl (by first | exact Or.inl rfl | exact Or.inr rfl)) (pss_one (ps_if (pt_not (pt_val (pe_callG (ok_l_right T) hG (hr.mono (by decide)) (by rfl) T.g_l_right T.F_l_right.kp T.b_l_right .nil passL (pa_cons (pe_call (ok_l_generator T) (hr.mono (by decide)) (by rfl) T.g_l_generator T.F_l_generator.kp T.b_l_generator .nil pass0 (pa_cons (pv 0) (pa_cons (pv 1) pa_nil))) pa_nil)))) (pss_one (ps_ret pe_bl)) pss_nil)))
      (pss_one (ps_ret (pe_and (pe_cmpR op_isBl (pe_cmpR (op_own (ok_Curve_eq T) T.eq_Curve T.eqf_Curve T.b_Curve_eq pass0 (hr.mono (by decide))) (pe_make T.mk_Curve (ok_Curve_init T) (hr.mono (by decide)) (by rfl) T.gC_Curve T.b_Curve_init .nil passL (pa_cons pe_int (pa_cons (pe_lst (pa_cons pe_int (pa_cons pe_int pa_nil))) pa_nil))) (pe_make T.mk_Curve (ok_Curve_init T) (hr.mono (by decide)) (by rfl) T.gC_Curve T.b_Curve_init .nil passL (pa_cons pe_int (pa_cons (pe_lst (pa_cons pe_int (pa_cons pe_int pa_nil))) pa_nil))) (nomark _)) pe_bl (nomark _)) (pe_and (pe_cmpR op_eq (pe_meth0 (pe_make T.mk_Curve (ok_Curve_init T) (hr.mono (by decide)) (by rfl) T.gC_Curve T.b_Curve_init .nil passL (pa_cons pe_int (pa_cons (pe_lst (pa_cons pe_int (pa_cons pe_int pa_nil))) pa_nil))) T.cl_Curve T.m_Curve_genus (ok_Curve_genus T) (hr.mono (by decide)) T.b_Curve_genus .nil pass0 ) pe_int (nomark _)) (pe_one (pe_cmpR op_eq (pe_meth0 (pe_make T.mk_Curve (ok_Curve_init T) (hr.mono (by decide)) (by rfl) T.gC_Curve T.b_Curve_init .nil passL (pa_cons pe_int (pa_cons (pe_lst (pa_cons pe_int (pa_cons pe_int (pa_cons pe_int (pa_cons pe_int (pa_cons pe_int (pa_cons pe_int (pa_cons pe_int (pa_cons pe_int pa_nil))))))))) pa_nil))) T.cl_Curve T.m_Curve_genus (ok_Curve_genus T) (hr.mono (by decide)) T.b_Curve_genus .nil pass0 ) pe_int (nomark _)))))))), go_P h fun xs d hS => ?_⟩)
  obtain ⟨ns, dsc, rfl, hsc, rfl⟩ := hS
  show Fin _ [.sh dsc, .non] _
  refine fin_seq (ds_all (xs := (List.range ((3 : Int)).toNat).map fun i => Dt.int (i : Nat)) (dw_rng1 (da_cons de_int da_nil) ⟨by decide, by decide⟩) (fun x hx => ?_)) ?_
  · obtain ⟨k, hk, rfl⟩ := List.mem_map.mp hx
    have hk := List.mem_range.mp hk
    have hk : k < 3 := hk
    exact tn_nx dg_name (ds_ifF (DT.eq (dt_not (dt_val (de_callNG (dn_call (da_cons (de_var rfl) (da_cons (de_var rfl) da_nil)) rfl ⟨ns, dsc, (k : Int), rfl, ⟨hsc, by omega, by omega⟩, rfl⟩) rfl ⟨_, rfl, rfl, ⟨_, _, _, rfl, by omega, by omega, Int.emod_nonneg _ (by decide), by have := Int.emod_lt_of_pos (cellI ns (k : Int)) (show (0 : Int) < 2147483647 by decide); omega⟩, rfl⟩))) rfl) ds_next) (by (try dsimp only [List.set_cons_zero, List.set_cons_succ]); (repeat (first | exact Weak.nil | refine Weak.keep ?_ | refine Weak.drop ?_)))
  refine fin_ret (de_and (a := true) (DEq2 (b := true) (by decide) (de_op (de_own (b := false) (DE.ofN (dn_makeX (Inc.l _ _) (da_cons de_int (da_cons (DE.ofN (dn_liC (da_cons de_int (da_cons de_int da_nil)) rfl (Nat.le_of_ble_eq_true rfl))) da_nil)) rfl ⟨3, [0, 1], rfl, rfl, .inl rfl, by decide, by decide +kernel, rfl, rfl⟩)) (DE.ofN (dn_makeX (Inc.l _ _) (da_cons de_int (da_cons (DE.ofN (dn_liC (da_cons de_int (da_cons de_int da_nil)) rfl (Nat.le_of_ble_eq_true rfl))) da_nil)) rfl ⟨5, [0, 1], rfl, rfl, .inr (.inl rfl), by decide, by decide +kernel, rfl, rfl⟩)) T.is_Curve T.nf_C ⟨3, [0, 1], _, _, rfl, .inl ⟨5, [0, 1], rfl, by decide⟩, rfl⟩) de_bl rd_isB)) fun _ => de_and (a := true) (b := true) (DEq2 (b := true) (by decide) (de_op (de_meth (DE.ofN (dn_makeX (Inc.l _ _) (da_cons de_int (da_cons (DE.ofN (dn_liC (da_cons de_int (da_cons de_int da_nil)) rfl (Nat.le_of_ble_eq_true rfl))) da_nil)) rfl ⟨7, [3, 1], rfl, rfl, .inr (.inr (.inl rfl)), by decide, by decide +kernel, rfl, rfl⟩)) da_nil rfl rfl ⟨7, [3, 1], rfl, trivial, rfl⟩) de_int rd_eqI)) fun _ => DEq2 (b := true) (by decide) (de_op (de_meth (DE.ofN (dn_makeX (Inc.l _ _) (da_cons de_int (da_cons (DE.ofN (dn_liC (da_cons de_int (da_cons de_int (da_cons de_int (da_cons de_int (da_cons de_int (da_cons de_int (da_cons de_int (da_cons de_int da_nil)))))))) rfl (Nat.le_of_ble_eq_true rfl))) da_nil)) rfl ⟨13, [1, 0, 0, 0, 0, 0, 0, 1], rfl, rfl, .inr (.inr (.inr (.inr rfl))), by decide, by decide +kernel, rfl, rfl⟩)) da_nil rfl rfl ⟨13, [1, 0, 0, 0, 0, 0, 0, 1], rfl, trivial, rfl⟩) de_int rd_eqI)) rfl

end
end K7

end

section
set_option Elab.async false
set_option linter.all false
set_option maxRecDepth 100000
set_option autoImplicit false
set_option maxHeartbeats 4000000
/-! the end: a law whose def is promised where no guard stands -/
namespace DL
open PySem PySem.Spec PyProof.Rows L2
/-- at the call of the law: H keeps at most the script (at a) -/
theorem head_G {P : Program} {w : World} {K : PySem.W.Frag} {mg mb : Str → Option Value} {CX : CXT} {k : Nat} {fa a : Addr} {fd : FuncData} {x : Str} {S : List Dt → Dt → Prop} {s₁ : Shared} {vs : List Value} {d : Dt} {H : Hp}
    (KX : K.In s₁.heap) (hns : s₁.heap.Ns mainGlobals mg) (hb : s₁.heap.Ns builtinsNs mb) (hbb : ∀ x : Str, x ≠ "__name__" → mb x = bootBuiltins x) (hlim : s₁.heap.NoLimit) (hg : s₁.gens = #[])
    (ha : s₁.heap.get? a = some { cls := .type "list", data := .seq vs.toArray }) (hr : Room k callerA)
    (F : ∀ base : Heap, K.In base → base.Ns mainGlobals mg → FnG P w K mg base CX k fa fd [x] (SpP 1 S)) (hbind : ∀ (s : Shared) (u : Value), BindsTo s fd ⟨[u], []⟩ [(x, u)])
    (hS : S [d] (.bl true)) (hd : Dv (fun b o => H b = some o) (.ref a) d) (hok : HOk P w H s₁.heap) (hA : ∀ b, H b ≠ none → b = a) (hZ : ∀ u, H a = some u → ∃ o xs, u = .frz o (.lst xs)) (hK : H a ≠ none → K.lookup a = none)
    (hCX : ∀ e s', CX [] H s₁ (fun _ _ _ => False) e s' → False) :
    codeAny (model P w) callerA (.call (.ref fa) ⟨[.ref a], []⟩) (fun r s' => r = .ok (.ret (.bool true)) ∧ OldK s₁.heap s'.heap ∧ s'.os = s₁.os ∧ AllBare s'.gens) s₁ := by
  have away : ∀ {b : Addr} {o : Obj}, s₁.heap.get? b = some o → (b = a → H a = none) → (hidT s₁.heap H).get? b = some o := fun {b o} e h => hidT_get e (by
    cases q : H b with
    | none => rfl
    | some u =>
      have z := hA b (by rw [q]; simp)
      have := h z
      rw [← z, q] at this
      cases this)
  have nsT : ∀ {b : Addr} {m : Str → Option Value}, s₁.heap.Ns b m → (hidT s₁.heap H).Ns b m := fun {b m} ⟨o, es, ep, e, dd, r⟩ => ⟨o, es, ep, away e (fun z => by
    rw [z, ha] at e
    cases e
    have dd' : Data.seq vs.toArray _ = Data.dict es ep := dd
    cases dd'), dd, r⟩
  have kT : K.In (hidT s₁.heap H) := fun b o e => away (KX b o e) fun z => by
    cases q : H a with
    | none => rfl
    | some u =>
      rw [z, hK (by rw [q]; simp)] at e
      cases e
  have mT : Mod K mg (hidT s₁.heap H) := ⟨kT, nsT hns, ⟨mb, nsT hb, hbb⟩, let ⟨mc, h1, h2⟩ := hlim; ⟨mc, nsT h1, h2⟩⟩
  have e0 : Env0 P w K mg (hidT s₁.heap H) callerA [] s₁ H := ⟨rfl, mT, fun b o e => of_hidT e, Nat.le_of_eq (hidT_size _ _), trivial, fun b z => absurd (show b ∈ ([] : List Addr) from z) (by simp), hok, .of_eq hg⟩
  have hsp : SpP 1 S [.ref a] H (fun v _ => v = .bl true) fun _ _ _ => False := ⟨rfl, fun _ => False, [d], .bl true, fun _ z => z.elim, .cons (hd.mono fun b o h => ⟨h, fun z => z⟩) .nil, hS, fun v H' _ hv => inv_bl hv⟩
  refine codeAny_mono ((F _ kT (nsT hns)).run callerA [] s₁ H ⟨[.ref a], []⟩ [.ref a] [.ref a] _ _ rfl hr e0 (hbind s₁ (.ref a)) (.cons rfl .nil) hsp) fun r s' h => ?_
  cases r with
  | error e => exact (hCX e s' h).elim
  | ok fl =>
    cases fl with
    | next => exact False.elim h
    | brk => exact False.elim h
    | cont => exact False.elim h
    | ret u =>
      obtain ⟨v, H', os, bare, un, hok', r', q⟩ := h
      have q : v = .bl true := q
      subst q
      obtain rfl : u = Value.bool true := r'
      refine ⟨rfl, OldK.of_keep fun b o e => ?_, os, bare⟩
      cases q : H b with
      | none => exact un.keep b o e q (fun z => absurd (show b ∈ ([] : List Addr) from z) (by simp)) (by simp)
      | some u =>
        have z := hA b (by rw [q]; simp)
        subst z
        obtain ⟨ob, xs, rfl⟩ := hZ u q
        obtain ⟨e1, _⟩ := hok b _ q
        obtain ⟨e2, _⟩ := hok' b _ (un.frzs b ob _ q)
        rw [e] at e1
        cases e1
        exact e2
end DL

end

section
set_option Elab.async false
set_option linter.all false
set_option maxRecDepth 100000
set_option autoImplicit false
set_option maxHeartbeats 4000000
namespace DL
open PySem PySem.Spec PyProof.Rows L2
/-- the goal that k_head leaves -/
theorem walk_G {l : PySem.W.OpenLaw} {n k : Nat} {q : Program} {loose : List PySem.Str} {XP : (PySem.Str → Option Value) → Heap → Prop} {YP : World → Heap → Prop} {d : DefRec} {K : Params → PySem.W.Frag} {x : PySem.Str} {S : PySem.W.Frag → List Dt → Dt → Prop}
    (hn : l.most = some n) (hn2 : n ≤ sizeLine) (hdf : d.params.defaults = []) (hr : Room k callerA) (hY : ∀ (w : World) (h : Heap), YP w h → (K w.params).In h)
    (F : ∀ (w : World) (mg : PySem.Str → Option Value) (fa : Addr) (h : Heap), (K w.params).In h → h.Ns mainGlobals mg → mg d.name = some (.ref fa) →
      ∃ fd : FuncData, (∀ (s : Shared) (u : Value), BindsTo s fd ⟨[u], []⟩ [(x, u)]) ∧
        ∀ base : Heap, (K w.params).In base → base.Ns mainGlobals mg → FnG l.prog w (K w.params) mg base (L2.CX l.prog w) k fa fd [x] (SpP 1 (S (K w.params))))
    (hS : ∀ (K : PySem.W.Frag) (ns : List Int) (dsc : Dt), ns.length ≤ n → Scr K dsc ns → S K [dsc] (.bl true)) :
    PySem.W.WalkO q loose XP YP l.row.toRowW d [] (fun f vs => PySem.call f vs) := by
  refine Att.attach_call hn hdf fun w s₀ s₁ mg mb fa o pm cd doc a vs ns G Y ho hd hcd hmg hobj hints hlen hg => ?_
  have KX := hY w _ Y
  obtain ⟨fd, hb, hF⟩ := F w mg fa _ KX G.T.g hmg
  have rv := vals_ints hints
  have lenV := hints.length
  have hx : ∀ (H : Hp) (e : Value) (s' : Shared), L2.CX l.prog w [] H s₁ (fun _ _ _ => False) e s' → False := fun H e s' z => by
    obtain ⟨_, _, _, _, _, _, _, _, _, _, _, _, z⟩ := z
    exact z
  cases hk : (K w.params).lookup a with
  | some ob =>
    have e := KX a ob hk
    rw [hobj] at e
    cases e
    have hsc : Scr (K w.params) (.kon a) ns := .inr ⟨a, rfl, fun H => .inr ⟨_, vs.toArray, _, hk, rfl, rfl, rfl, by rw [List.size_toArray, lenV]; exact Nat.le_trans hlen hn2, by simpa using rv⟩⟩
    exact head_G (H := fun _ => none) KX G.T.g G.T.b G.T.builtins G.T.nolimit hg hobj hr hF hb (hS _ ns _ hlen hsc) (.kon a) (fun b u z => by have z' : (none : Option HO) = some u := z; cases z') (fun b z => absurd rfl z) (fun u z => by cases z) (fun z => absurd rfl z) (hx _)
  | none =>
    refine head_G (H := fun b => if b = a then some (.frz { cls := .type "list", data := .seq vs.toArray } (.lst (ns.map V.int))) else none) KX G.T.g G.T.b G.T.builtins G.T.nolimit hg hobj hr hF hb (hS _ ns (.scr ns) hlen (.inl rfl)) (.scr (if_pos rfl)) (fun b u z => ?_) (fun b z => ?_) (fun u z => ?_) (fun _ => hk) (hx _)
    · by_cases hb : b = a
      · have z' := (if_pos hb).symm.trans z
        cases z'
        subst hb
        exact ⟨hobj, by rw [List.length_map]; exact Nat.le_trans hlen hn2, vs, _, rv, hobj⟩
      · have z' := (if_neg hb).symm.trans z
        cases z'
    · by_cases hb : b = a
      · exact hb
      · exact absurd (if_neg hb) z
    · have z' := (if_pos rfl).symm.trans z
      cases z'
      exact ⟨_, _, rfl⟩
end DL

end

section
set_option Elab.async false
set_option linter.all false
set_option maxRecDepth 100000
set_option autoImplicit false
set_option maxHeartbeats 4000000
namespace K7
open PySem PySem.Spec PyProof.Rows L2 DL Mi
theorem _root_.DL.FnG.mono {P : Program} {w : World} {K : PySem.W.Frag} {mg : Str → Option Value} {base : Heap} {CX : CXT} {j k : Nat} {f : Addr} {fd : FuncData} {ps : List Str} {sp : Sp} (F : FnG P w K mg base CX j f fd ps sp) (h : j ≤ k) : FnG P w K mg base CX k f fd ps sp := ⟨F.len, fun A outer s H args us vs Q E hg hr => F.run A outer s H args us vs Q E hg (hr.mono h)⟩
theorem notFirst_self (K : PySem.W.Frag) (C : Addr) : PySem.W.notFirst K C (.ref C) = true := by
  unfold PySem.W.notFirst
  simp
theorem vals_rev : ∀ {vs : List V} {us : List Value}, Vals vs us → Vals vs.reverse us.reverse
  | _, _, .nil => .nil
  | _, _, .cons h t => by
    rw [List.reverse_cons, List.reverse_cons]
    exact (vals_rev t).append (.cons h .nil)
theorem all_mk {P : Program} {w : World} {K : PySem.W.Frag} {h : Heap} {mg : Str → Option Value} {fa : Addr} (X : K.In h) (G : h.Ns mainGlobals mg) (hfa : mg "law" = some (.ref fa))
    {C_CurveError : Addr}
    {C_InvalidPrime : Addr}
    {C_InvalidPolynomial : Addr}
    {C_Curve : Addr}
    {Fis_whole : Addr} {odis_whole anis_whole : Option Addr} {slis_whole : Array (Option Value)} {ocis_whole kVis_whole dcis_whole pmis_whole cdis_whole ctis_whole : Value}
    {Fis_between : Addr} {odis_between anis_between : Option Addr} {slis_between : Array (Option Value)} {ocis_between kVis_between dcis_between pmis_between cdis_between ctis_between : Value}
    {Fcheck_prime : Addr} {odcheck_prime ancheck_prime : Option Addr} {slcheck_prime : Array (Option Value)} {occheck_prime kVcheck_prime dccheck_prime pmcheck_prime cdcheck_prime ctcheck_prime : Value}
    {Fis_poly_list : Addr} {odis_poly_list anis_poly_list : Option Addr} {slis_poly_list : Array (Option Value)} {ocis_poly_list kVis_poly_list dcis_poly_list pmis_poly_list cdis_poly_list ctis_poly_list : Value}
    {Finverse : Addr} {odinverse aninverse : Option Addr} {slinverse : Array (Option Value)} {ocinverse kVinverse dcinverse pminverse cdinverse ctinverse : Value}
    {Ftrimmed : Addr} {odtrimmed antrimmed : Option Addr} {sltrimmed : Array (Option Value)} {octrimmed kVtrimmed dctrimmed pmtrimmed cdtrimmed cttrimmed : Value}
    {Fadded : Addr} {odadded anadded : Option Addr} {sladded : Array (Option Value)} {ocadded kVadded dcadded pmadded cdadded ctadded : Value}
    {Fnegated : Addr} {odnegated annegated : Option Addr} {slnegated : Array (Option Value)} {ocnegated kVnegated dcnegated pmnegated cdnegated ctnegated : Value}
    {Flessened : Addr} {odlessened anlessened : Option Addr} {sllessened : Array (Option Value)} {oclessened kVlessened dclessened pmlessened cdlessened ctlessened : Value}
    {Fscaled : Addr} {odscaled anscaled : Option Addr} {slscaled : Array (Option Value)} {ocscaled kVscaled dcscaled pmscaled cdscaled ctscaled : Value}
    {Fmultiplied : Addr} {odmultiplied anmultiplied : Option Addr} {slmultiplied : Array (Option Value)} {ocmultiplied kVmultiplied dcmultiplied pmmultiplied cdmultiplied ctmultiplied : Value}
    {Fparted : Addr} {odparted anparted : Option Addr} {slparted : Array (Option Value)} {ocparted kVparted dcparted pmparted cdparted ctparted : Value}
    {Fcommon_with : Addr} {odcommon_with ancommon_with : Option Addr} {slcommon_with : Array (Option Value)} {occommon_with kVcommon_with dccommon_with pmcommon_with cdcommon_with ctcommon_with : Value}
    {Fcommon_of : Addr} {odcommon_of ancommon_of : Option Addr} {slcommon_of : Array (Option Value)} {occommon_of kVcommon_of dccommon_of pmcommon_of cdcommon_of ctcommon_of : Value}
    {Fslope_of : Addr} {odslope_of anslope_of : Option Addr} {slslope_of : Array (Option Value)} {ocslope_of kVslope_of dcslope_of pmslope_of cdslope_of ctslope_of : Value}
    {FCurve_init : Addr} {odCurve_init anCurve_init : Option Addr} {slCurve_init : Array (Option Value)} {ocCurve_init kVCurve_init dcCurve_init pmCurve_init cdCurve_init ctCurve_init : Value}
    {FCurve_prime : Addr} {odCurve_prime anCurve_prime : Option Addr} {slCurve_prime : Array (Option Value)} {ocCurve_prime kVCurve_prime dcCurve_prime pmCurve_prime cdCurve_prime ctCurve_prime : Value}
    {FCurve_polynomial : Addr} {odCurve_polynomial anCurve_polynomial : Option Addr} {slCurve_polynomial : Array (Option Value)} {ocCurve_polynomial kVCurve_polynomial dcCurve_polynomial pmCurve_polynomial cdCurve_polynomial ctCurve_polynomial : Value}
    {FCurve_genus : Addr} {odCurve_genus anCurve_genus : Option Addr} {slCurve_genus : Array (Option Value)} {ocCurve_genus kVCurve_genus dcCurve_genus pmCurve_genus cdCurve_genus ctCurve_genus : Value}
    {FCurve_eq : Addr} {odCurve_eq anCurve_eq : Option Addr} {slCurve_eq : Array (Option Value)} {ocCurve_eq kVCurve_eq dcCurve_eq pmCurve_eq cdCurve_eq ctCurve_eq : Value}
    {Fis_curve_poly : Addr} {odis_curve_poly anis_curve_poly : Option Addr} {slis_curve_poly : Array (Option Value)} {ocis_curve_poly kVis_curve_poly dcis_curve_poly pmis_curve_poly cdis_curve_poly ctis_curve_poly : Value}
    {Fl_hash : Addr} {odl_hash anl_hash : Option Addr} {sll_hash : Array (Option Value)} {ocl_hash kVl_hash dcl_hash pml_hash cdl_hash ctl_hash : Value}
    {Fl_random : Addr} {odl_random anl_random : Option Addr} {sll_random : Array (Option Value)} {ocl_random kVl_random dcl_random pml_random cdl_random ctl_random : Value}
    {Fl_cell : Addr} {odl_cell anl_cell : Option Addr} {sll_cell : Array (Option Value)} {ocl_cell kVl_cell dcl_cell pml_cell cdl_cell ctl_cell : Value}
    {Fl_generator : Addr} {odl_generator anl_generator : Option Addr} {sll_generator : Array (Option Value)} {ocl_generator kVl_generator dcl_generator pml_generator cdl_generator ctl_generator : Value}
    {Fl_prime : Addr} {odl_prime anl_prime : Option Addr} {sll_prime : Array (Option Value)} {ocl_prime kVl_prime dcl_prime pml_prime cdl_prime ctl_prime : Value}
    {Fl_trim : Addr} {odl_trim anl_trim : Option Addr} {sll_trim : Array (Option Value)} {ocl_trim kVl_trim dcl_trim pml_trim cdl_trim ctl_trim : Value}
    {Fl_plus : Addr} {odl_plus anl_plus : Option Addr} {sll_plus : Array (Option Value)} {ocl_plus kVl_plus dcl_plus pml_plus cdl_plus ctl_plus : Value}
    {Fl_times : Addr} {odl_times anl_times : Option Addr} {sll_times : Array (Option Value)} {ocl_times kVl_times dcl_times pml_times cdl_times ctl_times : Value}
    {Fl_back : Addr} {odl_back anl_back : Option Addr} {sll_back : Array (Option Value)} {ocl_back kVl_back dcl_back pml_back cdl_back ctl_back : Value}
    {Fl_parted : Addr} {odl_parted anl_parted : Option Addr} {sll_parted : Array (Option Value)} {ocl_parted kVl_parted dcl_parted pml_parted cdl_parted ctl_parted : Value}
    {Fl_rest : Addr} {odl_rest anl_rest : Option Addr} {sll_rest : Array (Option Value)} {ocl_rest kVl_rest dcl_rest pml_rest cdl_rest ctl_rest : Value}
    {Fl_monics : Addr} {odl_monics anl_monics : Option Addr} {sll_monics : Array (Option Value)} {ocl_monics kVl_monics dcl_monics pml_monics cdl_monics ctl_monics : Value}
    {Fl_common : Addr} {odl_common anl_common : Option Addr} {sll_common : Array (Option Value)} {ocl_common kVl_common dcl_common pml_common cdl_common ctl_common : Value}
    {Fl_made : Addr} {odl_made anl_made : Option Addr} {sll_made : Array (Option Value)} {ocl_made kVl_made dcl_made pml_made cdl_made ctl_made : Value}
    {Fl_is_double : Addr} {odl_is_double anl_is_double : Option Addr} {sll_is_double : Array (Option Value)} {ocl_is_double kVl_is_double dcl_is_double pml_is_double cdl_is_double ctl_is_double : Value}
    {Fl_simple : Addr} {odl_simple anl_simple : Option Addr} {sll_simple : Array (Option Value)} {ocl_simple kVl_simple dcl_simple pml_simple cdl_simple ctl_simple : Value}
    {Fl_curve_right : Addr} {odl_curve_right anl_curve_right : Option Addr} {sll_curve_right : Array (Option Value)} {ocl_curve_right kVl_curve_right dcl_curve_right pml_curve_right cdl_curve_right ctl_curve_right : Value}
    {Fl_right : Addr} {odl_right anl_right : Option Addr} {sll_right : Array (Option Value)} {ocl_right kVl_right dcl_right pml_right cdl_right ctl_right : Value}
    {Flaw : Addr} {odlaw anlaw : Option Addr} {sllaw : Array (Option Value)} {oclaw kVlaw dclaw pmlaw cdlaw ctlaw : Value}
    {aP : Addr} {ddP : Option Addr} {nP : Nat} {slP : Array (Option Value)} {tP0 tP1 tP2 tP3 tP4 tM : Tok}
    {FE cellE ccE TE : Addr} {odE anE : Option Addr} {slE : Array (Option Value)} {ocE kVE dcE pmE ctE : Value} {oceE : Obj} {occE oTE : Obj} {vsE : Array Value} {fileE : Str} {tfE : Tok} {nTE : Nat}
    {nm q : Str} {NE : Addr} {bs bm : List Value} {sn : List Str} {sub : List Value} {ab : Bool} {col : Option Bool} {dd : Option Addr} {m0 m1 m2 m3 m5 : Option Value}
    (a_CCurveError : PySem.W.nsIn K mainGlobals "CurveError" = some (some (.ref C_CurveError)))
    (a_CInvalidPrime : PySem.W.nsIn K mainGlobals "InvalidPrime" = some (some (.ref C_InvalidPrime)))
    (a_CInvalidPolynomial : PySem.W.nsIn K mainGlobals "InvalidPolynomial" = some (some (.ref C_InvalidPolynomial)))
    (a_CCurve : PySem.W.nsIn K mainGlobals "Curve" = some (some (.ref C_Curve)))
    (a_is_whole : PySem.W.nsIn K mainGlobals "is_whole" = some (some (.ref Fis_whole)))
    (l_is_whole : K.lookup Fis_whole = some ⟨ocis_whole, odis_whole, .func (PySem.W.fnOf "is_whole" "is_whole" (defArgs s_is_whole) (defBody s_is_whole) (defScope s_is_whole) .none kVis_whole dcis_whole pmis_whole anis_whole cdis_whole ctis_whole), slis_whole⟩)
    (c_is_whole : PySem.W.codeIn K cdis_whole "is_whole" = true)
    (k_is_whole : PySem.W.keepIn K (.ref Fis_whole) = true)
    (a_is_between : PySem.W.nsIn K mainGlobals "is_between" = some (some (.ref Fis_between)))
    (l_is_between : K.lookup Fis_between = some ⟨ocis_between, odis_between, .func (PySem.W.fnOf "is_between" "is_between" (defArgs s_is_between) (defBody s_is_between) (defScope s_is_between) .none kVis_between dcis_between pmis_between anis_between cdis_between ctis_between), slis_between⟩)
    (c_is_between : PySem.W.codeIn K cdis_between "is_between" = true)
    (k_is_between : PySem.W.keepIn K (.ref Fis_between) = true)
    (a_check_prime : PySem.W.nsIn K mainGlobals "check_prime" = some (some (.ref Fcheck_prime)))
    (l_check_prime : K.lookup Fcheck_prime = some ⟨occheck_prime, odcheck_prime, .func (PySem.W.fnOf "check_prime" "check_prime" (defArgs s_check_prime) (defBody s_check_prime) (defScope s_check_prime) .none kVcheck_prime dccheck_prime pmcheck_prime ancheck_prime cdcheck_prime ctcheck_prime), slcheck_prime⟩)
    (c_check_prime : PySem.W.codeIn K cdcheck_prime "check_prime" = true)
    (k_check_prime : PySem.W.keepIn K (.ref Fcheck_prime) = true)
    (a_is_poly_list : PySem.W.nsIn K mainGlobals "is_poly_list" = some (some (.ref Fis_poly_list)))
    (l_is_poly_list : K.lookup Fis_poly_list = some ⟨ocis_poly_list, odis_poly_list, .func (PySem.W.fnOf "is_poly_list" "is_poly_list" (defArgs s_is_poly_list) (defBody s_is_poly_list) (defScope s_is_poly_list) .none kVis_poly_list dcis_poly_list pmis_poly_list anis_poly_list cdis_poly_list ctis_poly_list), slis_poly_list⟩)
    (c_is_poly_list : PySem.W.codeIn K cdis_poly_list "is_poly_list" = true)
    (k_is_poly_list : PySem.W.keepIn K (.ref Fis_poly_list) = true)
    (a_inverse : PySem.W.nsIn K mainGlobals "inverse" = some (some (.ref Finverse)))
    (l_inverse : K.lookup Finverse = some ⟨ocinverse, odinverse, .func (PySem.W.fnOf "inverse" "inverse" (defArgs s_inverse) (defBody s_inverse) (defScope s_inverse) .none kVinverse dcinverse pminverse aninverse cdinverse ctinverse), slinverse⟩)
    (c_inverse : PySem.W.codeIn K cdinverse "inverse" = true)
    (k_inverse : PySem.W.keepIn K (.ref Finverse) = true)
    (a_trimmed : PySem.W.nsIn K mainGlobals "trimmed" = some (some (.ref Ftrimmed)))
    (l_trimmed : K.lookup Ftrimmed = some ⟨octrimmed, odtrimmed, .func (PySem.W.fnOf "trimmed" "trimmed" (defArgs s_trimmed) (defBody s_trimmed) (defScope s_trimmed) .none kVtrimmed dctrimmed pmtrimmed antrimmed cdtrimmed cttrimmed), sltrimmed⟩)
    (c_trimmed : PySem.W.codeIn K cdtrimmed "trimmed" = true)
    (k_trimmed : PySem.W.keepIn K (.ref Ftrimmed) = true)
    (a_added : PySem.W.nsIn K mainGlobals "added" = some (some (.ref Fadded)))
    (l_added : K.lookup Fadded = some ⟨ocadded, odadded, .func (PySem.W.fnOf "added" "added" (defArgs s_added) (defBody s_added) (defScope s_added) .none kVadded dcadded pmadded anadded cdadded ctadded), sladded⟩)
    (c_added : PySem.W.codeIn K cdadded "added" = true)
    (k_added : PySem.W.keepIn K (.ref Fadded) = true)
    (a_negated : PySem.W.nsIn K mainGlobals "negated" = some (some (.ref Fnegated)))
    (l_negated : K.lookup Fnegated = some ⟨ocnegated, odnegated, .func (PySem.W.fnOf "negated" "negated" (defArgs s_negated) (defBody s_negated) (defScope s_negated) .none kVnegated dcnegated pmnegated annegated cdnegated ctnegated), slnegated⟩)
    (c_negated : PySem.W.codeIn K cdnegated "negated" = true)
    (k_negated : PySem.W.keepIn K (.ref Fnegated) = true)
    (a_lessened : PySem.W.nsIn K mainGlobals "lessened" = some (some (.ref Flessened)))
    (l_lessened : K.lookup Flessened = some ⟨oclessened, odlessened, .func (PySem.W.fnOf "lessened" "lessened" (defArgs s_lessened) (defBody s_lessened) (defScope s_lessened) .none kVlessened dclessened pmlessened anlessened cdlessened ctlessened), sllessened⟩)
    (c_lessened : PySem.W.codeIn K cdlessened "lessened" = true)
    (k_lessened : PySem.W.keepIn K (.ref Flessened) = true)
    (a_scaled : PySem.W.nsIn K mainGlobals "scaled" = some (some (.ref Fscaled)))
    (l_scaled : K.lookup Fscaled = some ⟨ocscaled, odscaled, .func (PySem.W.fnOf "scaled" "scaled" (defArgs s_scaled) (defBody s_scaled) (defScope s_scaled) .none kVscaled dcscaled pmscaled anscaled cdscaled ctscaled), slscaled⟩)
    (c_scaled : PySem.W.codeIn K cdscaled "scaled" = true)
    (k_scaled : PySem.W.keepIn K (.ref Fscaled) = true)
    (a_multiplied : PySem.W.nsIn K mainGlobals "multiplied" = some (some (.ref Fmultiplied)))
    (l_multiplied : K.lookup Fmultiplied = some ⟨ocmultiplied, odmultiplied, .func (PySem.W.fnOf "multiplied" "multiplied" (defArgs s_multiplied) (defBody s_multiplied) (defScope s_multiplied) .none kVmultiplied dcmultiplied pmmultiplied anmultiplied cdmultiplied ctmultiplied), slmultiplied⟩)
    (c_multiplied : PySem.W.codeIn K cdmultiplied "multiplied" = true)
    (k_multiplied : PySem.W.keepIn K (.ref Fmultiplied) = true)
    (a_parted : PySem.W.nsIn K mainGlobals "parted" = some (some (.ref Fparted)))
    (l_parted : K.lookup Fparted = some ⟨ocparted, odparted, .func (PySem.W.fnOf "parted" "parted" (defArgs s_parted) (defBody s_parted) (defScope s_parted) .none kVparted dcparted pmparted anparted cdparted ctparted), slparted⟩)
    (c_parted : PySem.W.codeIn K cdparted "parted" = true)
    (k_parted : PySem.W.keepIn K (.ref Fparted) = true)
    (a_common_with : PySem.W.nsIn K mainGlobals "common_with" = some (some (.ref Fcommon_with)))
    (l_common_with : K.lookup Fcommon_with = some ⟨occommon_with, odcommon_with, .func (PySem.W.fnOf "common_with" "common_with" (defArgs s_common_with) (defBody s_common_with) (defScope s_common_with) .none kVcommon_with dccommon_with pmcommon_with ancommon_with cdcommon_with ctcommon_with), slcommon_with⟩)
    (c_common_with : PySem.W.codeIn K cdcommon_with "common_with" = true)
    (k_common_with : PySem.W.keepIn K (.ref Fcommon_with) = true)
    (a_common_of : PySem.W.nsIn K mainGlobals "common_of" = some (some (.ref Fcommon_of)))
    (l_common_of : K.lookup Fcommon_of = some ⟨occommon_of, odcommon_of, .func (PySem.W.fnOf "common_of" "common_of" (defArgs s_common_of) (defBody s_common_of) (defScope s_common_of) .none kVcommon_of dccommon_of pmcommon_of ancommon_of cdcommon_of ctcommon_of), slcommon_of⟩)
    (c_common_of : PySem.W.codeIn K cdcommon_of "common_of" = true)
    (k_common_of : PySem.W.keepIn K (.ref Fcommon_of) = true)
    (a_slope_of : PySem.W.nsIn K mainGlobals "slope_of" = some (some (.ref Fslope_of)))
    (l_slope_of : K.lookup Fslope_of = some ⟨ocslope_of, odslope_of, .func (PySem.W.fnOf "slope_of" "slope_of" (defArgs s_slope_of) (defBody s_slope_of) (defScope s_slope_of) .none kVslope_of dcslope_of pmslope_of anslope_of cdslope_of ctslope_of), slslope_of⟩)
    (c_slope_of : PySem.W.codeIn K cdslope_of "slope_of" = true)
    (k_slope_of : PySem.W.keepIn K (.ref Fslope_of) = true)
    (a_Curve_init : PySem.W.findIn K (.ref C_Curve) "__init__" = some (some (.ref FCurve_init)))
    (i_Curve_init : PySem.W.isFn K (.ref FCurve_init) = true)
    (l_Curve_init : K.lookup FCurve_init = some ⟨ocCurve_init, odCurve_init, .func (PySem.W.fnOf "__init__" "Curve.__init__" (defArgs s_Curve_init) (defBody s_Curve_init) (defScope s_Curve_init) .none kVCurve_init dcCurve_init pmCurve_init anCurve_init cdCurve_init ctCurve_init), slCurve_init⟩)
    (c_Curve_init : PySem.W.codeIn K cdCurve_init "Curve.__init__" = true)
    (k_Curve_init : PySem.W.keepIn K (.ref FCurve_init) = true)
    (a_Curve_prime : PySem.W.findIn K (.ref C_Curve) "prime" = some (some (.ref FCurve_prime)))
    (i_Curve_prime : PySem.W.isFn K (.ref FCurve_prime) = true)
    (l_Curve_prime : K.lookup FCurve_prime = some ⟨ocCurve_prime, odCurve_prime, .func (PySem.W.fnOf "prime" "Curve.prime" (defArgs s_Curve_prime) (defBody s_Curve_prime) (defScope s_Curve_prime) .none kVCurve_prime dcCurve_prime pmCurve_prime anCurve_prime cdCurve_prime ctCurve_prime), slCurve_prime⟩)
    (c_Curve_prime : PySem.W.codeIn K cdCurve_prime "Curve.prime" = true)
    (k_Curve_prime : PySem.W.keepIn K (.ref FCurve_prime) = true)
    (a_Curve_polynomial : PySem.W.findIn K (.ref C_Curve) "polynomial" = some (some (.ref FCurve_polynomial)))
    (i_Curve_polynomial : PySem.W.isFn K (.ref FCurve_polynomial) = true)
    (l_Curve_polynomial : K.lookup FCurve_polynomial = some ⟨ocCurve_polynomial, odCurve_polynomial, .func (PySem.W.fnOf "polynomial" "Curve.polynomial" (defArgs s_Curve_polynomial) (defBody s_Curve_polynomial) (defScope s_Curve_polynomial) .none kVCurve_polynomial dcCurve_polynomial pmCurve_polynomial anCurve_polynomial cdCurve_polynomial ctCurve_polynomial), slCurve_polynomial⟩)
    (c_Curve_polynomial : PySem.W.codeIn K cdCurve_polynomial "Curve.polynomial" = true)
    (k_Curve_polynomial : PySem.W.keepIn K (.ref FCurve_polynomial) = true)
    (a_Curve_genus : PySem.W.findIn K (.ref C_Curve) "genus" = some (some (.ref FCurve_genus)))
    (i_Curve_genus : PySem.W.isFn K (.ref FCurve_genus) = true)
    (l_Curve_genus : K.lookup FCurve_genus = some ⟨ocCurve_genus, odCurve_genus, .func (PySem.W.fnOf "genus" "Curve.genus" (defArgs s_Curve_genus) (defBody s_Curve_genus) (defScope s_Curve_genus) .none kVCurve_genus dcCurve_genus pmCurve_genus anCurve_genus cdCurve_genus ctCurve_genus), slCurve_genus⟩)
    (c_Curve_genus : PySem.W.codeIn K cdCurve_genus "Curve.genus" = true)
    (k_Curve_genus : PySem.W.keepIn K (.ref FCurve_genus) = true)
    (a_Curve_eq : PySem.W.findIn K (.ref C_Curve) "__eq__" = some (some (.ref FCurve_eq)))
    (i_Curve_eq : PySem.W.isFn K (.ref FCurve_eq) = true)
    (l_Curve_eq : K.lookup FCurve_eq = some ⟨ocCurve_eq, odCurve_eq, .func (PySem.W.fnOf "__eq__" "Curve.__eq__" (defArgs s_Curve_eq) (defBody s_Curve_eq) (defScope s_Curve_eq) .none kVCurve_eq dcCurve_eq pmCurve_eq anCurve_eq cdCurve_eq ctCurve_eq), slCurve_eq⟩)
    (c_Curve_eq : PySem.W.codeIn K cdCurve_eq "Curve.__eq__" = true)
    (k_Curve_eq : PySem.W.keepIn K (.ref FCurve_eq) = true)
    (a_is_curve_poly : PySem.W.nsIn K mainGlobals "is_curve_poly" = some (some (.ref Fis_curve_poly)))
    (l_is_curve_poly : K.lookup Fis_curve_poly = some ⟨ocis_curve_poly, odis_curve_poly, .func (PySem.W.fnOf "is_curve_poly" "is_curve_poly" (defArgs s_is_curve_poly) (defBody s_is_curve_poly) (defScope s_is_curve_poly) .none kVis_curve_poly dcis_curve_poly pmis_curve_poly anis_curve_poly cdis_curve_poly ctis_curve_poly), slis_curve_poly⟩)
    (c_is_curve_poly : PySem.W.codeIn K cdis_curve_poly "is_curve_poly" = true)
    (k_is_curve_poly : PySem.W.keepIn K (.ref Fis_curve_poly) = true)
    (a_l_hash : PySem.W.nsIn K mainGlobals "_law_hash" = some (some (.ref Fl_hash)))
    (l_l_hash : K.lookup Fl_hash = some ⟨ocl_hash, odl_hash, .func (PySem.W.fnOf "_law_hash" "_law_hash" (defArgs s_l_hash) (defBody s_l_hash) (defScope s_l_hash) .none kVl_hash dcl_hash pml_hash anl_hash cdl_hash ctl_hash), sll_hash⟩)
    (c_l_hash : PySem.W.codeIn K cdl_hash "_law_hash" = true)
    (k_l_hash : PySem.W.keepIn K (.ref Fl_hash) = true)
    (a_l_random : PySem.W.nsIn K mainGlobals "_law_random" = some (some (.ref Fl_random)))
    (l_l_random : K.lookup Fl_random = some ⟨ocl_random, odl_random, .func (PySem.W.fnOf "_law_random" "_law_random" (defArgs s_l_random) (defBody s_l_random) (defScope s_l_random) .none kVl_random dcl_random pml_random anl_random cdl_random ctl_random), sll_random⟩)
    (c_l_random : PySem.W.codeIn K cdl_random "_law_random" = true)
    (k_l_random : PySem.W.keepIn K (.ref Fl_random) = true)
    (a_l_cell : PySem.W.nsIn K mainGlobals "_law_cell" = some (some (.ref Fl_cell)))
    (l_l_cell : K.lookup Fl_cell = some ⟨ocl_cell, odl_cell, .func (PySem.W.fnOf "_law_cell" "_law_cell" (defArgs s_l_cell) (defBody s_l_cell) (defScope s_l_cell) .none kVl_cell dcl_cell pml_cell anl_cell cdl_cell ctl_cell), sll_cell⟩)
    (c_l_cell : PySem.W.codeIn K cdl_cell "_law_cell" = true)
    (k_l_cell : PySem.W.keepIn K (.ref Fl_cell) = true)
    (a_l_generator : PySem.W.nsIn K mainGlobals "_law_generator" = some (some (.ref Fl_generator)))
    (l_l_generator : K.lookup Fl_generator = some ⟨ocl_generator, odl_generator, .func (PySem.W.fnOf "_law_generator" "_law_generator" (defArgs s_l_generator) (defBody s_l_generator) (defScope s_l_generator) .none kVl_generator dcl_generator pml_generator anl_generator cdl_generator ctl_generator), sll_generator⟩)
    (c_l_generator : PySem.W.codeIn K cdl_generator "_law_generator" = true)
    (k_l_generator : PySem.W.keepIn K (.ref Fl_generator) = true)
    (a_l_prime : PySem.W.nsIn K mainGlobals "_law_prime" = some (some (.ref Fl_prime)))
    (l_l_prime : K.lookup Fl_prime = some ⟨ocl_prime, odl_prime, .func (PySem.W.fnOf "_law_prime" "_law_prime" (defArgs s_l_prime) (defBody s_l_prime) (defScope s_l_prime) .none kVl_prime dcl_prime pml_prime anl_prime cdl_prime ctl_prime), sll_prime⟩)
    (c_l_prime : PySem.W.codeIn K cdl_prime "_law_prime" = true)
    (k_l_prime : PySem.W.keepIn K (.ref Fl_prime) = true)
    (a_l_trim : PySem.W.nsIn K mainGlobals "_law_trim" = some (some (.ref Fl_trim)))
    (l_l_trim : K.lookup Fl_trim = some ⟨ocl_trim, odl_trim, .func (PySem.W.fnOf "_law_trim" "_law_trim" (defArgs s_l_trim) (defBody s_l_trim) (defScope s_l_trim) .none kVl_trim dcl_trim pml_trim anl_trim cdl_trim ctl_trim), sll_trim⟩)
    (c_l_trim : PySem.W.codeIn K cdl_trim "_law_trim" = true)
    (k_l_trim : PySem.W.keepIn K (.ref Fl_trim) = true)
    (a_l_plus : PySem.W.nsIn K mainGlobals "_law_plus" = some (some (.ref Fl_plus)))
    (l_l_plus : K.lookup Fl_plus = some ⟨ocl_plus, odl_plus, .func (PySem.W.fnOf "_law_plus" "_law_plus" (defArgs s_l_plus) (defBody s_l_plus) (defScope s_l_plus) .none kVl_plus dcl_plus pml_plus anl_plus cdl_plus ctl_plus), sll_plus⟩)
    (c_l_plus : PySem.W.codeIn K cdl_plus "_law_plus" = true)
    (k_l_plus : PySem.W.keepIn K (.ref Fl_plus) = true)
    (a_l_times : PySem.W.nsIn K mainGlobals "_law_times" = some (some (.ref Fl_times)))
    (l_l_times : K.lookup Fl_times = some ⟨ocl_times, odl_times, .func (PySem.W.fnOf "_law_times" "_law_times" (defArgs s_l_times) (defBody s_l_times) (defScope s_l_times) .none kVl_times dcl_times pml_times anl_times cdl_times ctl_times), sll_times⟩)
    (c_l_times : PySem.W.codeIn K cdl_times "_law_times" = true)
    (k_l_times : PySem.W.keepIn K (.ref Fl_times) = true)
    (a_l_back : PySem.W.nsIn K mainGlobals "_law_back" = some (some (.ref Fl_back)))
    (l_l_back : K.lookup Fl_back = some ⟨ocl_back, odl_back, .func (PySem.W.fnOf "_law_back" "_law_back" (defArgs s_l_back) (defBody s_l_back) (defScope s_l_back) .none kVl_back dcl_back pml_back anl_back cdl_back ctl_back), sll_back⟩)
    (c_l_back : PySem.W.codeIn K cdl_back "_law_back" = true)
    (k_l_back : PySem.W.keepIn K (.ref Fl_back) = true)
    (a_l_parted : PySem.W.nsIn K mainGlobals "_law_parted" = some (some (.ref Fl_parted)))
    (l_l_parted : K.lookup Fl_parted = some ⟨ocl_parted, odl_parted, .func (PySem.W.fnOf "_law_parted" "_law_parted" (defArgs s_l_parted) (defBody s_l_parted) (defScope s_l_parted) .none kVl_parted dcl_parted pml_parted anl_parted cdl_parted ctl_parted), sll_parted⟩)
    (c_l_parted : PySem.W.codeIn K cdl_parted "_law_parted" = true)
    (k_l_parted : PySem.W.keepIn K (.ref Fl_parted) = true)
    (a_l_rest : PySem.W.nsIn K mainGlobals "_law_rest" = some (some (.ref Fl_rest)))
    (l_l_rest : K.lookup Fl_rest = some ⟨ocl_rest, odl_rest, .func (PySem.W.fnOf "_law_rest" "_law_rest" (defArgs s_l_rest) (defBody s_l_rest) (defScope s_l_rest) .none kVl_rest dcl_rest pml_rest anl_rest cdl_rest ctl_rest), sll_rest⟩)
    (c_l_rest : PySem.W.codeIn K cdl_rest "_law_rest" = true)
    (k_l_rest : PySem.W.keepIn K (.ref Fl_rest) = true)
    (a_l_monics : PySem.W.nsIn K mainGlobals "_law_monics" = some (some (.ref Fl_monics)))
    (l_l_monics : K.lookup Fl_monics = some ⟨ocl_monics, odl_monics, .func (PySem.W.fnOf "_law_monics" "_law_monics" (defArgs s_l_monics) (defBody s_l_monics) (defScope s_l_monics) .none kVl_monics dcl_monics pml_monics anl_monics cdl_monics ctl_monics), sll_monics⟩)
    (c_l_monics : PySem.W.codeIn K cdl_monics "_law_monics" = true)
    (k_l_monics : PySem.W.keepIn K (.ref Fl_monics) = true)
    (a_l_common : PySem.W.nsIn K mainGlobals "_law_common" = some (some (.ref Fl_common)))
    (l_l_common : K.lookup Fl_common = some ⟨ocl_common, odl_common, .func (PySem.W.fnOf "_law_common" "_law_common" (defArgs s_l_common) (defBody s_l_common) (defScope s_l_common) .none kVl_common dcl_common pml_common anl_common cdl_common ctl_common), sll_common⟩)
    (c_l_common : PySem.W.codeIn K cdl_common "_law_common" = true)
    (k_l_common : PySem.W.keepIn K (.ref Fl_common) = true)
    (a_l_made : PySem.W.nsIn K mainGlobals "_law_made" = some (some (.ref Fl_made)))
    (l_l_made : K.lookup Fl_made = some ⟨ocl_made, odl_made, .func (PySem.W.fnOf "_law_made" "_law_made" (defArgs s_l_made) (defBody s_l_made) (defScope s_l_made) .none kVl_made dcl_made pml_made anl_made cdl_made ctl_made), sll_made⟩)
    (c_l_made : PySem.W.codeIn K cdl_made "_law_made" = true)
    (k_l_made : PySem.W.keepIn K (.ref Fl_made) = true)
    (a_l_is_double : PySem.W.nsIn K mainGlobals "_law_is_double" = some (some (.ref Fl_is_double)))
    (l_l_is_double : K.lookup Fl_is_double = some ⟨ocl_is_double, odl_is_double, .func (PySem.W.fnOf "_law_is_double" "_law_is_double" (defArgs s_l_is_double) (defBody s_l_is_double) (defScope s_l_is_double) .none kVl_is_double dcl_is_double pml_is_double anl_is_double cdl_is_double ctl_is_double), sll_is_double⟩)
    (c_l_is_double : PySem.W.codeIn K cdl_is_double "_law_is_double" = true)
    (k_l_is_double : PySem.W.keepIn K (.ref Fl_is_double) = true)
    (a_l_simple : PySem.W.nsIn K mainGlobals "_law_simple" = some (some (.ref Fl_simple)))
    (l_l_simple : K.lookup Fl_simple = some ⟨ocl_simple, odl_simple, .func (PySem.W.fnOf "_law_simple" "_law_simple" (defArgs s_l_simple) (defBody s_l_simple) (defScope s_l_simple) .none kVl_simple dcl_simple pml_simple anl_simple cdl_simple ctl_simple), sll_simple⟩)
    (c_l_simple : PySem.W.codeIn K cdl_simple "_law_simple" = true)
    (k_l_simple : PySem.W.keepIn K (.ref Fl_simple) = true)
    (a_l_curve_right : PySem.W.nsIn K mainGlobals "_law_curve_right" = some (some (.ref Fl_curve_right)))
    (l_l_curve_right : K.lookup Fl_curve_right = some ⟨ocl_curve_right, odl_curve_right, .func (PySem.W.fnOf "_law_curve_right" "_law_curve_right" (defArgs s_l_curve_right) (defBody s_l_curve_right) (defScope s_l_curve_right) .none kVl_curve_right dcl_curve_right pml_curve_right anl_curve_right cdl_curve_right ctl_curve_right), sll_curve_right⟩)
    (c_l_curve_right : PySem.W.codeIn K cdl_curve_right "_law_curve_right" = true)
    (k_l_curve_right : PySem.W.keepIn K (.ref Fl_curve_right) = true)
    (a_l_right : PySem.W.nsIn K mainGlobals "_law_right" = some (some (.ref Fl_right)))
    (l_l_right : K.lookup Fl_right = some ⟨ocl_right, odl_right, .func (PySem.W.fnOf "_law_right" "_law_right" (defArgs s_l_right) (defBody s_l_right) (defScope s_l_right) .none kVl_right dcl_right pml_right anl_right cdl_right ctl_right), sll_right⟩)
    (c_l_right : PySem.W.codeIn K cdl_right "_law_right" = true)
    (k_l_right : PySem.W.keepIn K (.ref Fl_right) = true)
    (a_law : PySem.W.nsIn K mainGlobals "law" = some (some (.ref Flaw)))
    (l_law : K.lookup Flaw = some ⟨oclaw, odlaw, .func (PySem.W.fnOf "law" "law" (defArgs s_law) (defBody s_law) (defScope s_law) .none kVlaw dclaw pmlaw anlaw cdlaw ctlaw), sllaw⟩)
    (c_law : PySem.W.codeIn K cdlaw "law" = true)
    (k_law : PySem.W.keepIn K (.ref Flaw) = true)
    (pg : PySem.W.plainGet K C_Curve Str.empty = true)
    (hd : PySem.W.hasDictIn K C_Curve = true)
    (po : PySem.W.plainOver K C_Curve = true)
    (sa : PySem.W.findIn K (.ref C_Curve) "__setattr__" = some (some (.builtin "object.__setattr__")))
    (ha : PySem.W.findIn K (.ref C_Curve) "__class__" = some (some (.builtin "object.__class__")))
    (hn : PySem.W.specialIn K (.builtin "object.__class__") "__get__" = some (some (.builtin "getset_descriptor.__get__")))
    (htk : PySem.W.takesIn K (.builtin "object.__class__") = some true)
    (hm : PySem.W.mroIn K C_Curve (.type "object") = some true)
    (mk : PySem.W.makesIn K C_Curve = true)
    (kc : PySem.W.keepIn K (.ref C_Curve) = true)
    (n_prime : PySem.W.findIn K (.ref C_Curve) "_prime" = some none)
    (n_polynomial : PySem.W.findIn K (.ref C_Curve) "_polynomial" = some none)
    (a_PR : PySem.W.nsIn K mainGlobals "PRIMES" = some (some (.ref aP)))
    (l_PR : K.lookup aP = some ⟨.type "tuple", ddP, .seq #[.int 3 tP0, .int 5 tP1, .int 7 tP2, .int 11 tP3, .int 13 tP4] nP, slP⟩)
    (a_MP : PySem.W.nsIn K mainGlobals "MOST_POWER" = some (some (.int 60 tM)))
    (z_bool : PySem.W.nsIn K mainGlobals "bool" = some none)
    (z_enumerate : PySem.W.nsIn K mainGlobals "enumerate" = some none)
    (z_int : PySem.W.nsIn K mainGlobals "int" = some none)
    (z_isinstance : PySem.W.nsIn K mainGlobals "isinstance" = some none)
    (z_len : PySem.W.nsIn K mainGlobals "len" = some none)
    (z_list : PySem.W.nsIn K mainGlobals "list" = some none)
    (z_max : PySem.W.nsIn K mainGlobals "max" = some none)
    (z_range : PySem.W.nsIn K mainGlobals "range" = some none)
    (z_repr : PySem.W.nsIn K mainGlobals "repr" = some none)
    (z_sum : PySem.W.nsIn K mainGlobals "sum" = some none)
    (z_super : PySem.W.nsIn K mainGlobals "super" = some none)
    (z_tuple : PySem.W.nsIn K mainGlobals "tuple" = some none)
    (eI : PySem.W.findIn K (.ref C_InvalidPolynomial) "__init__" = some (some (.ref FE)))
    (eT : PySem.W.typeIn K (.ref FE) = some (.type "function"))
    (eL : K.lookup FE = some ⟨ocE, odE, .func (PySem.W.fnX "__init__" "InvalidPolynomial.__init__" (defArgs (inClass (topS 3) 0)) (defBody (inClass (topS 3) 0)) (defScope (inClass (topS 3) 0)) [("__class__", cellE)] (.ref TE) kVE dcE pmE anE (.ref ccE) ctE), slE⟩)
    (eC : PySem.W.codeIn K (.ref ccE) "InvalidPolynomial.__init__" = true)
    (eCell : K.lookup cellE = some oceE)
    (eCellD : oceE.data = .cell (some (.ref C_InvalidPolynomial)))
    (eCc : K.lookup ccE = some occE)
    (eCcD : occE.data = .fields vsE)
    (eFile : vsE[2]? = some (.str fileE tfE))
    (eFile2 : ((P.main.file : Str) == fileE) = true)
    (eTop : (P.main.scope.names.lookup ("super" : Str)).isSome = false)
    (eTE : K.lookup TE = some oTE)
    (eTED : oTE.data = .seq #[.none] nTE)
    (xL : K.lookup C_InvalidPolynomial = some (excClassObj nm q C_InvalidPolynomial NE bs bm true sn sub ab col dd m0 m1 m2 m3 m5 "ValueError.__new__"))
    (xB : PySem.HandSPX.refsVE bm = true)
    (xSa : PySem.W.findIn K (.ref C_InvalidPolynomial) "__setattr__" = some (some (.builtin "object.__setattr__")))
    (xEx : PySem.W.subIn K (.ref C_InvalidPolynomial) (.type "BaseException") = some true)
    (xTy : PySem.W.typeIn K (.ref C_InvalidPolynomial) = some (.type "type"))
    (xK : PySem.W.keepIn K (.ref C_InvalidPolynomial) = true)
    (sTop : PySem.W.nsIn K cStatics "thirdparty.any" = some none)
    (sSup : PySem.W.ks_superIn K C_InvalidPolynomial C_InvalidPolynomial "__init__" = some (some (.builtin "ValueError.__init__")))
    (sVal : PySem.W.subIn K (.ref C_InvalidPolynomial) (.type "ValueError") = some true)
    (sSub : PySem.W.subIn K (.ref C_InvalidPolynomial) (.ref C_InvalidPolynomial) = some true)
    (nv : PySem.W.findIn K (.ref C_InvalidPolynomial) "value" = some none)
    (xGa : PySem.W.findIn K (.ref C_InvalidPolynomial) "__getattribute__" = some (some (.builtin "BaseException.__getattribute__")))
    (xGt : PySem.W.findIn K (.ref C_InvalidPolynomial) "__getattr__" = some none)
    (xHd : PySem.W.hasDictIn K C_InvalidPolynomial = true)
    (xCl : PySem.W.findIn K (.ref C_InvalidPolynomial) "__class__" = some (some (.builtin "object.__class__")))
    (xMr : PySem.W.mroIn K C_InvalidPolynomial (.type "object") = some true)
    (em : PySem.W.exmOne K (.ref C_InvalidPolynomial) (.ref C_CurveError) = some true)
    (kl : PySem.W.kitOne K (.type "list") (.ref C_Curve) = some false)
    (ks : PySem.W.kitOne K (.type "str") (.ref C_Curve) = some false)
    (nfL : PySem.W.notFirst K C_Curve (.type "list") = true)
    (nfS : PySem.W.notFirst K C_Curve (.type "str") = true) :
    ∃ fd : FuncData, (∀ (s : Shared) (v : Value), BindsTo s fd ⟨[v], []⟩ [("_law_script", v)]) ∧ ∀ base : Heap, K.In base → base.Ns mainGlobals mg → FnG P w K mg base (L2.CX P w) 12 fa fd ["_law_script"] (SpP 1 (S_law K)) := by
  have e := hfa.symm.trans (PySem.W.mg_of X G a_law)
  cases e
  let T : Txt P K mg := {
    C_CurveError := C_CurveError,
    gC_CurveError := PySem.W.mg_of X G a_CCurveError,
    C_InvalidPrime := C_InvalidPrime,
    gC_InvalidPrime := PySem.W.mg_of X G a_CInvalidPrime,
    C_InvalidPolynomial := C_InvalidPolynomial,
    gC_InvalidPolynomial := PySem.W.mg_of X G a_CInvalidPolynomial,
    C_Curve := C_Curve,
    gC_Curve := PySem.W.mg_of X G a_CCurve,
    f_is_whole := _,
    fd_is_whole := _,
    F_is_whole := fun_mk (st := s_is_whole) l_is_whole c_is_whole k_is_whole,
    g_is_whole := PySem.W.mg_of X G a_is_whole,
    b_is_whole := (fun_mk (st := s_is_whole) l_is_whole c_is_whole k_is_whole).binds fun _ _ _ _ _ _ us hl => match us, hl with | [_], _ => rfl,
    f_is_between := _,
    fd_is_between := _,
    F_is_between := fun_mk (st := s_is_between) l_is_between c_is_between k_is_between,
    g_is_between := PySem.W.mg_of X G a_is_between,
    b_is_between := (fun_mk (st := s_is_between) l_is_between c_is_between k_is_between).binds fun _ _ _ _ _ _ us hl => match us, hl with | [_, _, _], _ => rfl,
    f_check_prime := _,
    fd_check_prime := _,
    F_check_prime := fun_mk (st := s_check_prime) l_check_prime c_check_prime k_check_prime,
    g_check_prime := PySem.W.mg_of X G a_check_prime,
    b_check_prime := (fun_mk (st := s_check_prime) l_check_prime c_check_prime k_check_prime).binds fun _ _ _ _ _ _ us hl => match us, hl with | [_], _ => rfl,
    f_is_poly_list := _,
    fd_is_poly_list := _,
    F_is_poly_list := fun_mk (st := s_is_poly_list) l_is_poly_list c_is_poly_list k_is_poly_list,
    g_is_poly_list := PySem.W.mg_of X G a_is_poly_list,
    b_is_poly_list := (fun_mk (st := s_is_poly_list) l_is_poly_list c_is_poly_list k_is_poly_list).binds fun _ _ _ _ _ _ us hl => match us, hl with | [_, _], _ => rfl,
    f_inverse := _,
    fd_inverse := _,
    F_inverse := fun_mk (st := s_inverse) l_inverse c_inverse k_inverse,
    g_inverse := PySem.W.mg_of X G a_inverse,
    b_inverse := (fun_mk (st := s_inverse) l_inverse c_inverse k_inverse).binds fun _ _ _ _ _ _ us hl => match us, hl with | [_, _], _ => rfl,
    f_trimmed := _,
    fd_trimmed := _,
    F_trimmed := fun_mk (st := s_trimmed) l_trimmed c_trimmed k_trimmed,
    g_trimmed := PySem.W.mg_of X G a_trimmed,
    b_trimmed := (fun_mk (st := s_trimmed) l_trimmed c_trimmed k_trimmed).binds fun _ _ _ _ _ _ us hl => match us, hl with | [_, _], _ => rfl,
    f_added := _,
    fd_added := _,
    F_added := fun_mk (st := s_added) l_added c_added k_added,
    g_added := PySem.W.mg_of X G a_added,
    b_added := (fun_mk (st := s_added) l_added c_added k_added).binds fun _ _ _ _ _ _ us hl => match us, hl with | [_, _, _], _ => rfl,
    f_negated := _,
    fd_negated := _,
    F_negated := fun_mk (st := s_negated) l_negated c_negated k_negated,
    g_negated := PySem.W.mg_of X G a_negated,
    b_negated := (fun_mk (st := s_negated) l_negated c_negated k_negated).binds fun _ _ _ _ _ _ us hl => match us, hl with | [_, _], _ => rfl,
    f_lessened := _,
    fd_lessened := _,
    F_lessened := fun_mk (st := s_lessened) l_lessened c_lessened k_lessened,
    g_lessened := PySem.W.mg_of X G a_lessened,
    b_lessened := (fun_mk (st := s_lessened) l_lessened c_lessened k_lessened).binds fun _ _ _ _ _ _ us hl => match us, hl with | [_, _, _], _ => rfl,
    f_scaled := _,
    fd_scaled := _,
    F_scaled := fun_mk (st := s_scaled) l_scaled c_scaled k_scaled,
    g_scaled := PySem.W.mg_of X G a_scaled,
    b_scaled := (fun_mk (st := s_scaled) l_scaled c_scaled k_scaled).binds fun _ _ _ _ _ _ us hl => match us, hl with | [_, _, _], _ => rfl,
    f_multiplied := _,
    fd_multiplied := _,
    F_multiplied := fun_mk (st := s_multiplied) l_multiplied c_multiplied k_multiplied,
    g_multiplied := PySem.W.mg_of X G a_multiplied,
    b_multiplied := (fun_mk (st := s_multiplied) l_multiplied c_multiplied k_multiplied).binds fun _ _ _ _ _ _ us hl => match us, hl with | [_, _, _], _ => rfl,
    f_parted := _,
    fd_parted := _,
    F_parted := fun_mk (st := s_parted) l_parted c_parted k_parted,
    g_parted := PySem.W.mg_of X G a_parted,
    b_parted := (fun_mk (st := s_parted) l_parted c_parted k_parted).binds fun _ _ _ _ _ _ us hl => match us, hl with | [_, _, _], _ => rfl,
    f_common_with := _,
    fd_common_with := _,
    F_common_with := fun_mk (st := s_common_with) l_common_with c_common_with k_common_with,
    g_common_with := PySem.W.mg_of X G a_common_with,
    b_common_with := (fun_mk (st := s_common_with) l_common_with c_common_with k_common_with).binds fun _ _ _ _ _ _ us hl => match us, hl with | [_, _, _], _ => rfl,
    f_common_of := _,
    fd_common_of := _,
    F_common_of := fun_mk (st := s_common_of) l_common_of c_common_of k_common_of,
    g_common_of := PySem.W.mg_of X G a_common_of,
    b_common_of := (fun_mk (st := s_common_of) l_common_of c_common_of k_common_of).binds fun _ _ _ _ _ _ us hl => match us, hl with | [_, _, _], _ => rfl,
    f_slope_of := _,
    fd_slope_of := _,
    F_slope_of := fun_mk (st := s_slope_of) l_slope_of c_slope_of k_slope_of,
    g_slope_of := PySem.W.mg_of X G a_slope_of,
    b_slope_of := (fun_mk (st := s_slope_of) l_slope_of c_slope_of k_slope_of).binds fun _ _ _ _ _ _ us hl => match us, hl with | [_, _], _ => rfl,
    f_Curve_init := _,
    fd_Curve_init := _,
    F_Curve_init := fun_mk (st := s_Curve_init) l_Curve_init c_Curve_init k_Curve_init,
    b_Curve_init := (fun_mk (st := s_Curve_init) l_Curve_init c_Curve_init k_Curve_init).binds fun _ _ _ _ _ _ us hl => match us, hl with | [_, _, _], _ => rfl,
    f_Curve_prime := _,
    fd_Curve_prime := _,
    F_Curve_prime := fun_mk (st := s_Curve_prime) l_Curve_prime c_Curve_prime k_Curve_prime,
    b_Curve_prime := (fun_mk (st := s_Curve_prime) l_Curve_prime c_Curve_prime k_Curve_prime).binds fun _ _ _ _ _ _ us hl => match us, hl with | [_], _ => rfl,
    f_Curve_polynomial := _,
    fd_Curve_polynomial := _,
    F_Curve_polynomial := fun_mk (st := s_Curve_polynomial) l_Curve_polynomial c_Curve_polynomial k_Curve_polynomial,
    b_Curve_polynomial := (fun_mk (st := s_Curve_polynomial) l_Curve_polynomial c_Curve_polynomial k_Curve_polynomial).binds fun _ _ _ _ _ _ us hl => match us, hl with | [_], _ => rfl,
    f_Curve_genus := _,
    fd_Curve_genus := _,
    F_Curve_genus := fun_mk (st := s_Curve_genus) l_Curve_genus c_Curve_genus k_Curve_genus,
    b_Curve_genus := (fun_mk (st := s_Curve_genus) l_Curve_genus c_Curve_genus k_Curve_genus).binds fun _ _ _ _ _ _ us hl => match us, hl with | [_], _ => rfl,
    f_Curve_eq := _,
    fd_Curve_eq := _,
    F_Curve_eq := fun_mk (st := s_Curve_eq) l_Curve_eq c_Curve_eq k_Curve_eq,
    b_Curve_eq := (fun_mk (st := s_Curve_eq) l_Curve_eq c_Curve_eq k_Curve_eq).binds fun _ _ _ _ _ _ us hl => match us, hl with | [_, _], _ => rfl,
    f_is_curve_poly := _,
    fd_is_curve_poly := _,
    F_is_curve_poly := fun_mk (st := s_is_curve_poly) l_is_curve_poly c_is_curve_poly k_is_curve_poly,
    g_is_curve_poly := PySem.W.mg_of X G a_is_curve_poly,
    b_is_curve_poly := (fun_mk (st := s_is_curve_poly) l_is_curve_poly c_is_curve_poly k_is_curve_poly).binds fun _ _ _ _ _ _ us hl => match us, hl with | [_, _], _ => rfl,
    f_l_hash := _,
    fd_l_hash := _,
    F_l_hash := fun_mk (st := s_l_hash) l_l_hash c_l_hash k_l_hash,
    g_l_hash := PySem.W.mg_of X G a_l_hash,
    b_l_hash := (fun_mk (st := s_l_hash) l_l_hash c_l_hash k_l_hash).binds fun _ _ _ _ _ _ us hl => match us, hl with | [_, _], _ => rfl,
    f_l_random := _,
    fd_l_random := _,
    F_l_random := fun_mk (st := s_l_random) l_l_random c_l_random k_l_random,
    g_l_random := PySem.W.mg_of X G a_l_random,
    b_l_random := (fun_mk (st := s_l_random) l_l_random c_l_random k_l_random).binds fun _ _ _ _ _ _ us hl => match us, hl with | [_, _], _ => rfl,
    f_l_cell := _,
    fd_l_cell := _,
    F_l_cell := fun_mk (st := s_l_cell) l_l_cell c_l_cell k_l_cell,
    g_l_cell := PySem.W.mg_of X G a_l_cell,
    b_l_cell := (fun_mk (st := s_l_cell) l_l_cell c_l_cell k_l_cell).binds fun _ _ _ _ _ _ us hl => match us, hl with | [_, _], _ => rfl,
    f_l_generator := _,
    fd_l_generator := _,
    F_l_generator := fun_mk (st := s_l_generator) l_l_generator c_l_generator k_l_generator,
    g_l_generator := PySem.W.mg_of X G a_l_generator,
    b_l_generator := (fun_mk (st := s_l_generator) l_l_generator c_l_generator k_l_generator).binds fun _ _ _ _ _ _ us hl => match us, hl with | [_, _], _ => rfl,
    f_l_prime := _,
    fd_l_prime := _,
    F_l_prime := fun_mk (st := s_l_prime) l_l_prime c_l_prime k_l_prime,
    g_l_prime := PySem.W.mg_of X G a_l_prime,
    b_l_prime := (fun_mk (st := s_l_prime) l_l_prime c_l_prime k_l_prime).binds fun _ _ _ _ _ _ us hl => match us, hl with | [_], _ => rfl,
    f_l_trim := _,
    fd_l_trim := _,
    F_l_trim := fun_mk (st := s_l_trim) l_l_trim c_l_trim k_l_trim,
    g_l_trim := PySem.W.mg_of X G a_l_trim,
    b_l_trim := (fun_mk (st := s_l_trim) l_l_trim c_l_trim k_l_trim).binds fun _ _ _ _ _ _ us hl => match us, hl with | [_, _], _ => rfl,
    f_l_plus := _,
    fd_l_plus := _,
    F_l_plus := fun_mk (st := s_l_plus) l_l_plus c_l_plus k_l_plus,
    g_l_plus := PySem.W.mg_of X G a_l_plus,
    b_l_plus := (fun_mk (st := s_l_plus) l_l_plus c_l_plus k_l_plus).binds fun _ _ _ _ _ _ us hl => match us, hl with | [_, _, _, _], _ => rfl,
    f_l_times := _,
    fd_l_times := _,
    F_l_times := fun_mk (st := s_l_times) l_l_times c_l_times k_l_times,
    g_l_times := PySem.W.mg_of X G a_l_times,
    b_l_times := (fun_mk (st := s_l_times) l_l_times c_l_times k_l_times).binds fun _ _ _ _ _ _ us hl => match us, hl with | [_, _, _], _ => rfl,
    f_l_back := _,
    fd_l_back := _,
    F_l_back := fun_mk (st := s_l_back) l_l_back c_l_back k_l_back,
    g_l_back := PySem.W.mg_of X G a_l_back,
    b_l_back := (fun_mk (st := s_l_back) l_l_back c_l_back k_l_back).binds fun _ _ _ _ _ _ us hl => match us, hl with | [_, _], _ => rfl,
    f_l_parted := _,
    fd_l_parted := _,
    F_l_parted := fun_mk (st := s_l_parted) l_l_parted c_l_parted k_l_parted,
    g_l_parted := PySem.W.mg_of X G a_l_parted,
    b_l_parted := (fun_mk (st := s_l_parted) l_l_parted c_l_parted k_l_parted).binds fun _ _ _ _ _ _ us hl => match us, hl with | [_, _, _], _ => rfl,
    f_l_rest := _,
    fd_l_rest := _,
    F_l_rest := fun_mk (st := s_l_rest) l_l_rest c_l_rest k_l_rest,
    g_l_rest := PySem.W.mg_of X G a_l_rest,
    b_l_rest := (fun_mk (st := s_l_rest) l_l_rest c_l_rest k_l_rest).binds fun _ _ _ _ _ _ us hl => match us, hl with | [_, _, _], _ => rfl,
    f_l_monics := _,
    fd_l_monics := _,
    F_l_monics := fun_mk (st := s_l_monics) l_l_monics c_l_monics k_l_monics,
    g_l_monics := PySem.W.mg_of X G a_l_monics,
    b_l_monics := (fun_mk (st := s_l_monics) l_l_monics c_l_monics k_l_monics).binds fun _ _ _ _ _ _ us hl => match us, hl with | [_, _], _ => rfl,
    f_l_common := _,
    fd_l_common := _,
    F_l_common := fun_mk (st := s_l_common) l_l_common c_l_common k_l_common,
    g_l_common := PySem.W.mg_of X G a_l_common,
    b_l_common := (fun_mk (st := s_l_common) l_l_common c_l_common k_l_common).binds fun _ _ _ _ _ _ us hl => match us, hl with | [_, _, _], _ => rfl,
    f_l_made := _,
    fd_l_made := _,
    F_l_made := fun_mk (st := s_l_made) l_l_made c_l_made k_l_made,
    g_l_made := PySem.W.mg_of X G a_l_made,
    b_l_made := (fun_mk (st := s_l_made) l_l_made c_l_made k_l_made).binds fun _ _ _ _ _ _ us hl => match us, hl with | [_, _], _ => rfl,
    f_l_is_double := _,
    fd_l_is_double := _,
    F_l_is_double := fun_mk (st := s_l_is_double) l_l_is_double c_l_is_double k_l_is_double,
    g_l_is_double := PySem.W.mg_of X G a_l_is_double,
    b_l_is_double := (fun_mk (st := s_l_is_double) l_l_is_double c_l_is_double k_l_is_double).binds fun _ _ _ _ _ _ us hl => match us, hl with | [_, _], _ => rfl,
    f_l_simple := _,
    fd_l_simple := _,
    F_l_simple := fun_mk (st := s_l_simple) l_l_simple c_l_simple k_l_simple,
    g_l_simple := PySem.W.mg_of X G a_l_simple,
    b_l_simple := (fun_mk (st := s_l_simple) l_l_simple c_l_simple k_l_simple).binds fun _ _ _ _ _ _ us hl => match us, hl with | [_, _], _ => rfl,
    f_l_curve_right := _,
    fd_l_curve_right := _,
    F_l_curve_right := fun_mk (st := s_l_curve_right) l_l_curve_right c_l_curve_right k_l_curve_right,
    g_l_curve_right := PySem.W.mg_of X G a_l_curve_right,
    b_l_curve_right := (fun_mk (st := s_l_curve_right) l_l_curve_right c_l_curve_right k_l_curve_right).binds fun _ _ _ _ _ _ us hl => match us, hl with | [_, _, _], _ => rfl,
    f_l_right := _,
    fd_l_right := _,
    F_l_right := fun_mk (st := s_l_right) l_l_right c_l_right k_l_right,
    g_l_right := PySem.W.mg_of X G a_l_right,
    b_l_right := (fun_mk (st := s_l_right) l_l_right c_l_right k_l_right).binds fun _ _ _ _ _ _ us hl => match us, hl with | [_], _ => rfl,
    f_law := _,
    fd_law := _,
    F_law := fun_mk (st := s_law) l_law c_law k_law,
    g_law := PySem.W.mg_of X G a_law,
    b_law := (fun_mk (st := s_law) l_law c_law k_law).binds fun _ _ _ _ _ _ us hl => match us, hl with | [_], _ => rfl,
    cl_Curve := ⟨pg, hd, po, sa⟩,
    is_Curve := ⟨⟨pg, hd, po, sa⟩, ha, hn, htk, hm, kit_self _ _⟩,
    mk_Curve := ⟨mk, a_Curve_init, i_Curve_init, kc⟩,
    m_Curve_prime := ⟨a_Curve_prime, i_Curve_prime, k_Curve_prime⟩,
    m_Curve_polynomial := ⟨a_Curve_polynomial, i_Curve_polynomial, k_Curve_polynomial⟩,
    m_Curve_genus := ⟨a_Curve_genus, i_Curve_genus, k_Curve_genus⟩,
    eq_Curve := a_Curve_eq,
    eqf_Curve := i_Curve_eq,
    na_Curve_prime := n_prime,
    na_Curve_polynomial := n_polynomial,
    a_PRIMES := aP,
    g_PRIMES := PySem.W.mg_of X G a_PR,
    k_PRIMES := fun H => .inr ⟨_, _, _, l_PR, rfl, rfl, (size1000 (show 5 ≤ 1000 by decide) : 5 ≤ sizeLine), .cons ⟨_, rfl⟩ (.cons ⟨_, rfl⟩ (.cons ⟨_, rfl⟩ (.cons ⟨_, rfl⟩ (.cons ⟨_, rfl⟩ .nil))))⟩,
    t_MOST_POWER := tM,
    g_MOST_POWER := PySem.W.mg_of X G a_MP,
    n_bool := PySem.W.mg_none_of X G z_bool,
    n_enumerate := PySem.W.mg_none_of X G z_enumerate,
    n_int := PySem.W.mg_none_of X G z_int,
    n_isinstance := PySem.W.mg_none_of X G z_isinstance,
    n_len := PySem.W.mg_none_of X G z_len,
    n_list := PySem.W.mg_none_of X G z_list,
    n_max := PySem.W.mg_none_of X G z_max,
    n_range := PySem.W.mg_none_of X G z_range,
    n_repr := PySem.W.mg_none_of X G z_repr,
    n_sum := PySem.W.mg_none_of X G z_sum,
    n_super := PySem.W.mg_none_of X G z_super,
    n_tuple := PySem.W.mg_none_of X G z_tuple,
    f_IP := FE,
    fd_IP := _,
    sf_IP := ⟨⟨_, _, _, _, _, _, _, _, _, _, _, rfl, eL, eC, ⟨_, eCell, eCellD⟩, _, _, _, _, eCc, eCcD, eFile, eFile2⟩, eTop⟩,
    sc_IP := ⟨⟨⟨_, _, _, _, _, _, _, _, _, _, _, _, _, _, _, xL, xB⟩, xSa, xEx, xTy, xK⟩, sTop, sSup, sVal, sSub⟩,
    ii_IP := eI,
    it_IP := eT,
    ib_IP := fun s us X hl => match us, hl with | [_, _], _ => PySem.W.binds_K X rfl eTE eTED rfl rfl,
    nv_IP := nv,
    xc_IP := ⟨xGa, xGt, xEx, xHd, xCl, hn, htk, xMr⟩,
    xf_IP := ⟨xGa, xGt, xEx, xHd⟩,
    em_IP := em,
    kc_Curve := kit_self _ _,
    kl_Curve := kl,
    ks_Curve := ks,
    nf_C := notFirst_self _ _,
    nf_L := nfL,
    nf_S := nfS,
    kb_Curve := ⟨fun s us ws X l1 l2 => match us, ws, l1, l2 with | [_], [_, _], _, _ => .of_eq rfl, fun r1 r2 => r1.append (vals_rev r2)⟩ }
  exact ⟨_, fun s v => .of_eq rfl, fun base _ _ => (ok_law (P := P) (w := w) (base := base) T).mono (by decide)⟩
end K7

end

set_option Elab.async false
set_option linter.all false
set_option maxRecDepth 100000
set_option autoImplicit false
set_option maxHeartbeats 4000000
set_option pp.maxSteps 400
set_option pp.deepTerms false
open PySem PySem.W PyProof.Rows
set_option maxRecDepth 100000 in
set_option maxHeartbeats 0 in
theorem PySem.Challenge.cw_curveheads_k07_curves_holds : PySem.Challenge.rw_curveheads_k07_curves.Holds := by
  w_on; o_law; k_head; (case hw => w_witness2)
  k_fill
  refine DL.walk_G (l := PySem.Challenge.rw_curveheads_k07_curves) (n := 63) (k := 12) (x := "_law_script") (S := K7.S_law) rfl (by decide) rfl ⟨rfl, by decide, by decide⟩ (fun w h Y => PySem.W.kIn_of Y) ?F (fun K ns dsc _ hs => ⟨ns, dsc, rfl, hs, rfl⟩)
  case F =>
    intro w mg fa h KX G hmg
    replace hmg : mg "law" = some (.ref fa) := hmg
    refine' K7.all_mk KX G hmg ?a_CCurveError ?a_CInvalidPrime ?a_CInvalidPolynomial ?a_CCurve ?a_is_whole ?l_is_whole ?c_is_whole ?k_is_whole ?a_is_between ?l_is_between ?c_is_between ?k_is_between ?a_check_prime ?l_check_prime ?c_check_prime ?k_check_prime ?a_is_poly_list ?l_is_poly_list ?c_is_poly_list ?k_is_poly_list ?a_inverse ?l_inverse ?c_inverse ?k_inverse ?a_trimmed ?l_trimmed ?c_trimmed ?k_trimmed ?a_added ?l_added ?c_added ?k_added ?a_negated ?l_negated ?c_negated ?k_negated ?a_lessened ?l_lessened ?c_lessened ?k_lessened ?a_scaled ?l_scaled ?c_scaled ?k_scaled ?a_multiplied ?l_multiplied ?c_multiplied ?k_multiplied ?a_parted ?l_parted ?c_parted ?k_parted ?a_common_with ?l_common_with ?c_common_with ?k_common_with ?a_common_of ?l_common_of ?c_common_of ?k_common_of ?a_slope_of ?l_slope_of ?c_slope_of ?k_slope_of ?a_Curve_init ?i_Curve_init ?l_Curve_init ?c_Curve_init ?k_Curve_init ?a_Curve_prime ?i_Curve_prime ?l_Curve_prime ?c_Curve_prime ?k_Curve_prime ?a_Curve_polynomial ?i_Curve_polynomial ?l_Curve_polynomial ?c_Curve_polynomial ?k_Curve_polynomial ?a_Curve_genus ?i_Curve_genus ?l_Curve_genus ?c_Curve_genus ?k_Curve_genus ?a_Curve_eq ?i_Curve_eq ?l_Curve_eq ?c_Curve_eq ?k_Curve_eq ?a_is_curve_poly ?l_is_curve_poly ?c_is_curve_poly ?k_is_curve_poly ?a_l_hash ?l_l_hash ?c_l_hash ?k_l_hash ?a_l_random ?l_l_random ?c_l_random ?k_l_random ?a_l_cell ?l_l_cell ?c_l_cell ?k_l_cell ?a_l_generator ?l_l_generator ?c_l_generator ?k_l_generator ?a_l_prime ?l_l_prime ?c_l_prime ?k_l_prime ?a_l_trim ?l_l_trim ?c_l_trim ?k_l_trim ?a_l_plus ?l_l_plus ?c_l_plus ?k_l_plus ?a_l_times ?l_l_times ?c_l_times ?k_l_times ?a_l_back ?l_l_back ?c_l_back ?k_l_back ?a_l_parted ?l_l_parted ?c_l_parted ?k_l_parted ?a_l_rest ?l_l_rest ?c_l_rest ?k_l_rest ?a_l_monics ?l_l_monics ?c_l_monics ?k_l_monics ?a_l_common ?l_l_common ?c_l_common ?k_l_common ?a_l_made ?l_l_made ?c_l_made ?k_l_made ?a_l_is_double ?l_l_is_double ?c_l_is_double ?k_l_is_double ?a_l_simple ?l_l_simple ?c_l_simple ?k_l_simple ?a_l_curve_right ?l_l_curve_right ?c_l_curve_right ?k_l_curve_right ?a_l_right ?l_l_right ?c_l_right ?k_l_right ?a_law ?l_law ?c_law ?k_law ?pg ?hd ?po ?sa ?ha ?hn ?htk ?hm ?mk ?kc ?n_prime ?n_polynomial ?a_PR ?l_PR ?a_MP ?z_bool ?z_enumerate ?z_int ?z_isinstance ?z_len ?z_list ?z_max ?z_range ?z_repr ?z_sum ?z_super ?z_tuple ?eI ?eT ?eL ?eC ?eCell ?eCellD ?eCc ?eCcD ?eFile ?eFile2 ?eTop ?eTE ?eTED ?xL ?xB ?xSa ?xEx ?xTy ?xK ?sTop ?sSup ?sVal ?sSub ?nv ?xGa ?xGt ?xHd ?xCl ?xMr ?em ?kl ?ks ?nfL ?nfS
    (case a_CCurveError => first | k_is | rfl | decide)
    (case a_CInvalidPrime => first | k_is | rfl | decide)
    (case a_CInvalidPolynomial => first | k_is | rfl | decide)
    (case a_CCurve => first | k_is | rfl | decide)
    (case a_is_whole => first | k_is | rfl | decide)
    (case l_is_whole => first | k_is | rfl | decide)
    (case c_is_whole => first | k_is | rfl | decide)
    (case k_is_whole => first | k_is | rfl | decide)
    (case a_is_between => first | k_is | rfl | decide)
    (case l_is_between => first | k_is | rfl | decide)
    (case c_is_between => first | k_is | rfl | decide)
    (case k_is_between => first | k_is | rfl | decide)
    (case a_check_prime => first | k_is | rfl | decide)
    (case l_check_prime => first | k_is | rfl | decide)
    (case c_check_prime => first | k_is | rfl | decide)
    (case k_check_prime => first | k_is | rfl | decide)
    (case a_is_poly_list => first | k_is | rfl | decide)
    (case l_is_poly_list => first | k_is | rfl | decide)
    (case c_is_poly_list => first | k_is | rfl | decide)
    (case k_is_poly_list => first | k_is | rfl | decide)
    (case a_inverse => first | k_is | rfl | decide)
    (case l_inverse => first | k_is | rfl | decide)
    (case c_inverse => first | k_is | rfl | decide)
    (case k_inverse => first | k_is | rfl | decide)
    (case a_trimmed => first | k_is | rfl | decide)
    (case l_trimmed => first | k_is | rfl | decide)
    (case c_trimmed => first | k_is | rfl | decide)
    (case k_trimmed => first | k_is | rfl | decide)
    (case a_added => first | k_is | rfl | decide)
    (case l_added => first | k_is | rfl | decide)
    (case c_added => first | k_is | rfl | decide)
    (case k_added => first | k_is | rfl | decide)
    (case a_negated => first | k_is | rfl | decide)
    (case l_negated => first | k_is | rfl | decide)
    (case c_negated => first | k_is | rfl | decide)
    (case k_negated => first | k_is | rfl | decide)
    (case a_lessened => first | k_is | rfl | decide)
    (case l_lessened => first | k_is | rfl | decide)
    (case c_lessened => first | k_is | rfl | decide)
    (case k_lessened => first | k_is | rfl | decide)
    (case a_scaled => first | k_is | rfl | decide)
    (case l_scaled => first | k_is | rfl | decide)
    (case c_scaled => first | k_is | rfl | decide)
    (case k_scaled => first | k_is | rfl | decide)
    (case a_multiplied => first | k_is | rfl | decide)
    (case l_multiplied => first | k_is | rfl | decide)
    (case c_multiplied => first | k_is | rfl | decide)
    (case k_multiplied => first | k_is | rfl | decide)
    (case a_parted => first | k_is | rfl | decide)
    (case l_parted => first | k_is | rfl | decide)
    (case c_parted => first | k_is | rfl | decide)
    (case k_parted => first | k_is | rfl | decide)
    (case a_common_with => first | k_is | rfl | decide)
    (case l_common_with => first | k_is | rfl | decide)
    (case c_common_with => first | k_is | rfl | decide)
    (case k_common_with => first | k_is | rfl | decide)
    (case a_common_of => first | k_is | rfl | decide)
    (case l_common_of => first | k_is | rfl | decide)
    (case c_common_of => first | k_is | rfl | decide)
    (case k_common_of => first | k_is | rfl | decide)
    (case a_slope_of => first | k_is | rfl | decide)
    (case l_slope_of => first | k_is | rfl | decide)
    (case c_slope_of => first | k_is | rfl | decide)
    (case k_slope_of => first | k_is | rfl | decide)
    (case a_Curve_init => first | k_is | rfl | decide)
    (case i_Curve_init => first | k_is | rfl | decide)
    (case l_Curve_init => first | k_is | rfl | decide)
    (case c_Curve_init => first | k_is | rfl | decide)
    (case k_Curve_init => first | k_is | rfl | decide)
    (case a_Curve_prime => first | k_is | rfl | decide)
    (case i_Curve_prime => first | k_is | rfl | decide)
    (case l_Curve_prime => first | k_is | rfl | decide)
    (case c_Curve_prime => first | k_is | rfl | decide)
    (case k_Curve_prime => first | k_is | rfl | decide)
    (case a_Curve_polynomial => first | k_is | rfl | decide)
    (case i_Curve_polynomial => first | k_is | rfl | decide)
    (case l_Curve_polynomial => first | k_is | rfl | decide)
    (case c_Curve_polynomial => first | k_is | rfl | decide)
    (case k_Curve_polynomial => first | k_is | rfl | decide)
    (case a_Curve_genus => first | k_is | rfl | decide)
    (case i_Curve_genus => first | k_is | rfl | decide)
    (case l_Curve_genus => first | k_is | rfl | decide)
    (case c_Curve_genus => first | k_is | rfl | decide)
    (case k_Curve_genus => first | k_is | rfl | decide)
    (case a_Curve_eq => first | k_is | rfl | decide)
    (case i_Curve_eq => first | k_is | rfl | decide)
    (case l_Curve_eq => first | k_is | rfl | decide)
    (case c_Curve_eq => first | k_is | rfl | decide)
    (case k_Curve_eq => first | k_is | rfl | decide)
    (case a_is_curve_poly => first | k_is | rfl | decide)
    (case l_is_curve_poly => first | k_is | rfl | decide)
    (case c_is_curve_poly => first | k_is | rfl | decide)
    (case k_is_curve_poly => first | k_is | rfl | decide)
    (case a_l_hash => first | k_is | rfl | decide)
    (case l_l_hash => first | k_is | rfl | decide)
    (case c_l_hash => first | k_is | rfl | decide)
    (case k_l_hash => first | k_is | rfl | decide)
    (case a_l_random => first | k_is | rfl | decide)
    (case l_l_random => first | k_is | rfl | decide)
    (case c_l_random => first | k_is | rfl | decide)
    (case k_l_random => first | k_is | rfl | decide)
    (case a_l_cell => first | k_is | rfl | decide)
    (case l_l_cell => first | k_is | rfl | decide)
    (case c_l_cell => first | k_is | rfl | decide)
    (case k_l_cell => first | k_is | rfl | decide)
    (case a_l_generator => first | k_is | rfl | decide)
    (case l_l_generator => first | k_is | rfl | decide)
    (case c_l_generator => first | k_is | rfl | decide)
    (case k_l_generator => first | k_is | rfl | decide)
    (case a_l_prime => first | k_is | rfl | decide)
    (case l_l_prime => first | k_is | rfl | decide)
    (case c_l_prime => first | k_is | rfl | decide)
    (case k_l_prime => first | k_is | rfl | decide)
    (case a_l_trim => first | k_is | rfl | decide)
    (case l_l_trim => first | k_is | rfl | decide)
    (case c_l_trim => first | k_is | rfl | decide)
    (case k_l_trim => first | k_is | rfl | decide)
    (case a_l_plus => first | k_is | rfl | decide)
    (case l_l_plus => first | k_is | rfl | decide)
    (case c_l_plus => first | k_is | rfl | decide)
    (case k_l_plus => first | k_is | rfl | decide)
    (case a_l_times => first | k_is | rfl | decide)
    (case l_l_times => first | k_is | rfl | decide)
    (case c_l_times => first | k_is | rfl | decide)
    (case k_l_times => first | k_is | rfl | decide)
    (case a_l_back => first | k_is | rfl | decide)
    (case l_l_back => first | k_is | rfl | decide)
    (case c_l_back => first | k_is | rfl | decide)
    (case k_l_back => first | k_is | rfl | decide)
    (case a_l_parted => first | k_is | rfl | decide)
    (case l_l_parted => first | k_is | rfl | decide)
    (case c_l_parted => first | k_is | rfl | decide)
    (case k_l_parted => first | k_is | rfl | decide)
    (case a_l_rest => first | k_is | rfl | decide)
    (case l_l_rest => first | k_is | rfl | decide)
    (case c_l_rest => first | k_is | rfl | decide)
    (case k_l_rest => first | k_is | rfl | decide)
    (case a_l_monics => first | k_is | rfl | decide)
    (case l_l_monics => first | k_is | rfl | decide)
    (case c_l_monics => first | k_is | rfl | decide)
    (case k_l_monics => first | k_is | rfl | decide)
    (case a_l_common => first | k_is | rfl | decide)
    (case l_l_common => first | k_is | rfl | decide)
    (case c_l_common => first | k_is | rfl | decide)
    (case k_l_common => first | k_is | rfl | decide)
    (case a_l_made => first | k_is | rfl | decide)
    (case l_l_made => first | k_is | rfl | decide)
    (case c_l_made => first | k_is | rfl | decide)
    (case k_l_made => first | k_is | rfl | decide)
    (case a_l_is_double => first | k_is | rfl | decide)
    (case l_l_is_double => first | k_is | rfl | decide)
    (case c_l_is_double => first | k_is | rfl | decide)
    (case k_l_is_double => first | k_is | rfl | decide)
    (case a_l_simple => first | k_is | rfl | decide)
    (case l_l_simple => first | k_is | rfl | decide)
    (case c_l_simple => first | k_is | rfl | decide)
    (case k_l_simple => first | k_is | rfl | decide)
    (case a_l_curve_right => first | k_is | rfl | decide)
    (case l_l_curve_right => first | k_is | rfl | decide)
    (case c_l_curve_right => first | k_is | rfl | decide)
    (case k_l_curve_right => first | k_is | rfl | decide)
    (case a_l_right => first | k_is | rfl | decide)
    (case l_l_right => first | k_is | rfl | decide)
    (case c_l_right => first | k_is | rfl | decide)
    (case k_l_right => first | k_is | rfl | decide)
    (case a_law => first | k_is | rfl | decide)
    (case l_law => first | k_is | rfl | decide)
    (case c_law => first | k_is | rfl | decide)
    (case k_law => first | k_is | rfl | decide)
    (case pg => first | k_is | rfl | decide)
    (case hd => first | k_is | rfl | decide)
    (case po => first | k_is | rfl | decide)
    (case sa => first | k_is | rfl | decide)
    (case ha => first | k_is | rfl | decide)
    (case hn => first | k_is | rfl | decide)
    (case htk => first | k_is | rfl | decide)
    (case hm => first | k_is | rfl | decide)
    (case mk => first | k_is | rfl | decide)
    (case kc => first | k_is | rfl | decide)
    (case n_prime => first | k_is | rfl | decide)
    (case n_polynomial => first | k_is | rfl | decide)
    (case a_PR => first | k_is | rfl | decide)
    (case l_PR => first | k_is | rfl | decide)
    (case a_MP => first | k_is | rfl | decide)
    (case z_bool => first | k_is | rfl | decide)
    (case z_enumerate => first | k_is | rfl | decide)
    (case z_int => first | k_is | rfl | decide)
    (case z_isinstance => first | k_is | rfl | decide)
    (case z_len => first | k_is | rfl | decide)
    (case z_list => first | k_is | rfl | decide)
    (case z_max => first | k_is | rfl | decide)
    (case z_range => first | k_is | rfl | decide)
    (case z_repr => first | k_is | rfl | decide)
    (case z_sum => first | k_is | rfl | decide)
    (case z_super => first | k_is | rfl | decide)
    (case z_tuple => first | k_is | rfl | decide)
    (case eI => first | k_is | rfl | decide)
    (case eT => first | k_is | rfl | decide)
    (case eL => first | k_is | rfl | decide)
    (case eC => first | k_is | rfl | decide)
    (case eCell => first | k_is | rfl | decide)
    (case eCellD => first | k_is | rfl | decide)
    (case eCc => first | k_is | rfl | decide)
    (case eCcD => first | k_is | rfl | decide)
    (case eFile => first | k_is | rfl | decide)
    (case eFile2 => first | k_is | rfl | decide)
    (case eTop => first | k_is | rfl | decide)
    (case eTE => first | k_is | rfl | decide)
    (case eTED => first | k_is | rfl | decide)
    (case xL => first | k_is | rfl | decide)
    (case xB => first | k_is | rfl | decide)
    (case xSa => first | k_is | rfl | decide)
    (case xEx => first | k_is | rfl | decide)
    (case xTy => first | k_is | rfl | decide)
    (case xK => first | k_is | rfl | decide)
    (case sTop => first | k_is | rfl | decide)
    (case sSup => first | k_is | rfl | decide)
    (case sVal => first | k_is | rfl | decide)
    (case sSub => first | k_is | rfl | decide)
    (case nv => first | k_is | rfl | decide)
    (case xGa => first | k_is | rfl | decide)
    (case xGt => first | k_is | rfl | decide)
    (case xHd => first | k_is | rfl | decide)
    (case xCl => first | k_is | rfl | decide)
    (case xMr => first | k_is | rfl | decide)
    (case em => first | k_is | rfl | decide)
    (case kl => first | k_is | rfl | decide)
    (case ks => first | k_is | rfl | decide)
    (case nfL => first | k_is | rfl | decide)
    (case nfS => first | k_is | rfl | decide)
