import PyProof.Rows.All
import Wide.All
import OpenK.AllK
import Wide.FinOn
import HandS.ForMost
import HandS.IsInst
import HandS.Walk
import HandS.Zip
import HandS.DictComp
import HandS.TupAny
import HandS.Exc
import HandS.WordsExc
import HandS.ExcField
import HandS.MakeKw
import PyProof.IsiBase
import KE.KIsAll
import KE.KExcSuper
import KE.KFromBytes
import KE.GoesEnum
import HandS.Wide
import HandS.WordsDict
import HandS.TupLen
import HandS.Style
import HandS.Text
import PyProof.InstEq
import HandS.SlotsOwn
import HandS.MakeKwOnly
import HandS.ExcOwn
import KE.RegKSuper
import PySem.Challenge.RW_ringwalkers_k01_whole_paths
set_option Elab.async false
set_option linter.all false
set_option maxRecDepth 100000
set_option maxHeartbeats 8000000
/-! own layer 1: data, what stands for it in a heap, pure evaluation -/
namespace RW
open PySem PySem.Spec L2

/-- data: exact values, flat ones, lists, tuples, dicts, instances -/
inductive D where
  | x (y : V)
  | v (y : V)
  | l (ds : List D)
  | f (ds : List D)
  | t (ds : List D)
  | d (kds : List (Key × D))
  | dt (kds : List (List Key × D))
  | o (C : Addr) (fs : List (Str × D))

abbrev D.n : D := .v .non
abbrev D.b (b : Bool) : D := .v (.bl b)
abbrev D.i (i : Int) : D := .v (.int i)
abbrev D.s (s : Str) : D := .v (.str s)

/-- a def of the text -/
def FnK (K : PySem.W.Frag) (a : Addr) : Prop := ∃ o, K.lookup a = some o ∧ o.cls = .type "function"
def Flat (K : PySem.W.Frag) : V → Prop
  | .non => True
  | .bl _ => True
  | .int _ => True
  | .str _ => True
  | .ref a => FnK K a
  | _ => False

/-- a list of the written part -/
def KL (K : PySem.W.Frag) (a : Addr) (xs : List V) : Prop := ∃ (o : Obj) (its : Array Value) (n : Nat), K.lookup a = some o ∧ o.cls = .type "list" ∧ o.dict = none ∧ o.data = .seq its n ∧ its.size ≤ sizeLine ∧ Vals xs its.toList
def SqF (K : PySem.W.Frag) (G : Hp) (a : Addr) (xs : List V) : Prop := (∃ ob, G a = some (.frz ob (.lst xs))) ∨ KL K a xs
inductive R (K : PySem.W.Frag) (G : Hp) : V → D → Prop
  | x {y : V} : R K G y (.x y)
  | v {y : V} (h : Flat K y) : R K G y (.v y)
  | l {a : Addr} {xs : List V} {ds : List D} (h : G a = some (.lst xs)) (hl : xs.length = ds.length) (hp : ∀ (i : Nat) y d, xs[i]? = some y → ds[i]? = some d → R K G y d) : R K G (.ref a) (.l ds)
  | f {a : Addr} {xs : List V} {ds : List D} (h : SqF K G a xs) (hl : xs.length = ds.length) (hp : ∀ (i : Nat) y d, xs[i]? = some y → ds[i]? = some d → R K G y d) : R K G (.ref a) (.f ds)
  | t {a : Addr} {xs : List V} {ds : List D} (h : G a = some (.tup xs)) (hl : xs.length = ds.length) (hp : ∀ (i : Nat) y d, xs[i]? = some y → ds[i]? = some d → R K G y d) : R K G (.ref a) (.t ds)
  | d {a : Addr} {xs : List (Key × V)} {ds : List (Key × D)} (h : G a = some (.dK xs)) (hk : xs.map (·.1) = ds.map (·.1)) (hn : (ds.map (·.1)).Nodup) (hp : ∀ (i : Nat) y d, xs[i]? = some y → ds[i]? = some d → R K G y.2 d.2) : R K G (.ref a) (.d ds)
  | dt {a : Addr} {xs : List (List Key × V)} {ds : List (List Key × D)} (h : G a = some (.dT xs)) (hk : xs.map (·.1) = ds.map (·.1)) (hn : (ds.map (·.1)).Nodup) (hp : ∀ (i : Nat) y d, xs[i]? = some y → ds[i]? = some d → R K G y.2 d.2) : R K G (.ref a) (.dt ds)
  | o {a C dx : Addr} {xs : List (Str × V)} {ds : List (Str × D)} (h : G a = some (.ins C dx xs)) (hk : xs.map (·.1) = ds.map (·.1)) (hp : ∀ (i : Nat) y d, xs[i]? = some y → ds[i]? = some d → R K G y.2 d.2) : R K G (.ref a) (.o C ds)

inductive RA (K : PySem.W.Frag) (G : Hp) : List V → List D → Prop
  | nil : RA K G [] []
  | cons {y : V} {d : D} {ys : List V} {ds : List D} (h : R K G y d) (t : RA K G ys ds) : RA K G (y :: ys) (d :: ds)

def Ex (H H' : Hp) : Prop := ∀ a o, H a = some o → H' a = some o
/-- what a walk may lock -/
def Lk : HO → Prop
  | .dK _ => True
  | .dT _ => True
  | _ => False
def RdL (H : Hp) (a : Addr) (o : HO) : Prop := H a = some o ∨ (Lk o ∧ ∃ ob, H a = some (.frz ob o))
def Sub (G H : Hp) : Prop := ∀ a o, G a = some o → RdL H a o

theorem Ex.refl (H : Hp) : Ex H H := fun _ _ h => h
theorem Ex.trans {A B C : Hp} (a : Ex A B) (b : Ex B C) : Ex A C := fun x o h => b x o (a x o h)
theorem Ex.new {H : Hp} {p : Addr} {o : HO} (h : H p = none) : Ex H (upd H p o) := fun a u e => by
  rw [upd_ne (ne_of_none e h)]
  exact e
theorem Ex.none' {H H' : Hp} {p : Addr} (e : Ex H H') (h : H' p = none) : H p = none := by
  cases q : H p with
  | none => rfl
  | some o => rw [e p o q] at h; cases h
theorem Sub.none' {G H : Hp} {p : Addr} (e : Sub G H) (h : H p = none) : G p = none := by
  cases q : G p with
  | none => rfl
  | some o =>
    rcases e p o q with z | ⟨_, _, z⟩ <;> (rw [h] at z; cases z)
theorem Sub.ex {G G' H : Hp} (a : Ex G G') (b : Sub G' H) : Sub G H := fun x o h => b x o (a x o h)
theorem Sub.right {G H H' : Hp} (a : Sub G H) (b : Ex H H') : Sub G H' := fun x o h => by
  rcases a x o h with z | ⟨l, ob, z⟩
  · exact .inl (b x o z)
  · exact .inr ⟨l, ob, b x _ z⟩
theorem Sub.new {G H : Hp} {p : Addr} {o : HO} (a : Sub G H) (h : H p = none) : Sub (upd G p o) (upd H p o) := fun b u e => by
  by_cases hb : b = p
  · subst hb
    rw [upd_same] at e
    exact .inl (by rw [upd_same]; exact e)
  · rw [upd_ne hb] at e
    rcases a b u e with z | ⟨l, ob, z⟩
    · exact .inl (by rw [upd_ne hb]; exact z)
    · exact .inr ⟨l, ob, by rw [upd_ne hb]; exact z⟩
/-- an object that G does not know may be laid or changed -/
theorem Sub.mut {G H : Hp} {p : Addr} {o : HO} (a : Sub G H) (h : G p = none) : Sub G (upd H p o) := fun b u e => by
  have hb : b ≠ p := ne_of_none e h
  rcases a b u e with z | ⟨l, ob, z⟩
  · exact .inl (by rw [upd_ne hb]; exact z)
  · exact .inr ⟨l, ob, by rw [upd_ne hb]; exact z⟩
/-- G takes up an object as it stands -/
theorem Sub.take {G H : Hp} {p : Addr} {o : HO} (a : Sub G H) (h : H p = some o) : Sub (upd G p o) H := fun b u e => by
  by_cases hb : b = p
  · subst hb
    rw [upd_same] at e
    cases e
    exact .inl h
  · rw [upd_ne hb] at e
    exact a b u e

theorem R.mono {K : PySem.W.Frag} {G G' : Hp} {y : V} {d : D} (h : R K G y d) (e : Ex G G') : R K G' y d := by
  induction h with
  | x => exact .x
  | v h => exact .v h
  | l h hl hp ih => exact .l (e _ _ h) hl ih
  | f h hl hp ih => exact .f (h.imp (fun ⟨ob, q⟩ => ⟨ob, e _ _ q⟩) id) hl ih
  | t h hl hp ih => exact .t (e _ _ h) hl ih
  | d h hk hn hp ih => exact .d (e _ _ h) hk hn ih
  | dt h hk hn hp ih => exact .dt (e _ _ h) hk hn ih
  | o h hk hp ih => exact .o (e _ _ h) hk ih
theorem RA.mono {K : PySem.W.Frag} {G G' : Hp} {ys : List V} {ds : List D} (h : RA K G ys ds) (e : Ex G G') : RA K G' ys ds := by
  induction h with
  | nil => exact .nil
  | cons h t ih => exact .cons (h.mono e) ih
theorem RA.length {K : PySem.W.Frag} {G : Hp} {ys : List V} {ds : List D} (h : RA K G ys ds) : ys.length = ds.length := by
  induction h with
  | nil => rfl
  | cons h t ih => simp [ih]
theorem RA.get {K : PySem.W.Frag} {G : Hp} {ys : List V} {ds : List D} (h : RA K G ys ds) : ∀ (i : Nat) y d, ys[i]? = some y → ds[i]? = some d → R K G y d := by
  induction h with
  | nil => intro i y d h; simp at h
  | cons h t ih =>
    intro i y d h1 h2
    cases i with
    | zero => simp at h1 h2; subst h1; subst h2; exact h
    | succ i => exact ih i y d (by simpa using h1) (by simpa using h2)
theorem RA.of {K : PySem.W.Frag} {G : Hp} : ∀ {ys : List V} {ds : List D}, ys.length = ds.length → (∀ (i : Nat) y d, ys[i]? = some y → ds[i]? = some d → R K G y d) → RA K G ys ds
  | [], [], _, _ => .nil
  | [], _ :: _, h, _ => by simp at h
  | _ :: _, [], h, _ => by simp at h
  | y :: ys, d :: ds, h, p => .cons (p 0 y d rfl rfl) (RA.of (by simpa using h) fun i a b h1 h2 => p (i + 1) a b (by simpa using h1) (by simpa using h2))
theorem RA.append {K : PySem.W.Frag} {G : Hp} {ys zs : List V} {ds es : List D} (h : RA K G ys ds) (k : RA K G zs es) : RA K G (ys ++ zs) (ds ++ es) := by
  induction h with
  | nil => exact k
  | cons h t ih => exact .cons h ih
theorem RA.take {K : PySem.W.Frag} {G : Hp} {ys : List V} {ds : List D} (h : RA K G ys ds) : ∀ n, RA K G (ys.take n) (ds.take n) := by
  induction h with
  | nil => intro n; simp; exact .nil
  | cons h t ih =>
    intro n
    cases n with
    | zero => exact .nil
    | succ n => exact .cons h (ih n)
theorem RA.drop {K : PySem.W.Frag} {G : Hp} {ys : List V} {ds : List D} (h : RA K G ys ds) : ∀ n, RA K G (ys.drop n) (ds.drop n) := by
  induction h with
  | nil => intro n; simp; exact .nil
  | cons h t ih =>
    intro n
    cases n with
    | zero => exact .cons h t
    | succ n => exact ih n
theorem RA.reverse {K : PySem.W.Frag} {G : Hp} {ys : List V} {ds : List D} (h : RA K G ys ds) : RA K G ys.reverse ds.reverse := by
  induction h with
  | nil => exact .nil
  | cons h t ih => rw [List.reverse_cons, List.reverse_cons]; exact ih.append (.cons h .nil)
theorem RA.at {K : PySem.W.Frag} {G : Hp} {ys : List V} {ds : List D} (h : RA K G ys ds) {i : Nat} {d : D} (e : ds[i]? = some d) : ∃ y, ys[i]? = some y ∧ R K G y d := by
  have hi := (List.getElem?_eq_some_iff.mp e).1
  have hj : i < ys.length := by rw [h.length]; exact hi
  exact ⟨ys[i], List.getElem?_eq_getElem hj, h.get i _ d (List.getElem?_eq_getElem hj) e⟩
theorem RA.eraseIdx {K : PySem.W.Frag} {G : Hp} {ys : List V} {ds : List D} (h : RA K G ys ds) : ∀ n, RA K G (ys.eraseIdx n) (ds.eraseIdx n) := by
  induction h with
  | nil => intro n; exact .nil
  | cons h t ih =>
    intro n
    cases n with
    | zero => exact t
    | succ n => exact .cons h (ih n)
theorem R.lst {K : PySem.W.Frag} {G : Hp} {a : Addr} {xs : List V} {ds : List D} (h : G a = some (.lst xs)) (r : RA K G xs ds) : R K G (.ref a) (.l ds) := .l h r.length r.get
theorem R.tup {K : PySem.W.Frag} {G : Hp} {a : Addr} {xs : List V} {ds : List D} (h : G a = some (.tup xs)) (r : RA K G xs ds) : R K G (.ref a) (.t ds) := .t h r.length r.get
theorem R.lst_inv {K : PySem.W.Frag} {G : Hp} {y : V} {ds : List D} (h : R K G y (.l ds)) : ∃ a xs, y = .ref a ∧ G a = some (.lst xs) ∧ RA K G xs ds := by
  cases h with
  | l h hl hp => exact ⟨_, _, rfl, h, RA.of hl hp⟩
theorem R.frz_inv {K : PySem.W.Frag} {G : Hp} {y : V} {ds : List D} (h : R K G y (.f ds)) : ∃ a xs, y = .ref a ∧ SqF K G a xs ∧ RA K G xs ds := by
  cases h with
  | f h hl hp => exact ⟨_, _, rfl, h, RA.of hl hp⟩
theorem Sub.lst {G H : Hp} {a : Addr} {xs : List V} (s : Sub G H) (h : G a = some (.lst xs)) : H a = some (.lst xs) := (s a _ h).elim id fun z => z.1.elim
theorem Sub.tup {G H : Hp} {a : Addr} {xs : List V} (s : Sub G H) (h : G a = some (.tup xs)) : H a = some (.tup xs) := (s a _ h).elim id fun z => z.1.elim
theorem Sub.frz {G H : Hp} {a : Addr} {ob : Obj} {o : HO} (s : Sub G H) (h : G a = some (.frz ob o)) : H a = some (.frz ob o) := (s a _ h).elim id fun z => z.1.elim
theorem Sub.ins {G H : Hp} {a C dx : Addr} {fs : List (Str × V)} (s : Sub G H) (h : G a = some (.ins C dx fs)) : H a = some (.ins C dx fs) := (s a _ h).elim id fun z => z.1.elim
theorem Sub.dK {G H : Hp} {a : Addr} {kvs : List (Key × V)} (s : Sub G H) (h : G a = some (.dK kvs)) : H a = some (.dK kvs) ∨ ∃ ob, H a = some (.frz ob (.dK kvs)) := (s a _ h).elim .inl fun z => .inr z.2
theorem Sub.dT {G H : Hp} {a : Addr} {kvs : List (List Key × V)} (s : Sub G H) (h : G a = some (.dT kvs)) : H a = some (.dT kvs) ∨ ∃ ob, H a = some (.frz ob (.dT kvs)) := (s a _ h).elim .inl fun z => .inr z.2
theorem R.tup_inv {K : PySem.W.Frag} {G : Hp} {y : V} {ds : List D} (h : R K G y (.t ds)) : ∃ a xs, y = .ref a ∧ G a = some (.tup xs) ∧ RA K G xs ds := by
  cases h with
  | t h hl hp => exact ⟨_, _, rfl, h, RA.of hl hp⟩
theorem R.v_inv {K : PySem.W.Frag} {G : Hp} {y z : V} (h : R K G y (.v z)) : y = z ∧ Flat K z := by
  cases h with
  | v h => exact ⟨rfl, h⟩
theorem R.x_inv {K : PySem.W.Frag} {G : Hp} {y z : V} (h : R K G y (.x z)) : y = z := by
  cases h with
  | x => rfl
theorem R.int {K : PySem.W.Frag} {G : Hp} {i : Int} : R K G (.int i) (.v (.int i)) := .v True.intro
theorem R.str {K : PySem.W.Frag} {G : Hp} {i : Str} : R K G (.str i) (.v (.str i)) := .v True.intro
theorem R.bl {K : PySem.W.Frag} {G : Hp} {i : Bool} : R K G (.bl i) (.v (.bl i)) := .v True.intro
theorem R.non {K : PySem.W.Frag} {G : Hp} : R K G .non (.v .non) := .v True.intro

/-- the stable heap and the actual one go on; objects that G does not know stay unknown -/
structure Gr (M : Addr → Prop) (G H G' H' : Hp) : Prop where
  g : Ex G G'
  h : ∀ b o, ¬ M b → H b = some o → H' b = some o
  s : Sub G' H'
  n : ∀ b o, H b = some o → G b = none → G' b = none
  d : ∀ b o, H b = some o → ∃ o', H' b = some o'
abbrev M0 : Addr → Prop := fun _ => False
theorem Gr.ex {G H G' H' : Hp} (g : Gr M0 G H G' H') : Ex H H' := fun b o e => g.h b o (fun z => z) e
theorem Gr.refl {M : Addr → Prop} {G H : Hp} (s : Sub G H) : Gr M G H G H := ⟨Ex.refl G, fun _ _ _ h => h, s, fun _ _ _ h => h, fun _ o h => ⟨o, h⟩⟩
theorem Gr.trans {M : Addr → Prop} {G H G1 H1 G2 H2 : Hp} (a : Gr M G H G1 H1) (b : Gr M G1 H1 G2 H2) : Gr M G H G2 H2 where
  g := a.g.trans b.g
  h := fun c o m e => b.h c o m (a.h c o m e)
  s := b.s
  n := fun c o e q => by
    obtain ⟨o', e'⟩ := a.d c o e
    exact b.n c o' e' (a.n c o e q)
  d := fun c o e => by
    obtain ⟨o', e'⟩ := a.d c o e
    exact b.d c o' e'
theorem Gr.weak {M M' : Addr → Prop} {G H G1 H1 : Hp} (a : Gr M G H G1 H1) (h : ∀ b, M b → M' b) : Gr M' G H G1 H1 := ⟨a.g, fun c o m e => a.h c o (fun z => m (h c z)) e, a.s, a.n, a.d⟩
theorem Gr.up {M : Addr → Prop} {G H G1 H1 : Hp} (a : Gr M0 G H G1 H1) : Gr M G H G1 H1 := a.weak fun _ z => z.elim
/-- G only: back to an older stable heap -/
theorem Gr.back {M : Addr → Prop} {G H G1 H1 : Hp} (a : Gr M G H G1 H1) : Gr M G H G H1 := ⟨Ex.refl G, a.h, Sub.ex a.g a.s, fun _ _ _ h => h, a.d⟩
/-- a new object, known to G -/
theorem Gr.new {M : Addr → Prop} {G H : Hp} {p : Addr} {o : HO} (s : Sub G H) (h : H p = none) : Gr M G H (upd G p o) (upd H p o) where
  g := Ex.new (s.none' h)
  h := fun b u _ e => by rw [upd_ne (ne_of_none e h)]; exact e
  s := s.new h
  n := fun b u e q => by rw [upd_ne (ne_of_none e h)]; exact q
  d := fun b u e => ⟨u, by rw [upd_ne (ne_of_none e h)]; exact e⟩
/-- a new object, unknown to G -/
theorem Gr.newM {M : Addr → Prop} {G H : Hp} {p : Addr} {o : HO} (s : Sub G H) (h : H p = none) : Gr M G H G (upd H p o) where
  g := Ex.refl G
  h := fun b u _ e => by rw [upd_ne (ne_of_none e h)]; exact e
  s := s.mut (s.none' h)
  n := fun b u e q => q
  d := fun b u e => ⟨u, by rw [upd_ne (ne_of_none e h)]; exact e⟩
/-- an object is changed that may be changed -/
theorem Gr.write {M : Addr → Prop} {G H : Hp} {p : Addr} {o : HO} (s : Sub G H) (m : M p) (h : G p = none) : Gr M G H G (upd H p o) where
  g := Ex.refl G
  h := fun b u nm e => by
    have hb : b ≠ p := fun z => nm (z ▸ m)
    rw [upd_ne hb]; exact e
  s := s.mut h
  n := fun b u e q => q
  d := fun b u e => by
    by_cases hb : b = p
    · exact ⟨o, by rw [hb, upd_same]⟩
    · exact ⟨u, by rw [upd_ne hb]; exact e⟩
/-- from an older point: an object that was not there is changed -/
theorem Gr.over {M : Addr → Prop} {G0 H0 G H : Hp} {p : Addr} {o : HO} (a : Gr M G0 H0 G H) (h0 : H0 p = none) (h : G p = none) : Gr M G0 H0 G (upd H p o) where
  g := a.g
  h := fun b u nm e => by rw [upd_ne (ne_of_none e h0)]; exact a.h b u nm e
  s := a.s.mut h
  n := a.n
  d := fun b u e => by rw [upd_ne (ne_of_none e h0)]; exact a.d b u e
/-- from an older point: an object that was not there becomes known -/
theorem Gr.take {M : Addr → Prop} {G0 H0 G H : Hp} {p : Addr} {o : HO} (a : Gr M G0 H0 G H) (h0 : H0 p = none) (hG : G p = none) (h : H p = some o) : Gr M G0 H0 (upd G p o) H where
  g := a.g.trans (Ex.new hG)
  h := a.h
  s := a.s.take h
  n := fun b u e q => by rw [upd_ne (ne_of_none e h0)]; exact a.n b u e q
  d := a.d

/-! ### evaluation of pure expressions -/
def Ev (K : PySem.W.Frag) (te : TE) (σ : St) (G : Hp) (d : D) : Prop :=
  ∀ (G1 H1 : Hp) (Q : VK), Ex G G1 → Sub G1 H1 → (∀ y G2 H2, Gr M0 G1 H1 G2 H2 → R K G2 y d → Q y H2) → te σ H1 Q
def EvA (K : PySem.W.Frag) (ta : TA) (σ : St) (G : Hp) (ds : List D) : Prop :=
  ∀ (G1 H1 : Hp) (Q : List V → Hp → Prop), Ex G G1 → Sub G1 H1 → (∀ ys G2 H2, Gr M0 G1 H1 G2 H2 → RA K G2 ys ds → Q ys H2) → ta σ H1 Q
def EvT (tt : TT) (σ : St) (G : Hp) (b : Bool) : Prop :=
  ∀ (G1 H1 : Hp) (Q : Bool → Hp → Prop), Ex G G1 → Sub G1 H1 → (∀ G2 H2, Gr M0 G1 H1 G2 H2 → Q b H2) → tt σ H1 Q
def EvO (to : TO) (σ : St) (G : Hp) (o : Option Int) : Prop :=
  ∀ (G1 H1 : Hp) (Q : Option Int → Hp → Prop), Ex G G1 → Sub G1 H1 → (∀ G2 H2, Gr M0 G1 H1 G2 H2 → Q o H2) → to σ H1 Q

section
variable {K : PySem.W.Frag} {σ : St} {G G' : Hp} {ta tb tc te tx : TE} {t u : TT} {x y z : V} {d e : D}
theorem Ev.mono (a : Ex G G') (h : Ev K te σ G d) : Ev K te σ G' d := fun G1 H1 Q e s q => h G1 H1 Q (a.trans e) s q
theorem EvA.mono {ta : TA} {ds : List D} (a : Ex G G') (h : EvA K ta σ G ds) : EvA K ta σ G' ds := fun G1 H1 Q e s q => h G1 H1 Q (a.trans e) s q
theorem EvT.mono {b : Bool} (a : Ex G G') (h : EvT t σ G b) : EvT t σ G' b := fun G1 H1 Q e s q => h G1 H1 Q (a.trans e) s q
theorem ev_var {i : Nat} (h : σ[i]? = some (some y)) (r : R K G y d) : Ev K (tVar i) σ G d := fun G1 H1 Q e s q => ⟨y, h, q y G1 H1 (Gr.refl s) (r.mono e)⟩
theorem ev_c (h : Flat K y) : Ev K (tC y) σ G (.v y) := fun G1 H1 Q e s q => q y G1 H1 (Gr.refl s) (.v h)
theorem ev_int {i : Int} : Ev K (tC (.int i)) σ G (.v (.int i)) := ev_c True.intro
theorem ev_str {i : Str} : Ev K (tC (.str i)) σ G (.v (.str i)) := ev_c True.intro
theorem ev_bl {i : Bool} : Ev K (tC (.bl i)) σ G (.v (.bl i)) := ev_c True.intro
theorem ev_non : Ev K (tC .non) σ G (.v .non) := ev_c True.intro
theorem ev_ty {T : String} : Ev K (tC (.ty T)) σ G (.x (.ty T)) := fun G1 H1 Q e s q => q _ G1 H1 (Gr.refl s) .x
theorem ea_nil : EvA K tNil σ G [] := fun G1 H1 Q e s q => q [] G1 H1 (Gr.refl s) .nil
theorem ea_cons {tr : TA} {ds : List D} (h : Ev K ta σ G d) (hr : EvA K tr σ G ds) : EvA K (tCons ta tr) σ G (d :: ds) := fun G1 H1 Q e s q =>
  h G1 H1 _ e s fun y G2 H2 g r => hr G2 H2 _ (e.trans g.g) g.s fun ys G3 H3 g3 rs => q (y :: ys) G3 H3 (g.trans g3) (.cons (r.mono g3.g) rs)
theorem et_test {b : Bool} (h : Ev K te σ G (.v (.bl b))) : EvT (tTest te) σ G b := fun G1 H1 Q e s q => h G1 H1 _ e s fun y G2 H2 g r => by
  obtain ⟨rfl, _⟩ := r.v_inv
  exact ⟨b, rfl, q G2 H2 g⟩
theorem et_B {b : Bool} (h : Ev K te σ G (.v (.bl b))) : EvT (tB te) σ G b := et_test h
theorem et_and {a b : Bool} (h1 : EvT t σ G a) (h2 : a = true → EvT u σ G b) : EvT (tAnd t u) σ G (a && b) := fun G1 H1 Q e s q => h1 G1 H1 _ e s fun G2 H2 g => by
  cases a with
  | true => exact h2 rfl G2 H2 Q (e.trans g.g) g.s fun G3 H3 g3 => q G3 H3 (g.trans g3)
  | false => exact q G2 H2 g
theorem et_or {a b : Bool} (h1 : EvT t σ G a) (h2 : a = false → EvT u σ G b) : EvT (tOr t u) σ G (a || b) := fun G1 H1 Q e s q => h1 G1 H1 _ e s fun G2 H2 g => by
  cases a with
  | true => exact q G2 H2 g
  | false => exact h2 rfl G2 H2 Q (e.trans g.g) g.s fun G3 H3 g3 => q G3 H3 (g.trans g3)
theorem et_not {a : Bool} (h1 : EvT t σ G a) : EvT (tNot t) σ G (!a) := fun G1 H1 Q e s q => h1 G1 H1 _ e s fun G2 H2 g => q G2 H2 g
theorem et_yes : EvT tYes σ G true := fun G1 H1 Q e s q => q G1 H1 (Gr.refl s)
theorem et_is {a b : Bool} (h : EvT t σ G a) (e : a = b) : EvT t σ G b := e ▸ h
theorem ev_is (h : Ev K te σ G d) (q : d = e) : Ev K te σ G e := q ▸ h
theorem ev_andV {a b : Bool} (h1 : Ev K ta σ G (.v (.bl a))) (h2 : a = true → Ev K tb σ G (.v (.bl b))) : Ev K (tAndV ta tb) σ G (.v (.bl (a && b))) := fun G1 H1 Q e s q => h1 G1 H1 _ e s fun y G2 H2 g r => by
  obtain ⟨rfl, _⟩ := r.v_inv
  refine ⟨a, rfl, ?_⟩
  cases a with
  | true => exact h2 rfl G2 H2 Q (e.trans g.g) g.s fun y G3 H3 g3 r => q y G3 H3 (g.trans g3) r
  | false => exact q _ G2 H2 g .bl
theorem ev_orV {a b : Bool} (h1 : Ev K ta σ G (.v (.bl a))) (h2 : a = false → Ev K tb σ G (.v (.bl b))) : Ev K (tOrV ta tb) σ G (.v (.bl (a || b))) := fun G1 H1 Q e s q => h1 G1 H1 _ e s fun y G2 H2 g r => by
  obtain ⟨rfl, _⟩ := r.v_inv
  refine ⟨a, rfl, ?_⟩
  cases a with
  | true => exact q _ G2 H2 g .bl
  | false => exact h2 rfl G2 H2 Q (e.trans g.g) g.s fun y G3 H3 g3 r => q y G3 H3 (g.trans g3) r
theorem ev_notV {a : Bool} (h1 : Ev K ta σ G (.v (.bl a))) : Ev K (tNotV ta) σ G (.v (.bl (!a))) := fun G1 H1 Q e s q => h1 G1 H1 _ e s fun y G2 H2 g r => by
  obtain ⟨rfl, _⟩ := r.v_inv
  exact ⟨a, rfl, q _ G2 H2 g .bl⟩
theorem ev_if {b : Bool} (h : EvT t σ G b) (h1 : b = true → Ev K ta σ G d) (h2 : b = false → Ev K tb σ G d) : Ev K (tIf t ta tb) σ G d := fun G1 H1 Q e s q => h G1 H1 _ e s fun G2 H2 g => by
  cases b with
  | true => exact h1 rfl G2 H2 Q (e.trans g.g) g.s fun y G3 H3 g3 r => q y G3 H3 (g.trans g3) r
  | false => exact h2 rfl G2 H2 Q (e.trans g.g) g.s fun y G3 H3 g3 r => q y G3 H3 (g.trans g3) r
/-- a two-place operation on data -/
def RV (K : PySem.W.Frag) (r : R2) (d e f : D) : Prop := ∀ (G H : Hp) (x y : V) (Q : VK), Sub G H → R K G x d → R K G y e → (∀ z G2 H2, Gr M0 G H G2 H2 → R K G2 z f → Q z H2) → r x y H Q
theorem ev_op {r : R2} {f : D} (ha : Ev K ta σ G d) (hb : Ev K tb σ G e) (hr : RV K r d e f) : Ev K (tOp r ta tb) σ G f := fun G1 H1 Q ex s q =>
  ha G1 H1 _ ex s fun x G2 H2 g2 r2 => hb G2 H2 _ (ex.trans g2.g) g2.s fun y G3 H3 g3 r3 => hr G3 H3 x y Q g3.s (r2.mono g3.g) r3 fun z G4 H4 g4 r4 => q z G4 H4 ((g2.trans g3).trans g4) r4
def RU (K : PySem.W.Frag) (r : V → Hp → VK → Prop) (d f : D) : Prop := ∀ (G H : Hp) (x : V) (Q : VK), Sub G H → R K G x d → (∀ z G2 H2, Gr M0 G H G2 H2 → R K G2 z f → Q z H2) → r x H Q
theorem ev_un {r : V → Hp → VK → Prop} {f : D} (ha : Ev K ta σ G d) (hr : RU K r d f) : Ev K (tUn r ta) σ G f := fun G1 H1 Q ex s q =>
  ha G1 H1 _ ex s fun x G2 H2 g2 r2 => hr G2 H2 x Q g2.s r2 fun z G4 H4 g4 r4 => q z G4 H4 (g2.trans g4) r4
/-- a call on data -/
def RC (K : PySem.W.Frag) (r : List V → Hp → VK → Prop) (ds : List D) (f : D) : Prop := ∀ (G H : Hp) (xs : List V) (Q : VK), Sub G H → RA K G xs ds → (∀ z G2 H2, Gr M0 G H G2 H2 → R K G2 z f → Q z H2) → r xs H Q
theorem ev_cb {r : List V → Hp → VK → Prop} {ta : TA} {ds : List D} {f : D} (ha : EvA K ta σ G ds) (hr : RC K r ds f) : Ev K (tCB r ta) σ G f := fun G1 H1 Q ex s q =>
  ha G1 H1 _ ex s fun x G2 H2 g2 r2 => hr G2 H2 x Q g2.s r2 fun z G4 H4 g4 r4 => q z G4 H4 (g2.trans g4) r4
theorem RA.inv1 {a : List V} (h : RA K G a [d]) : ∃ x, a = [x] ∧ R K G x d := by
  cases h with
  | cons h t => cases t; exact ⟨_, rfl, h⟩
theorem RA.inv2 {a : List V} (h : RA K G a [d, e]) : ∃ x y, a = [x, y] ∧ R K G x d ∧ R K G y e := by
  cases h with
  | cons h t =>
    obtain ⟨y, rfl, h2⟩ := t.inv1
    exact ⟨_, _, rfl, h, h2⟩
end
/-! operations -/
section
variable {K : PySem.W.Frag} {σ : St} {G G' : Hp} {ta tb tc te tx : TE} {t u : TT}
theorem rv_I0 {g : Int → Int → V} {i j : Int} (h : Flat K (g i j)) : RV K (rI0 g) (.v (.int i)) (.v (.int j)) (.v (g i j)) := fun G H x y Q s rx ry q => by
  obtain ⟨rfl, _⟩ := rx.v_inv
  obtain ⟨rfl, _⟩ := ry.v_inv
  exact ⟨i, j, rfl, rfl, q _ G H (Gr.refl s) (.v h)⟩
theorem rv_I {C : Int → Int → Prop} {g : Int → Int → V} {i j : Int} (hc : C i j) (h : Flat K (g i j)) : RV K (rI C g) (.v (.int i)) (.v (.int j)) (.v (g i j)) := fun G H x y Q s rx ry q => by
  obtain ⟨rfl, _⟩ := rx.v_inv
  obtain ⟨rfl, _⟩ := ry.v_inv
  exact ⟨i, j, rfl, rfl, hc, q _ G H (Gr.refl s) (.v h)⟩
theorem rv_eq {x y : V} (h : scal x y = true) : RV K rEq (.v x) (.v y) (.v (.bl (decide (x = y)))) := fun G H x y Q s rx ry q => by
  obtain ⟨rfl, _⟩ := rx.v_inv
  obtain ⟨rfl, _⟩ := ry.v_inv
  exact ⟨h, q _ G H (Gr.refl s) .bl⟩
theorem rv_ne {x y : V} (h : scal x y = true) : RV K rNe (.v x) (.v y) (.v (.bl (!decide (x = y)))) := fun G H x y Q s rx ry q => by
  obtain ⟨rfl, _⟩ := rx.v_inv
  obtain ⟨rfl, _⟩ := ry.v_inv
  exact ⟨h, q _ G H (Gr.refl s) .bl⟩
theorem ru_I {g : Int → V} {i : Int} (h : Flat K (g i)) : RU K (rU g) (.v (.int i)) (.v (g i)) := fun G H x Q s rx q => by
  obtain ⟨rfl, _⟩ := rx.v_inv
  exact ⟨i, rfl, q _ G H (Gr.refl s) (.v h)⟩
theorem size_of {n : Nat} (h : n ≤ 100000) : n ≤ sizeLine := Nat.le_trans h (by decide)
theorem size_lt {n : Nat} (h : n < 100000) : n < sizeLine := Nat.lt_of_lt_of_le h (by decide)
theorem ev_tup {ta : TA} {ds : List D} (h : EvA K ta σ G ds) (hl : ds.length ≤ 100000) : Ev K (tTup ta) σ G (.t ds) := fun G1 H1 Q ex s q =>
  h G1 H1 _ ex s fun ys G2 H2 g r => ⟨size_of (by rw [r.length]; exact hl), fun p hp => q (.ref p) (upd G2 p (.tup ys)) _ (g.trans (Gr.new g.s hp)) (R.tup upd_same (r.mono (Ex.new (g.s.none' hp))))⟩
theorem ev_lst {ta : TA} {ds : List D} (h : EvA K ta σ G ds) (hl : ds.length ≤ 100000) : Ev K (tLst ta) σ G (.l ds) := fun G1 H1 Q ex s q =>
  h G1 H1 _ ex s fun ys G2 H2 g r => ⟨size_of (by rw [r.length]; exact hl), fun p hp => q (.ref p) (upd G2 p (.lst ys)) _ (g.trans (Gr.new g.s hp)) (R.lst upd_same (r.mono (Ex.new (g.s.none' hp))))⟩
theorem sql_of {G H : Hp} {a : Addr} {xs : List V} (s : Sub G H) (h : G a = some (.lst xs)) : SqL K H a xs := .inl ((s a _ h).elim .inl fun z => .inr z.2)
theorem sqt_of {G H : Hp} {a : Addr} {xs : List V} (s : Sub G H) (h : G a = some (.tup xs)) : SqT K H a xs := .inl ((s a _ h).elim .inl fun z => .inr z.2)
/-- items by place -/
theorem RA.atI {K : PySem.W.Frag} {G : Hp} {xs : List V} {ds : List D} (r : RA K G xs ds) {i : Int} {d : D} (h : L2.atI ds i = some d) : ∃ v, L2.atI xs i = some v ∧ R K G v d := by
  unfold L2.atI at h ⊢
  rw [r.length]
  cases e : ixN ds.length i with
  | none => rw [e] at h; simp at h
  | some j =>
    rw [e] at h
    simp only [Option.bind_some] at h ⊢
    exact r.at h
theorem rv_ixL {ds : List D} {i : Int} {d : D} (h : L2.atI ds i = some d) : RV K (rIxL K) (.l ds) (.v (.int i)) d := fun G H x y Q s rx ry q => by
  obtain ⟨a, xs, rfl, ha, r⟩ := rx.lst_inv
  obtain ⟨rfl, _⟩ := ry.v_inv
  obtain ⟨v, hv, rv⟩ := r.atI h
  exact ⟨a, xs, i, v, rfl, rfl, sql_of s ha, hv, q v G H (Gr.refl s) rv⟩
theorem rv_ixT {ds : List D} {i : Int} {d : D} (h : L2.atI ds i = some d) : RV K (rIxT K) (.t ds) (.v (.int i)) d := fun G H x y Q s rx ry q => by
  obtain ⟨a, xs, rfl, ha, r⟩ := rx.tup_inv
  obtain ⟨rfl, _⟩ := ry.v_inv
  obtain ⟨v, hv, rv⟩ := r.atI h
  exact ⟨a, xs, i, v, rfl, rfl, sqt_of s ha, hv, q v G H (Gr.refl s) rv⟩
theorem rv_ixS {w : Str} {i : Int} {c : Nat} (h : w.length ≤ 100000) (ha : L2.atI w.cps.toList i = some c) : RV K rIxS (.v (.str w)) (.v (.int i)) (.v (.str ⟨#[c]⟩)) := fun G H x y Q s rx ry q => by
  obtain ⟨rfl, _⟩ := rx.v_inv
  obtain ⟨rfl, _⟩ := ry.v_inv
  exact ⟨w, i, c, rfl, rfl, size_of h, ha, q _ G H (Gr.refl s) .str⟩
/-- any of the three -/
theorem rv_ix1 {d e f : D} (h : RV K (rIxL K) d e f) : RV K (rIx K) d e f := fun G H x y Q s rx ry q => .inl (h G H x y Q s rx ry q)
theorem rv_ix2 {d e f : D} (h : RV K (rIxT K) d e f) : RV K (rIx K) d e f := fun G H x y Q s rx ry q => .inr (.inl (h G H x y Q s rx ry q))
theorem rv_ix3 {d e f : D} (h : RV K rIxS d e f) : RV K (rIx K) d e f := fun G H x y Q s rx ry q => .inr (.inr (h G H x y Q s rx ry q))
/-! ### fields -/
theorem R.o_inv {K : PySem.W.Frag} {G : Hp} {y : V} {C : Addr} {fs : List (Str × D)} (h : R K G y (.o C fs)) : ∃ a dx xs, y = .ref a ∧ G a = some (.ins C dx xs) ∧ xs.map (·.1) = fs.map (·.1) ∧ RA K G (xs.map (·.2)) (fs.map (·.2)) := by
  cases h with
  | @o a C dx xs _ h hk hp =>
    refine ⟨a, dx, xs, rfl, h, hk, RA.of ?_ fun i y d h1 h2 => ?_⟩
    · have := congrArg List.length hk
      simpa using this
    · rw [List.getElem?_map] at h1 h2
      cases e1 : xs[i]? with
      | none => rw [e1] at h1; cases h1
      | some p =>
        cases e2 : fs[i]? with
        | none => rw [e2] at h2; cases h2
        | some q =>
          rw [e1] at h1; rw [e2] at h2
          cases h1; cases h2
          exact hp i p q e1 e2
theorem lookup_pair {K : PySem.W.Frag} {G : Hp} {f : Str} {d : D} : ∀ {xs : List (Str × V)} {fs : List (Str × D)}, xs.map (·.1) = fs.map (·.1) → RA K G (xs.map (·.2)) (fs.map (·.2)) → fs.lookup f = some d → ∃ v, xs.lookup f = some v ∧ R K G v d
  | [], [], _, _, h => by simp [List.lookup] at h
  | [], _ :: _, h, _, _ => by simp at h
  | _ :: _, [], h, _, _ => by simp at h
  | (k, v) :: xs, (k', d') :: fs, h, r, hl => by
    simp only [List.map_cons, List.cons.injEq] at h
    obtain ⟨rfl, h⟩ := h
    cases r with
    | cons r rr =>
      simp only [List.lookup] at hl ⊢
      cases e : f == k with
      | true => rw [e] at hl; simp only [Option.some.injEq] at hl; subst hl; exact ⟨v, rfl, r⟩
      | false => rw [e] at hl; exact lookup_pair h rr hl
theorem ev_fld {C : Addr} {fs : List (Str × D)} {f : Str} {d : D} (h : Ev K te σ G (.o C fs)) (c : Cls K C) (n : NoAttr K C f) (hl : fs.lookup f = some d) : Ev K (tFld K te f) σ G d := fun G1 H1 Q ex s q =>
  h G1 H1 _ ex s fun y G2 H2 g r => by
    obtain ⟨a, dx, xs, rfl, ha, hk, ra⟩ := r.o_inv
    obtain ⟨v, hv, rv⟩ := lookup_pair hk ra hl
    have hH : H2 a = some (.ins C dx xs) := by
      rcases g.s a _ ha with z | ⟨l, _⟩
      · exact z
      · exact l.elim
    exact ⟨a, C, dx, xs, v, rfl, hH, c, n, hv, q v G2 H2 g rv⟩
end
end RW

namespace PySem
open Sem (wp)
namespace F
theorem slot_function_getattribute : Slot "function" "__getattribute__" "object.__getattribute__" := .of (owner := "object") (n := "__getattribute__") (by rw [typeLookup_type, builtinLookup_eq_fast]; kernel_rfl) (by decide +kernel) (by decide +kernel) (by decide +kernel)
    (by first | exact .inl (by decide +kernel) | exact .inr (by decide +kernel)) (by rw [isSubtype_type]; kernel_rfl)
theorem args_object_ga_2 (a b : Value) : argsOk "object.__getattribute__" ⟨[a, b], []⟩ := by unfold argsOk; kernel_rfl
theorem entry_object_ga' : entryFor table "object.__getattribute__" = some Builtin.«object.__getattribute__» := by kernel_rfl
theorem lk_function_class : typeLookup (.type "function") "__class__" = pure (some (.builtin "object.__class__")) := by rw [typeLookup_type, builtinLookup_eq_fast]; kernel_rfl
theorem sub_function_class_owner : isSubtype (.type "function") (.type (".".intercalate ("object.__class__".cutAt '.').dropLast)) = pure true := by
  rw [owner_object_class, isSubtype_type]; kernel_rfl
end F
section
variable {prog : Program} {w : World} {A : Around} {E : Value → Shared → Prop} {h : Heap} {g : Array GenState} {d : Drawn} {t : Nat} {os : OsState} {a : Addr} {o : Obj}

theorem class_get_fn {R : Result → Shared → Prop} (hx : h.get? a = some o) (hc : o.cls = .type "function") (hq : R (.ok (.ret (.type "function"))) ⟨h, g, d, t, os⟩) :
    codeAny (model prog w) A (.call (.builtin "getset_descriptor.__get__") ⟨[.builtin "object.__class__", .ref a, .type "function"], []⟩) R ⟨h, g, d, t, os⟩ := by
  have hT : (⟨h, g, d, t, os⟩ : Shared).TypeIs (.ref a) "function" := ⟨_, hx, hc⟩
  have hT5 : (⟨h, g, d, t, os⟩ : Shared).TypeIs (.builtin "object.__class__") "getset_descriptor" := F.typeOf_object_class
  have f8 := F.sub_function_class_owner
  refine codeAny_call_builtin F.slot_gs_get.plain F.entry_gs_get (F.slot_gs_get.check _ _ _ _ _ _ _ _ hT5 (F.args_gs_get _ _ _) ?_)
  repeat (any_goals (first | assumption | wp_step))
  refine ⟨Code.quiet_builtin _ (by decide +kernel), codeAny_builtin F.entry_object_class ?_⟩
  repeat (any_goals (first | assumption | wp_step))

theorem class_entry_fn {tk : Tok} {Q : Fin → Shared → Prop} (hx : h.get? a = some o) (hc : o.cls = .type "function") (hq : Q (.done (.ret (.type "function"))) ⟨h, g, d, t, os⟩) :
    wpAny (model prog w) A (Builtin.«object.__getattribute__» ⟨[.ref a, .str "__class__" tk], []⟩) Q E ⟨h, g, d, t, os⟩ := by
  have hT : (⟨h, g, d, t, os⟩ : Shared).TypeIs (.ref a) "function" := ⟨_, hx, hc⟩
  have hT5 : (⟨h, g, d, t, os⟩ : Shared).TypeIs (.builtin "object.__class__") "getset_descriptor" := F.typeOf_object_class
  have f4 := F.lk_function_class
  have f5 := F.typeOf_object_class
  have f6 := F.slot_gs_get.lookup
  have f7 := F.slot_gs_set.lookup
  repeat (any_goals (first | assumption | wp_step))
  refine class_get_fn hx hc ?_
  repeat (any_goals (first | assumption | wp_step))

theorem class_call_fn {tk : Tok} {R : Result → Shared → Prop} (hx : h.get? a = some o) (hc : o.cls = .type "function") (hq : R (.ok (.ret (.type "function"))) ⟨h, g, d, t, os⟩) :
    codeAny (model prog w) A (.call (.builtin "object.__getattribute__") ⟨[.ref a, .str "__class__" tk], []⟩) R ⟨h, g, d, t, os⟩ :=
  codeAny_call_builtin F.slot_function_getattribute.plain F.entry_object_ga' (F.slot_function_getattribute.check _ _ _ _ _ _ _ _ (show (⟨h, g, d, t, os⟩ : Shared).TypeIs (.ref a) "function" from ⟨_, hx, hc⟩) (F.args_object_ga_2 _ _) (class_entry_fn hx hc hq))

theorem class_by_fn {tk : Tok} {Q : Value → Shared → Prop} (hx : h.get? a = some o) (hc : o.cls = .type "function") (hq : Q (.type "function") ⟨h, g, d, t, os⟩) : wpAny (model prog w) A (getAttrBy (.ref a) (.str "__class__" tk) false) Q E ⟨h, g, d, t, os⟩ := by
  have hT : (⟨h, g, d, t, os⟩ : Shared).TypeIs (.ref a) "function" := ⟨_, hx, hc⟩
  have f2 := F.slot_function_getattribute.lookup
  have f3 := F.slot_function_getattribute.bind (.ref a)
  repeat (any_goals (first | assumption | wp_step))
  refine class_call_fn hx hc ?_
  repeat (any_goals (first | assumption | wp_step))

theorem class_attr_fn {Q : Option Value → Shared → Prop} (hx : h.get? a = some o) (hc : o.cls = .type "function") (hq : Q (some (.type "function")) ⟨h, g, d, t + 1, os⟩) : wpAny (model prog w) A (getAttr? (.ref a) "__class__") Q E ⟨h, g, d, t, os⟩ := by
  unfold getAttr? getAttrBy?
  repeat (any_goals (first | assumption | with_reducible apply class_by_fn hx hc | wp_step))
end
namespace W
theorem kitx_fn {K : Frag} {a : Addr} : KitX K (.ref a) (.type "function") (KitAt a "function") := kitx_of kitAt_ty (fun {_ _ _ _ _ s} p k => by obtain ⟨h, g, d, t, os⟩ := s; obtain ⟨o, h1, h2⟩ := p; exact class_attr_fn h1 h2 k)
end W
end PySem

/-! own layer 1b: an own error with super().__init__(..) and its fields -/
namespace PySem
namespace RWX
open PySem.W PySem.Calls PyProof.Rows PySem.HandSPX
abbrev badA (f : Str) (p1 p2 : Pos) : Arguments := { posonlyargs := [], args := [{ arg := "self", annotation := none, pos := p1 }, { arg := f, annotation := none, pos := p2 }], vararg := none, kwonlyargs := [], kw_defaults := [], kwarg := none, defaults := [] }
abbrev badB (f : Str) (q1 q2 q3 q4 q5 q6 q7 q8 q9 q0 : Pos) : List Stmt := [.Expr (.Call (.Attribute (.Call (.Name "super" q1) [] [] q2) "__init__" q3) [.Name f q4] [] q5) q6, .Assign [.Attribute (.Name "self" q7) f q8] (.Name f q9) q0]
abbrev badS (f : Str) : Scope := { kind := .function, names := [(("self" : Str), .local), (f, .local), ("__class__", .free), ("super", .globalImplicit)], isGenerator := false, isCoroutine := false, more := [] }
/-- super().__init__(f) as the model takes it -/
def BadCall (f : Str) (q1 q2 q3 q4 q5 : Pos) : Prop := ∃ pl : Sem Bool, ∀ env : Env, eval (.Call (.Attribute (.Call (.Name "super" q1) [] [] q2) "__init__" q3) [.Name f q4] [] q5) env = (do
      let ov ← attributeBase (.Call (.Name "super" q1) [] [] q2) "__init__" env (eval (.Call (.Name "super" q1) [] [] q2) env)
      standAt q3.atName
      let (f1, first) ← holding [ov] (getMethod ov "__init__" pl)
      callWith q5 f1 first (backTo q5 (starEach [.Name f q4] env)) [])
/-- its arguments bind by place -/
def BadBind (f : Str) : Prop := ∀ (q : Str) (p1 p2 q1 q2 q3 q4 q5 q6 q7 q8 q9 q0 : Pos) (cc : Addr) (doc pm : Value) (an : Option Addr) (cda : Addr) (ct u v : Value),
  bindArgs (fnX "__init__" q (badA f p1 p2) (badB f q1 q2 q3 q4 q5 q6 q7 q8 q9 q0) (badS f) [(("__class__" : Str), cc)] .none .none doc pm an (.ref cda) ct) ⟨[u, v], []⟩ = pure [(("self" : Str), u), (f, v)]
/-- what the written part says of an own error at C, its __init__ at fI, its one field f -/
structure BadTxt (P : Program) (K : Frag) (mg : Str → Option Value) (nm : Str) (C fI : Addr) (f : Str) : Prop where
  bd : BadBind f
  gC : mg nm = some (.ref C)
  cls : ∃ nm q N bs bm sn sub ab col dd k0 k1 k2 k3 k5, K.lookup C = some (excClassObj nm q C N bs bm true sn sub ab col dd k0 k1 k2 k3 k5 "ValueError.__new__") ∧ refsVE bm = true
  sa : findIn K (.ref C) "__setattr__" = some (some (.builtin "object.__setattr__"))
  ga : findIn K (.ref C) "__getattribute__" = some (some (.builtin "BaseException.__getattribute__"))
  gg : findIn K (.ref C) "__getattr__" = some none
  noN : findIn K (.ref C) f = some none
  iC : findIn K (.ref C) "__init__" = some (some (.ref fI))
  tC : typeIn K (.ref fI) = some (.type "function")
  kC : keepIn K (.ref C) = true
  exC : subIn K (.ref C) (.type "BaseException") = some true
  tyC : typeIn K (.ref C) = some (.type "type")
  hdC : hasDictIn K C = true
  te : exmOne K (.ref C) (.ref C) = some true
  mr : mroIn K C (.ref C) = some true
  sp : ks_superIn K C C "__init__" = some (some (.builtin "ValueError.__init__"))
  sv : subIn K (.ref C) (.type "ValueError") = some true
  op : nsIn K cStatics "thirdparty.any" = some none
  su : mg "super" = none
  nmf : (f == ("__debug__" : Str)) = false ∧ f ≠ "self" ∧ ((("super" : Str)) == f) = false ∧ ((("__class__" : Str)) == f) = false
  top : (P.main.scope.names.lookup ("super" : Str)).isSome = false
  fn : ∃ (q : Str) (oc : Value) (od : Option Addr) (doc pm : Value) (an : Option Addr) (cda cc : Addr) (ct ccl cl : Value) (cdd cld : Option Addr) (osl ccs csl : Array (Option Value)) (vs : Array Value) (file : Str) (tf : Tok) (p1 p2 q1 q2 q3 q4 q5 q6 q7 q8 q9 q0 : Pos),
    K.lookup fI = some ⟨oc, od, .func (fnX "__init__" q (badA f p1 p2) (badB f q1 q2 q3 q4 q5 q6 q7 q8 q9 q0) (badS f) [(("__class__" : Str), cc)] .none .none doc pm an (.ref cda) ct), osl⟩ ∧
    codeIn K (.ref cda) q = true ∧ K.lookup cda = some ⟨ccl, cdd, .fields vs, ccs⟩ ∧ vs[2]? = some (.str file tf) ∧ ((P.main.file : Str) == file) = true ∧ K.lookup cc = some ⟨cl, cld, .cell (some (.ref C)), csl⟩ ∧ BadCall f q1 q2 q3 q4 q5

theorem one_size (v : Value) : [v].length ≤ sizeLine := by
  rw [sizeLine_eq]
  exact (by decide : 1 ≤ 16777216)
/-- what __init__ leaves of a fresh exception at x -/
structure InitEnd (h h' : Heap) (x C dx t1 : Addr) (f : Str) (v : Value) : Prop where
  keep : ∀ b o, b ≠ x → h.get? b = some o → h'.get? b = some o
  obj : h'.get? x = some { cls := .ref C, dict := some dx, data := .fields #[.ref t1, .none, .none, .none, .bool false, .none] }
  dbig : h.objs.size ≤ dx
  dne : dx ≠ x
  ns : h'.Ns1 dx (fun y => if y = f then some v else none)
/-- the made exception -/
structure OwnMade (h h' : Heap) (e C d : Addr) (f : Str) (v : Value) : Prop where
  keep : ∀ b o, h.get? b = some o → h'.get? b = some o
  new : h.objs.size ≤ e
  obj : ∃ oe vs, h'.get? e = some oe ∧ oe.cls = .ref C ∧ oe.dict = some d ∧ oe.data = .fields vs ∧ vs[1]? = some .none
  dbig : h.objs.size ≤ d
  dne : d ≠ e
  ns : h'.Ns1 d (fun y => if y = f then some v else none)
section
variable {prog : Program} {w : World} {A : Around} {E : Value → Shared → Prop} {R : Result → Shared → Prop} {s : Shared} {K : Frag} {mg mb : Str → Option Value} {C fI : Addr} {nm f : Str}
theorem lk_f {f : Str} (h : f ≠ "self") {r : List (Str × NameKind)} : List.lookup f ((("self" : Str), NameKind.local) :: (f, NameKind.local) :: r) = some .local := by
  have e : (f == ("self" : Str)) = false := by simpa using h
  have e2 : (f == f) = true := by simp
  simp [List.lookup, e, e2]
theorem ldA {M : Model} {s : Shared} {env : Env} {m : Str → Option Value} {x : Str} {pos : Pos} {v : Value} {Q : Value → Shared → Prop} {A : Around} {E : Value → Shared → Prop} (hn : s.heap.Ns env.locals m) (hv : m x = some v) (h : Q v s)
    (hk : env.scope.kind = .function) (hl : env.kindOf x = some .local) (hd : (x == ("__debug__" : Str)) = false) :
    wpAny M A (eval (.Name x pos) env) Q E s := wpAny_Name (wpAny_loadName_local hk hl hn hv h) hd
theorem bad_init (T : BadTxt prog K mg nm C fI f) {x t0 : Addr} {v : Value} (X : K.In s.heap) (hg : s.heap.Ns mainGlobals mg) (hb : s.heap.Ns builtinsNs mb) (hbb : ∀ x : Str, x ≠ "__name__" → mb x = bootBuiltins x)
    (hlim : s.heap.NoLimit) (hx : s.heap.get? x = some (excO C t0)) (hnx : K.lookup x = none) (hroom : A.depth < recursionLimit)
    (hq : ∀ h' tk dx t1, InitEnd s.heap h' x C dx t1 f v → R (.ok (.ret .none)) { s with heap := h', toks := tk }) :
    codeAny (model prog w) A (.call (.ref fI) ⟨[.ref x, v], []⟩) R s := by
  obtain ⟨q, oc, od, doc, pm, an, cda, cc, ct, ccl, cl, cdd, cld, osl, ccs, csl, vs, file, tf, p1, p2, q1, q2, q3, q4, q5, q6, q7, q8, q9, q0, ho, hcd, hcode, hvs, hfile, hcell, pl, hev⟩ := T.fn
  obtain ⟨cnm, cq, N, bs, bm, sn, sub, ab, col, dd, k0, k1, k2, k3, k5, hC, hbm⟩ := T.cls
  have hcl : clsIn K C = some { name := cnm, bases := bs, mro := .ref C :: bm, ns := N, qualname := cq, hasDict := true, slotNames := sn, subclasses := sub, abstract := ab, collection := col, hasDel := false } := by unfold clsIn; rw [hC] <;> rfl
  obtain ⟨hfd, hfs, hf1, hf2⟩ := T.nmf
  refine ks_codeAny_call_defAt (binds := [("self", .ref x), (f, v)]) hroom (X _ _ ho) rfl hlim (codeRec_of X hcd) rfl (BindsTo.of_eq (T.bd _ _ _ _ _ _ _ _ _ _ _ _ _ _ _ _ _ _ _ _ _)) ?_ ?_ (fun h₁ hns k => ?_) rfl rfl rfl
  · intro y hy
    simp only [List.mem_cons, List.not_mem_nil, or_false] at hy
    rcases hy with rfl | rfl | rfl | rfl <;> (intro z; cases z)
  · intro y hy
    simp only [List.mem_cons, List.not_mem_nil, or_false] at hy
    rcases hy with rfl | rfl
    · rfl
    · exact lk_f hfs
  have hx₁ := k _ _ hx
  have hxL : s.heap.objs.size ≠ x := Nat.ne_of_gt (Heap.lt_size hx)
  have X₁ : K.In h₁ := X.keeps k
  have hb' : (f == ("self" : Str)) = false := by simpa using hfs
  have bx : (([(("self" : Str), Value.ref x), (f, v)] : List (Str × Value)).reverse).lookup ("self" : Str) = some (.ref x) := by
    have e : ((("self" : Str)) == f) = false := by
      rw [Bool.eq_false_iff]
      intro z
      exact hfs (eq_of_beq z).symm
    simp [List.lookup, e]
  have bv : (([(("self" : Str), Value.ref x), (f, v)] : List (Str × Value)).reverse).lookup f = some v := by
    simp [List.lookup]
  -- super().__init__(f)
  refine ks_wpAt_execs_cons (ks_wpAt_Expr_any (ks_wpAt_MethodCall ?_ (hev _)))
  have lS : (badS f).names.lookup ("super" : Str) = some .globalImplicit := by
    have e : ((("super" : Str)) == ("self" : Str)) = false := by decide +kernel
    have e2 : ((("super" : Str)) == ("__class__" : Str)) = false := by decide +kernel
    simp [badS, List.lookup, e, e2, hf1]
  have lC : (badS f).names.lookup ("__class__" : Str) = some .free := by
    have e : ((("__class__" : Str)) == ("self" : Str)) = false := by decide +kernel
    simp [badS, List.lookup, e, hf2]
  have lF : (badS f).names.lookup f = some .local := lk_f hfs
  have lX : (badS f).names.lookup ("self" : Str) = some .local := rfl
  refine ks_wpAt_super_base (env := callEnv _ s.heap.objs.size fI) lS lC (by decide) rfl (X₁ _ _ ho) rfl rfl rfl (X₁ _ _ hcode) rfl hvs hfile T.top ?_
  refine ks_loadName_global rfl lS (loadGlobal_builtin (hg.keeps k) T.su (hb.keeps k) ((hbb _ (by decide +kernel)).trans PyProof.Rows.Boot.«super») ⟨rfl, ?_⟩)
  refine wpAny_loadName_free rfl lC rfl ⟨_, X₁ _ _ hcell, rfl⟩ ?_
  refine wpAny_loadName_local rfl lX hns bx ?_
  refine ks_wpAny_isType_cls (X₁ _ _ hC) rfl ⟨rfl, ?_⟩
  refine ks_wpAny_call_super (X₁ _ _ hC) rfl hx₁ rfl (fun c z => by cases z) (looks_mroIn X₁ T.mr) (fun h₂ so2 k2 => ?_)
  have kk : ∀ b o, s.heap.get? b = some o → h₂.get? b = some o := fun b o e => k2 b o (k b o e)
  have X₂ : K.In h₂ := X.keeps kk
  have hx₂ := k2 _ _ hx₁
  have hal : alongIn K "__init__" ((((.ref C :: bm) : List Value).dropWhile (· != .ref C)).drop 1) = some (some (.builtin "ValueError.__init__")) := by
    have z := T.sp
    unfold ks_superIn at z
    rw [hcl] at z
    exact z
  have I₂ : InstAt h₂ x (excO C t0) C none := ⟨hx₂, rfl, rfl, trivial⟩
  have hxC : x ≠ C := fun z => by
    rw [z] at hnx
    rw [show List.lookup C K = _ from hC] at hnx
    cases hnx
  refine kxs_getMethod kxs_ValueError so2 (looks_opaque X₂ T.op) ((looks_clsIn X₂ hcl).andThen .now) rfl X₂ hal (I₂.type.andThen (looks_subIn X₂ T.sv)) hxC (by decide +kernel) ?_
  -- the call of the bound __init__
  have hu : (h₂.push (kxs_mw "ValueError.__init__" x)).get? h₂.objs.size = some (kxs_mw "ValueError.__init__" x) := Heap.get?_push_at rfl rfl
  have k3 : ∀ b o, h₂.get? b = some o → (h₂.push (kxs_mw "ValueError.__init__" x)).get? b = some o := fun b o e => Heap.get?_push_of_some _ e
  have hns₃ : (h₂.push (kxs_mw "ValueError.__init__" x)).Ns s.heap.objs.size fun y => List.lookup y ([(("self" : Str), Value.ref x), (f, v)].reverse) := by
    obtain ⟨o, es, ep, e1, e2⟩ := hns
    exact ⟨o, es, ep, k3 _ _ (k2 _ _ e1), e2⟩
  refine kxs_callWith (i := "ValueError.__init__") (x := x) rfl (evalArgs_plain ?_)
  refine Calls.spliced_cons (ldA hns₃ bv (Calls.spliced_nil ⟨hu, ?_⟩) rfl lF hfd)
  refine wpAny_call (codeAny_of_tree ?_)
  show wpAny _ _ (callAny (.ref h₂.objs.size) ⟨[v], []⟩) _ _ _
  simp only [callAny]
  refine wpAny_bind (wpAny_load hu ?_)
  simp only [kxs_mw, show (Value.type "method-wrapper" == Value.type "method" || Value.type "method-wrapper" == Value.type "builtin_function_or_method" || Value.type "method-wrapper" == Value.type "method-wrapper") = true by decide, if_true]
  refine W.KFB.if_so (by decide) ?_
  refine wpAny_bind (check_bound_init F.excBase_ValueError.toExcCallFacts (k3 _ _ (X₂ _ _ hC)) (k3 _ _ hx₂) rfl ?_)
  refine wpAny_bind (wpAny_pure (wpAny_pure ?_))
  refine ⟨plainId_quiet F.excBase_ValueError.init.plain _, codeAny_builtin F.excBase_ValueError.initEntry ?_⟩
  refine exc_init_tree (k3 _ _ hx₂) (one_size v) (fun h₄ k4 e4 t4 => ?_)
  have xLx : s.heap.objs.size ≠ x := hxL
  have k5 : ∀ b o, b ≠ x → s.heap.get? b = some o → h₄.get? b = some o := fun b o hb e => k4 b o hb (k3 _ _ (kk b o e))
  have X₄ : K.In h₄ := fun a o e => k4 a o (fun z => by rw [z, hnx] at e; cases e) (k3 _ _ (X₂ a o e))
  have hns₄ : h₄.Ns s.heap.objs.size fun y => List.lookup y ([(("self" : Str), Value.ref x), (f, v)].reverse) := by
    obtain ⟨o, es, ep, e1, e2⟩ := hns₃
    exact ⟨o, es, ep, k4 _ _ hxL e1, e2⟩
  -- self.f = f
  refine wpAt_of_wpAny (wpAny_execs_cons (plainObj_wpAny_Assign_Attribute ?_))
  refine ldA hns₄ bv (ldA hns₄ bx ?_ rfl lX (by decide)) rfl lF hfd
  refine set_plain X₄ (ox := excO C _) (od := none) ⟨e4, rfl, rfl, trivial⟩ T.sa ?_
  refine exc_osa X₄ e4 hcl (show refsVE (.ref C :: bm) = true from hbm) rfl T.noN (fun h₆ tk₆ dx k6 dn dne hx₆ hn₆ => ?_)
  refine wpAny_execs_nil (hq h₆ tk₆ dx _ ⟨fun b o hb e => k6 b o hb (k5 b o hb e), hx₆, ?_, dne, hn₆⟩)
  have hLlt : s.heap.objs.size < h₄.objs.size := hns₄.lt
  exact Nat.le_of_lt (Nat.lt_of_lt_of_le hLlt dn)
theorem bad_made (T : BadTxt prog K mg nm C fI f) {v : Value} (X : K.In s.heap) (hg : s.heap.Ns mainGlobals mg) (hb : s.heap.Ns builtinsNs mb) (hbb : ∀ x : Str, x ≠ "__name__" → mb x = bootBuiltins x) (hlim : s.heap.NoLimit) (hroom : A.depth + 1 < recursionLimit)
    (hq : ∀ h' tk e d, OwnMade s.heap h' e C d f v → R (.ok (.ret (.ref e))) { s with heap := h', toks := tk }) :
    codeAny (model prog w) A (.call (.ref C) ⟨[v], []⟩) R s := by
  obtain ⟨nm, q, N, bs, bm, sn, sub, ab, col, dd, k0, k1, k2, k3, k5, hC, hbm⟩ := T.cls
  obtain ⟨hp, g, dr, tk, os⟩ := s
  have k : ∀ b o, hp.get? b = some o → ((hp.push (kdv_tup [v])).push (excO C hp.objs.size)).get? b = some o := fun b o e => Heap.get?_push_of_some _ (Heap.get?_push_of_some _ e)
  have hget : ((hp.push (kdv_tup [v])).push (excO C hp.objs.size)).get? (hp.objs.size + 1) = some (excO C hp.objs.size) := by heap_get
  have hnx : K.lookup (hp.objs.size + 1) = none := by
    cases e : K.lookup (hp.objs.size + 1) with
    | none => rfl
    | some o =>
      have z : hp.get? (hp.objs.size + 1) = some o := X _ _ e
      exact absurd (Nat.lt_of_succ_lt (Heap.lt_size z)) (Nat.lt_irrefl _)
  refine call_own F.excBase_ValueError (fun X => refsVE_contains X bm hbm) (X _ _ hC) (looks_findIn X T.iC) (fun self => bind_fn X self T.tC) (one_size v) ?_
  refine bad_init (s := ⟨(hp.push (kdv_tup [v])).push (excO C hp.objs.size), g, dr, tk, os⟩) T (X.keeps k) (hg.keeps k) (hb.keeps k) hbb (hlim.keeps k) hget hnx ?_ fun h' tk' dx t1 ⟨k', hx, dn, dne, hns⟩ => ?_
  · show A.depth + 1 < recursionLimit
    exact hroom
  · have old : ∀ b o, hp.get? b = some o → h'.get? b = some o := fun b o e => k' b o (Nat.ne_of_lt (Nat.lt_succ_of_lt (Heap.lt_size e))) (k b o e)
    have z : hp.objs.size + 1 + 1 ≤ dx := by
      first
        | (simpa only [Heap.size_push] using dn)
        | exact dn
        | (have q := dn; rw [Heap.size_push, Heap.size_push] at q; exact q)
    exact ⟨rfl, hq h' tk' (hp.objs.size + 1) dx ⟨old, Nat.le_succ _, ⟨_, _, hx, rfl, rfl, rfl, rfl⟩, Nat.le_trans (Nat.le_trans (Nat.le_succ _) (Nat.le_succ _)) z, dne, hns⟩⟩
end
end RWX
end PySem
namespace RW
open PySem PySem.Spec PyProof.Rows L2
open PySem.RWX (BadTxt)
theorem relO_bad {f : Str} {v : V} {v' : Value} (r : RelV v v') (g : Str) : RelO (List.lookup g [(f, v)]) (if g = f then some v' else none) := by
  by_cases hw : g = f
  · subst hw
    rw [if_pos rfl]
    have q : List.lookup g [(g, v)] = some v := by simp [List.lookup]
    rw [q]
    exact r
  · rw [if_neg hw]
    have qw : (g == f) = false := by simpa using hw
    have q2 : List.lookup g [(f, v)] = none := by simp [List.lookup, qw]
    rw [q2]
    trivial
section
variable {X : Cx} {C fI : Addr} {nm f : Str}
/-- C(e) -/
def tMkBad (C : Addr) (f : Str) (ta : TA) : L2.St → Hp → XK → Prop := fun σ H Q => ta σ H fun vs H1 => ∃ v, vs = [v] ∧ ∀ d, H1 d = none → Q (.ref C) (some d) (upd H1 d (.xd [(f, v)]))
theorem pmk_bad {a : Expr} {ta : TA} {p pos : Pos} {k : Nat} (T : BadTxt X.prog X.K X.mg nm C fI f) (hr : Room k X.A) (ha : PA X [a] ta) (hg : Gl X nm := by rfl) (hdb : (nm == ("__debug__" : Str)) = false := by decide)
    (he : starEach (a :: []) X.env = (false, eval a X.env) :: starEach [] X.env := by rfl) (hpl : (backTo pos (starEach [] X.env)).any (·.1) = false := by rfl) :
    PMk X (.Call (.Name nm p) [a] [] pos) (tMkBad C f ta) := by
  intro pins s σ H Q I h
  refine wpAny_Call_Name_kw (ld_glob I hg T.gC ?_ hdb)
  refine PySem.W.callWith_K (h₀ := X.base) I.ok.mod.kin T.kC (thn (ha.run pos pins s σ H _ I h) fun us s1 hh => ?_) he hpl
  obtain ⟨vs, H1, I1, r1, v, ev, q1⟩ := hh
  subst ev
  refine ⟨I1.kIn, ?_⟩
  cases r1 with
  | cons rv rn =>
    rename_i v' us'
    cases rn
    show wpAny _ _ (call (.ref C) [v']) _ _ _
    have hlim := I1.nolimit
    obtain ⟨mb, hb1, hb2⟩ := I1.ok.mod.blt
    have hgl := I1.ok.mod.glob.keeps I1.bk
    have hbl := hb1.keeps I1.bk
    obtain ⟨hp, g, dr, tk, os⟩ := s1
    refine wpAny_call (PySem.RWX.bad_made T I1.kIn hgl hbl hb2 hlim (by have := hr.dp; omega) fun h' tk' e d M => ?_)
    show MkP X pins σ Q (.ref e) ⟨h', g, dr, tk', os⟩
    obtain ⟨oe, fv, hoe, hc, hd, hdat, h1⟩ := M.obj
    have hns := M.ns
    obtain ⟨G', g1, g2⟩ := restrict h' fun b => decide (b ≠ e)
    have gk : ∀ b, b ≠ e → G'.get? b = h'.get? b := fun b hb => g1 b (decide_eq_true hb)
    have ge : G'.get? e = none := g2 e (by simp)
    have old : ∀ b o, hp.get? b = some o → G'.get? b = some o := fun b o q => (gk b (Nat.ne_of_lt (Nat.lt_of_lt_of_le (Heap.lt_size q) M.new))).trans (M.keep b o q)
    have ob : ObjOk X.prog X.w (upd H1 d (.xd [(f, v)])) G' d (.xd [(f, v)]) :=
      ⟨_, hns.at (fun o q => (gk d M.dne).trans q), fun f => relO_bad rv f⟩
    have J : Inv X pins σ (upd H1 d (.xd [(f, v)])) ⟨G', g, dr, tk', os⟩ := I1.laid (t' := tk') old M.dbig ob
    refine ⟨e, oe, fv, ⟨G', g, dr, tk', os⟩, _, .ref C, some d, rfl, J, fun b o q => ?_, ge, hoe, ⟨hc, hd⟩, hdat, h1, ?_, rfl, I1.bare, raises_own T.exC T.tyC, q1 d (I1.hok.fresh M.dbig)⟩
    · by_cases hb : b = e
      · have q' : G'.get? b = some o := q
        rw [hb, ge] at q'; cases q'
      · exact (gk b hb).symm.trans q
    · rw [upd_ne (Ne.symm M.dne)]
      exact I1.hok.fresh M.new
/-- raise C(e) -/
def tRaiseBad (C : Addr) (f : Str) (W : WX) (ta : TA) : TS := fun _ σ H => tMkBad C f ta σ H fun cls d H' => W cls d σ H'
theorem ps_raiseBad {a : Expr} {ta : TA} {W : WX} {p pos pos2 : Pos} {k : Nat} (hc : X.calm = true) (T : BadTxt X.prog X.K X.mg nm C fI f) (hr : Room k X.A) (tk : Takes X W) (ha : PA X [a] ta) (hg : Gl X nm := by rfl) (hdb : (nm == ("__debug__" : Str)) = false := by decide)
    (he : starEach (a :: []) X.env = (false, eval a X.env) :: starEach [] X.env := by rfl) (hpl : (backTo pos (starEach [] X.env)).any (·.1) = false := by rfl) :
    PS X (.Raise (some (.Call (.Name nm p) [a] [] pos)) none pos2) (tRaiseBad C f W ta) := ps_raise hc tk (pmk_bad T hr ha hg hdb he hpl)
end
end RW

/-! own layer 2: statements, calls, loops, comprehensions -/
namespace RW
open PySem PySem.Spec L2

/-! ### worlds: what may be changed, and how much of it is left -/
structure World (K : PySem.W.Frag) where
  M : Addr → Prop
  J : Nat → Hp → Hp → Prop
  stab : ∀ n G H G' H', J n G H → Gr M0 G H G' H' → J n G' H'
  less : ∀ n G H, J (n + 1) G H → J n G H
theorem World.le {K : PySem.W.Frag} (W : World K) {n m : Nat} {G H : Hp} (h : n ≤ m) (j : W.J m G H) : W.J n G H := by
  induction h with
  | refl => exact j
  | step _ ih => exact ih (W.less _ _ _ j)
def W0 (K : PySem.W.Frag) : World K := ⟨M0, fun _ _ _ => True, fun _ _ _ _ _ h _ => h, fun _ _ _ h => h⟩
/-- most draws -/
def LIM : Nat := 1000000
/-- the spring at a: at least n draws may follow -/
def SpAt (a : Addr) (n : Nat) (G H : Hp) : Prop := G a = none ∧ ∃ c m t : Int, H a = some (.lst [.int c, .int m, .int t]) ∧ 0 ≤ c ∧ 0 ≤ m ∧ m < 2147483648 ∧ 0 ≤ t ∧ t + (n : Int) ≤ (LIM : Int)
def Wsp (K : PySem.W.Frag) (a : Addr) : World K where
  M := fun b => b = a
  J := SpAt a
  stab := fun n G H G' H' j g => by
    obtain ⟨h0, c, m, t, h1, r⟩ := j
    exact ⟨g.n a _ h1 h0, c, m, t, g.ex a _ h1, r⟩
  less := fun n G H j => by
    obtain ⟨h0, c, m, t, h1, a1, a2, a3, a4, a5⟩ := j
    exact ⟨h0, c, m, t, h1, a1, a2, a3, a4, by omega⟩

/-- evaluation in a world: k draws at most; what comes is as P says -/
def EvJ (K : PySem.W.Frag) (W : World K) (k : Nat) (te : TE) (σ : L2.St) (G : Hp) (P : D → Prop) : Prop :=
  ∀ (n : Nat) (G1 H1 : Hp) (Q : VK), Ex G G1 → Sub G1 H1 → W.J (n + k) G1 H1 → (∀ y d G2 H2, Gr W.M G1 H1 G2 H2 → W.J n G2 H2 → P d → R K G2 y d → Q y H2) → te σ H1 Q
def EvJA (K : PySem.W.Frag) (W : World K) (k : Nat) (ta : TA) (σ : L2.St) (G : Hp) (P : List D → Prop) : Prop :=
  ∀ (n : Nat) (G1 H1 : Hp) (Q : List V → Hp → Prop), Ex G G1 → Sub G1 H1 → W.J (n + k) G1 H1 → (∀ ys ds G2 H2, Gr W.M G1 H1 G2 H2 → W.J n G2 H2 → P ds → RA K G2 ys ds → Q ys H2) → ta σ H1 Q
def EvJT {K : PySem.W.Frag} (W : World K) (k : Nat) (tt : TT) (σ : L2.St) (G : Hp) (P : Bool → Prop) : Prop :=
  ∀ (n : Nat) (G1 H1 : Hp) (Q : Bool → Hp → Prop), Ex G G1 → Sub G1 H1 → W.J (n + k) G1 H1 → (∀ b G2 H2, Gr W.M G1 H1 G2 H2 → W.J n G2 H2 → P b → Q b H2) → tt σ H1 Q
section
variable {K : PySem.W.Frag} {W : World K} {σ : L2.St} {G G' : Hp} {ta tb te : TE} {t u : TT} {d e : D} {k j : Nat} {P P' : D → Prop}
theorem EvJ.mono (a : Ex G G') (h : EvJ K W k te σ G P) : EvJ K W k te σ G' P := fun n G1 H1 Q e s j q => h n G1 H1 Q (a.trans e) s j q
theorem EvJ.imp (h : EvJ K W k te σ G P) (p : ∀ d, P d → P' d) : EvJ K W k te σ G P' := fun n G1 H1 Q e s j q => h n G1 H1 Q e s j fun y d G2 H2 g j2 pd r => q y d G2 H2 g j2 (p d pd) r
theorem ej_of (h : Ev K te σ G d) : EvJ K W 0 te σ G (fun e => e = d) := fun n G1 H1 Q e s j q => h G1 H1 Q e s fun y G2 H2 g r => q y d G2 H2 g.up (W.stab _ _ _ _ _ j g) rfl r
theorem ejt_of {b : Bool} (h : EvT t σ G b) : EvJT W 0 t σ G (fun c => c = b) := fun n G1 H1 Q e s j q => h G1 H1 Q e s fun G2 H2 g => q b G2 H2 g.up (W.stab _ _ _ _ _ j g) rfl
theorem eja_of {ta : TA} {ds : List D} (h : EvA K ta σ G ds) : EvJA K W 0 ta σ G (fun es => es = ds) := fun n G1 H1 Q e s j q => h G1 H1 Q e s fun y G2 H2 g r => q y ds G2 H2 g.up (W.stab _ _ _ _ _ j g) rfl r
theorem eja_cons {tr : TA} {Pr : List D → Prop} (h : EvJ K W k ta σ G P) (hr : EvJA K W j tr σ G Pr) : EvJA K W (k + j) (tCons ta tr) σ G (fun ds => ∃ d r, ds = d :: r ∧ P d ∧ Pr r) := fun n G1 H1 Q e s jj q =>
  h (n + j) G1 H1 _ e s (by rw [Nat.add_assoc, Nat.add_comm j k]; exact jj) fun y d G2 H2 g j2 p r => hr n G2 H2 _ (e.trans g.g) g.s j2 fun ys ds G3 H3 g3 j3 ps rs => q (y :: ys) (d :: ds) G3 H3 (g.trans g3) j3 ⟨d, ds, rfl, p, ps⟩ (.cons (r.mono g3.g) rs)
theorem eja_nil : EvJA K W 0 tNil σ G (fun ds => ds = []) := eja_of ea_nil
/-- a two-place operation of two drawn parts -/
theorem ej_op {r : R2} {Pa Pb : D → Prop} (ha : EvJ K W k ta σ G Pa) (hb : EvJ K W j tb σ G Pb) (hr : ∀ d e, Pa d → Pb e → ∃ f, RV K r d e f ∧ P f) : EvJ K W (k + j) (tOp r ta tb) σ G P := fun n G1 H1 Q ex s jj q =>
  ha (n + j) G1 H1 _ ex s (by rw [Nat.add_assoc, Nat.add_comm j k]; exact jj) fun x d G2 H2 g2 j2 p2 r2 => hb n G2 H2 _ (ex.trans g2.g) g2.s j2 fun y e G3 H3 g3 j3 p3 r3 => by
    obtain ⟨f, rv, pf⟩ := hr d e p2 p3
    exact rv G3 H3 x y Q g3.s (r2.mono g3.g) r3 fun z G4 H4 g4 r4 => q z f G4 H4 ((g2.trans g3).trans g4.up) (W.stab _ _ _ _ _ j3 g4) pf r4
/-- a call by values of drawn arguments -/
theorem ej_cb {r : List V → Hp → VK → Prop} {ta : TA} {Pa : List D → Prop} (ha : EvJA K W k ta σ G Pa) (hr : ∀ ds, Pa ds → ∃ f, RC K r ds f ∧ P f) : EvJ K W k (tCB r ta) σ G P := fun n G1 H1 Q ex s jj q =>
  ha n G1 H1 _ ex s jj fun x ds G2 H2 g2 j2 p2 r2 => by
    obtain ⟨f, rv, pf⟩ := hr ds p2
    exact rv G2 H2 x Q g2.s r2 fun z G4 H4 g4 r4 => q z f G4 H4 (g2.trans g4.up) (W.stab _ _ _ _ _ j2 g4) pf r4
theorem ejt_test (h : EvJ K W k te σ G P) (p : ∀ d, P d → ∃ b, d = .v (.bl b)) : EvJT W k (tTest te) σ G (fun b => P (.v (.bl b))) := fun n G1 H1 Q e s j q => h n G1 H1 _ e s j fun y d G2 H2 g j2 pd r => by
  obtain ⟨b, rfl⟩ := p d pd
  obtain ⟨rfl, _⟩ := r.v_inv
  exact ⟨b, rfl, q b G2 H2 g j2 pd⟩
end

/-! ### promises of defs -/
/-- a pure def of data: from x, its arguments and what holds of them, its answer -/
def spP (K : PySem.W.Frag) {α : Type} (args : α → List D) (dom : α → Prop) (res : α → D) : Sp := fun vs H Q _ =>
  ∃ (G : Hp) (x : α), Sub G H ∧ RA K G vs (args x) ∧ dom x ∧ ∀ y G' H', Gr M0 G H G' H' → R K G' y (res x) → Q y H'
/-- a def that may raise: the answer, or the error's class and fields (by the very values handed in) -/
def spE (K : PySem.W.Frag) {α : Type} (args : α → List D) (dom : α → Prop) (res : α → D ⊕ (Addr × (List V → List (Str × V)))) : Sp := fun vs H Q E =>
  ∃ (G : Hp) (x : α), Sub G H ∧ RA K G vs (args x) ∧ dom x ∧ (∀ d, res x = .inl d → ∀ y G' H', Gr M0 G H G' H' → R K G' y d → Q y H') ∧
    (∀ C fs, res x = .inr (C, fs) → ∀ dx H', (∃ G', Gr M0 G H G' H') → H' dx = some (.xd (fs vs)) → E (.ref C) (some dx) H')
/-- a def that draws: the spring first -/
def spJ (K : PySem.W.Frag) {α : Type} (args : α → List D) (dom : α → Prop) (k : α → Nat) (post : α → D → Prop) : Sp := fun vs H Q _ =>
  ∃ (G : Hp) (x : α) (a : Addr) (n : Nat) (ws : List V), vs = .ref a :: ws ∧ Sub G H ∧ SpAt a (n + k x) G H ∧ RA K G ws (args x) ∧ dom x ∧
    ∀ y d G' H', Gr (fun b => b = a) G H G' H' → SpAt a n G' H' → post x d → R K G' y d → Q y H'
section
variable {K : PySem.W.Frag} {α : Type} {σ : L2.St} {G : Hp} {ta : TA} {args : α → List D} {dom : α → Prop}
theorem ev_call {res : α → D} {E : XK} (x : α) (ha : EvA K ta σ G (args x)) (hd : dom x) : Ev K (tCall (spP K args dom res) [] E ta) σ G (res x) := fun G1 H1 Q ex s q =>
  ha G1 H1 _ ex s fun ys G2 H2 g r => ⟨G2, x, g.s, by rw [List.append_nil]; exact r, hd, fun y G' H' g' r' => q y G' H' (g.trans g') r'⟩
/-- a call of a drawing def: the spring stands at slot i -/
theorem ej_call {k : α → Nat} {post : α → D → Prop} {E : XK} {a : Addr} {i j : Nat} {P : List D → Prop} {P' : D → Prop} {kk : Nat} (hi : σ[i]? = some (some (.ref a))) (ha : EvJA K (Wsp K a) j ta σ G P)
    (hx : ∀ ds, P ds → ∃ x : α, ds = args x ∧ dom x ∧ k x ≤ kk ∧ ∀ d, post x d → P' d) : EvJ K (Wsp K a) (j + kk) (tCall (spJ K args dom k post) [] E (tCons (tVar i) ta)) σ G P' := fun n G1 H1 Q ex s jj q =>
  ⟨.ref a, hi, ha (n + kk) G1 H1 _ ex s (by rw [Nat.add_assoc, Nat.add_comm kk j]; exact jj) fun ys ds G2 H2 g j2 p r => by
    obtain ⟨x, rfl, hd, hk, hp⟩ := hx ds p
    exact ⟨G2, x, a, n, ys, by rw [List.append_nil], g.s, (Wsp K a).le (by omega) j2, r, hd, fun y d G' H' g' j' p' r' => q y d G' H' (g.trans g') j' (hp d p') r'⟩⟩
end

/-! ### statements -/
section
variable {K : PySem.W.Frag} {W : World K} {M : Addr → Prop} {σ : L2.St} {G0 H0 G H : Hp} {te : TE} {t : TT} {tu tw tz : TS} {d : D} {D' : Ends} {i k n : Nat} {P : D → Prop}
theorem s_asg (gr : Gr M G0 H0 G H) (h : Ev K te σ G d) (q : ∀ y G1 H1, Gr M0 G H G1 H1 → Gr M G0 H0 G1 H1 → R K G1 y d → D'.nx (σ.set i (some y)) H1) : tAsg te (gName i) D' σ H :=
  h G H _ (Ex.refl G) gr.s fun y G1 H1 g r => q y G1 H1 g (gr.trans g.up) r
theorem q_asg (gr : Gr M G0 H0 G H) (h : Ev K te σ G d) (q : ∀ y G1 H1, Gr M0 G H G1 H1 → Gr M G0 H0 G1 H1 → R K G1 y d → tz D' (σ.set i (some y)) H1) : tSeq (tAsg te (gName i)) tz D' σ H := s_asg (D' := { D' with nx := tz D' }) gr h q
theorem q_asgJ (gr : Gr W.M G0 H0 G H) (j : W.J (n + k) G H) (h : EvJ K W k te σ G P) (q : ∀ y d G1 H1, Gr W.M G H G1 H1 → Gr W.M G0 H0 G1 H1 → W.J n G1 H1 → P d → R K G1 y d → tz D' (σ.set i (some y)) H1) : tSeq (tAsg te (gName i)) tz D' σ H :=
  h n G H _ (Ex.refl G) gr.s j fun y d G1 H1 g j1 p r => q y d G1 H1 g (gr.trans g) j1 p r
theorem s_ret (gr : Gr M G0 H0 G H) (h : Ev K te σ G d) (q : ∀ y G1 H1, Gr M G0 H0 G1 H1 → R K G1 y d → D'.rt y H1) : tRet te D' σ H :=
  h G H _ (Ex.refl G) gr.s fun y G1 H1 g r => q y G1 H1 (gr.trans g.up) r
theorem s_retJ (gr : Gr W.M G0 H0 G H) (j : W.J (n + k) G H) (h : EvJ K W k te σ G P) (q : ∀ y d G1 H1, Gr W.M G0 H0 G1 H1 → W.J n G1 H1 → P d → R K G1 y d → D'.rt y H1) : tRet te D' σ H :=
  h n G H _ (Ex.refl G) gr.s j fun y d G1 H1 g j1 p r => q y d G1 H1 (gr.trans g) j1 p r
theorem s_if {b : Bool} (gr : Gr M G0 H0 G H) (h : EvT t σ G b) (h1 : b = true → ∀ G1 H1, Gr M0 G H G1 H1 → Gr M G0 H0 G1 H1 → tu D' σ H1) (h2 : b = false → ∀ G1 H1, Gr M0 G H G1 H1 → Gr M G0 H0 G1 H1 → tw D' σ H1) : tIfS t tu tw D' σ H :=
  h G H _ (Ex.refl G) gr.s fun G1 H1 g => by
    cases b with
    | true => exact h1 rfl G1 H1 g (gr.trans g.up)
    | false => exact h2 rfl G1 H1 g (gr.trans g.up)
theorem q_if {b : Bool} (gr : Gr M G0 H0 G H) (h : EvT t σ G b) (h1 : b = true → ∀ G1 H1, Gr M0 G H G1 H1 → Gr M G0 H0 G1 H1 → tu { D' with nx := tz D' } σ H1) (h2 : b = false → ∀ G1 H1, Gr M0 G H G1 H1 → Gr M G0 H0 G1 H1 → tw { D' with nx := tz D' } σ H1) : tSeq (tIfS t tu tw) tz D' σ H :=
  s_if (D' := { D' with nx := tz D' }) gr h h1 h2
/-- an if without else -/
theorem q_when {b : Bool} (gr : Gr M G0 H0 G H) (h : EvT t σ G b) (h1 : b = true → ∀ G1 H1, Gr M0 G H G1 H1 → Gr M G0 H0 G1 H1 → tu { D' with nx := tz D' } σ H1) (h2 : b = false → ∀ G1 H1, Gr M0 G H G1 H1 → Gr M G0 H0 G1 H1 → tz D' σ H1) : tSeq (tIfS t tu tNext) tz D' σ H :=
  s_if (D' := { D' with nx := tz D' }) gr h h1 h2
theorem s_when {b : Bool} (gr : Gr M G0 H0 G H) (h : EvT t σ G b) (h1 : b = true → ∀ G1 H1, Gr M0 G H G1 H1 → Gr M G0 H0 G1 H1 → tu D' σ H1) (h2 : b = false → ∀ G1 H1, Gr M0 G H G1 H1 → Gr M G0 H0 G1 H1 → D'.nx σ H1) : tIfS t tu tNext D' σ H :=
  s_if gr h h1 h2
end

/-! ### walks -/
/-- an It that gives the data ds, one by one -/
def Wk (K : PySem.W.Frag) (J : It) (G : Hp) (ds : List D) : Prop :=
  Walk J ds.length (fun H => Sub G H) (fun i H y H' => ∀ Gx, Ex G Gx → Sub Gx H → ∃ Gy d, ds[i]? = some d ∧ Gr M0 Gx H Gy H' ∧ R K Gy y d)
/-- an iterable that gives the data ds -/
def Src (K : PySem.W.Frag) (wi : TI) (σ : L2.St) (G : Hp) (ds : List D) : Prop :=
  ∀ (G1 H1 : Hp) (Q : It → Hp → Prop), Ex G G1 → Sub G1 H1 → (∀ J G2 H2, Gr M0 G1 H1 G2 H2 → Wk K J G2 ds → Q J H2) → wi σ H1 Q
section
variable {K : PySem.W.Frag} {σ : L2.St} {G : Hp} {te : TE} {ta : TA} {ds es : List D}
theorem Src.mono {wi : TI} {G' : Hp} (a : Ex G G') (h : Src K wi σ G ds) : Src K wi σ G' ds := fun G1 H1 Q e s q => h G1 H1 Q (a.trans e) s q
theorem wk_list {G : Hp} {a : Addr} {xs : List V} (h : G a = some (.lst xs)) (r : RA K G xs ds) : Wk K (Itl K a) G ds := by
  have w : Walk (Itl K a) ds.length (fun H => SqL K H a xs) (YAt xs) := by rw [← r.length]; exact walk_list
  refine w.mono (fun H s => sql_of s h) fun i H y H' hi s z => ?_
  obtain ⟨e, hy⟩ := z
  subst e
  intro Gx ex sx
  have hd : ds[i]? = some ds[i] := List.getElem?_eq_getElem hi
  exact ⟨Gx, ds[i], hd, Gr.refl sx, (r.get i y _ hy hd).mono ex⟩
theorem wk_tup {G : Hp} {a : Addr} {xs : List V} (h : G a = some (.tup xs)) (r : RA K G xs ds) : Wk K (Itt K a) G ds := by
  have w : Walk (Itt K a) ds.length (fun H => SqT K H a xs) (YAt xs) := by rw [← r.length]; exact walk_tup
  refine w.mono (fun H s => sqt_of s h) fun i H y H' hi s z => ?_
  obtain ⟨e, hy⟩ := z
  subst e
  intro Gx ex sx
  have hd : ds[i]? = some ds[i] := List.getElem?_eq_getElem hi
  exact ⟨Gx, ds[i], hd, Gr.refl sx, (r.get i y _ hy hd).mono ex⟩
theorem src_list (h : Ev K te σ G (.l ds)) : Src K (iList K te) σ G ds := fun G1 H1 Q e s q => h G1 H1 _ e s fun y G2 H2 g r => by
  obtain ⟨a, xs, rfl, ha, ra⟩ := r.lst_inv
  exact ⟨a, rfl, ⟨xs, sql_of g.s ha⟩, q _ G2 H2 g (wk_list ha ra)⟩
theorem src_tup (h : Ev K te σ G (.t ds)) : Src K (iTup K te) σ G ds := fun G1 H1 Q e s q => h G1 H1 _ e s fun y G2 H2 g r => by
  obtain ⟨a, xs, rfl, ha, ra⟩ := r.tup_inv
  exact ⟨a, rfl, ⟨xs, sqt_of g.s ha⟩, q _ G2 H2 g (wk_tup ha ra)⟩
theorem src_rng1 {n : Int} (h : EvA K ta σ G [.v (.int n)]) (h0 : 0 ≤ n) (h1 : n < 2 ^ 62) : Src K (iRng1 ta) σ G ((List.range n.toNat).map fun i => D.v (.int (i : Nat))) := fun G1 H1 Q e s q => h G1 H1 _ e s fun ys G2 H2 g r => by
  obtain ⟨x, rfl, rx⟩ := r.inv1
  obtain ⟨rfl, _⟩ := rx.v_inv
  refine ⟨n, rfl, by omega, h1, q _ G2 H2 g ?_⟩
  have w : Walk (Itr 0 n.toNat) ((List.range n.toNat).map fun i => D.v (.int (i : Nat))).length (fun _ => True) (YFn fun i => .int (0 + i)) := by
    have e : ((List.range n.toNat).map fun i => D.v (.int (i : Nat))).length = n.toNat := by simp
    rw [e]
    exact walk_range
  refine w.mono (fun _ _ => True.intro) fun i H y H' hi s z => ?_
  obtain ⟨e1, e2⟩ := z
  subst e1
  subst e2
  intro Gx ex sx
  have hi' : i < n.toNat := by simpa using hi
  refine ⟨Gx, D.v (.int (i : Nat)), by simp [hi'], Gr.refl sx, ?_⟩
  show R K Gx (V.int (0 + ((i : Nat) : Int))) _
  rw [Int.zero_add]
  exact .int
theorem str_flat {c : Nat} : Flat K (.str ⟨#[c]⟩) := True.intro
theorem src_str {z : Str} (h : Ev K te σ G (.v (.str z))) : Src K (iStr te) σ G (z.cps.toList.map fun c => D.v (.str ⟨#[c]⟩)) := fun G1 H1 Q e s q => h G1 H1 _ e s fun y G2 H2 g r => by
  obtain ⟨rfl, _⟩ := r.v_inv
  refine ⟨z, rfl, q _ G2 H2 g ?_⟩
  have w : Walk (Its z) (z.cps.toList.map fun c => D.v (.str ⟨#[c]⟩)).length (fun _ => True) (fun i H v H' => H' = H ∧ ∃ c, z.cps[i]? = some c ∧ v = .str ⟨#[c]⟩) := by
    have e : (z.cps.toList.map fun c => D.v (.str ⟨#[c]⟩)).length = z.cps.size := by simp
    rw [e]
    exact walk_str
  refine w.mono (fun _ _ => True.intro) fun i H y H' hi s z' => ?_
  obtain ⟨e1, c, hc, rfl⟩ := z'
  subst e1
  intro Gx ex sx
  exact ⟨Gx, D.v (.str ⟨#[c]⟩), by simp [hc], Gr.refl sx, .v True.intro⟩
/-- a pair made on the way -/
theorem pair_step {G H H' : Hp} {T : Addr} {x y : V} {d e : D} (s : Sub G H) (hT : H T = none) (eH : H' = upd H T (.tup [x, y])) (rx : R K G x d) (ry : R K G y e) : ∃ Gy, Gr M0 G H Gy H' ∧ R K Gy (.ref T) (.t [d, e]) := by
  subst eH
  have e1 : Ex G (upd G T (.tup [x, y])) := Ex.new (s.none' hT)
  exact ⟨upd G T (.tup [x, y]), Gr.new s hT, R.tup upd_same (.cons (rx.mono e1) (.cons (ry.mono e1) .nil))⟩
theorem src_enum (h : EvA K ta σ G [.l ds]) : Src K (iEnum K ta) σ G ((List.range ds.length).zipWith (fun i d => D.t [.v (.int (i : Nat)), d]) ds) := fun G1 H1 Q e s q => h G1 H1 _ e s fun ys G2 H2 g r => by
  obtain ⟨x, rfl, rx⟩ := r.inv1
  obtain ⟨a, xs, rfl, ha, ra⟩ := rx.lst_inv
  refine ⟨a, xs, rfl, sql_of g.s ha, q _ G2 H2 g ?_⟩
  have el : ((List.range ds.length).zipWith (fun i d => D.t [.v (.int (i : Nat)), d]) ds).length = xs.length := by simp [ra.length]
  have w : Walk (Ite K a) ((List.range ds.length).zipWith (fun i d => D.t [.v (.int (i : Nat)), d]) ds).length (fun H => SqL K H a xs) (YPair (fun i => some (.int (i : Nat))) (fun i => xs[i]?)) := by
    rw [el]
    exact walk_enum
  refine w.mono (fun H s => sql_of s ha) fun i H y H' hi s z => ?_
  obtain ⟨T, x, y', rfl, hT, eH, h1, h2⟩ := z
  cases h1
  intro Gx ex sx
  rw [el, ra.length] at hi
  have hd : ds[i]? = some ds[i] := List.getElem?_eq_getElem hi
  obtain ⟨Gy, g1, r1⟩ := pair_step sx hT eH (d := .v (.int (i : Nat))) .int ((ra.get i y' _ h2 hd).mono ex)
  exact ⟨Gy, D.t [.v (.int (i : Nat)), ds[i]], by simp [hi], g1, r1⟩
end

/-! ### targets -/
/-- the target g takes y: behind it the slots are σ' -/
def Tg (g : TG) (y : V) (σ : L2.St) (G : Hp) (σ' : L2.St) : Prop := ∀ (H : Hp) (k : L2.St → Hp → Prop), Sub G H → k σ' H → g y σ H k
theorem tg_name {y : V} {σ : L2.St} {G : Hp} {j : Nat} : Tg (gName j) y σ G (σ.set j (some y)) := fun _ _ _ k => k
theorem tg_pair {K : PySem.W.Frag} {y : V} {σ : L2.St} {G : Hp} {i j : Nat} {d e : D} (r : R K G y (.t [d, e])) : ∃ u v, R K G u d ∧ R K G v e ∧ Tg (gTup K 2 (gCons (gName i) (gCons (gName j) gNil))) y σ G ((σ.set i (some u)).set j (some v)) := by
  obtain ⟨a, xs, rfl, ha, ra⟩ := r.tup_inv
  obtain ⟨u, v, rfl, ru, rv⟩ := ra.inv2
  exact ⟨u, v, ru, rv, fun H k s q => ⟨a, [u, v], rfl, sqt_of s ha, rfl, u, [v], rfl, v, [], rfl, rfl, q⟩⟩

/-! ### comprehensions -/
section
variable {K : PySem.W.Frag} {σ : L2.St} {G : Hp} {α : Type}
theorem filter_snoc {L : List α} {F : α → Bool} {i : Nat} {a : α} (h : L[i]? = some a) : (L.take (i + 1)).filter F = (L.take i).filter F ++ (if F a then [a] else []) := by
  rw [List.take_add_one, h, List.filter_append]
  congr 1
  simp only [Option.toList_some, List.filter_cons, List.filter_nil]
/-- a list comprehension over a source of data: for each item a, whether it stays and what it gives -/
theorem ev_lc {wi : TI} {g : TG} {tt : TT} {te : TE} {vs : List Nat} (L : List α) (φ : α → D) (F : α → Bool) (E : α → D) (hs : Src K wi σ G (L.map φ)) (hz : L.length < 100000)
    (turn : ∀ a ∈ L, ∀ y G1, Ex G G1 → R K G1 y (φ a) → ∃ σ', Tg g y (wipe σ vs) G1 σ' ∧ wipe σ' vs = wipe σ vs ∧ EvT tt σ' G1 (F a) ∧ (F a = true → Ev K te σ' G1 (E a))) :
    Ev K (tLc wi g tt te vs) σ G (.l ((L.filter F).map E)) := fun G1 H1 Q ex s q => hs G1 H1 _ ex s fun J G2 H2 g2 w Dl hD => by
  have hDG : G2 Dl = none := g2.s.none' hD
  have hH1 : H1 Dl = none := g2.ex.none' hD
  refine lc_it w (fun i H => ∃ Gi, Gr M0 G2 (upd H2 Dl (.lst [])) Gi (upd H Dl (.lst [])) ∧ Gi Dl = none ∧ ∃ acc, H Dl = some (.lst acc) ∧ RA K Gi acc (((L.take i).filter F).map E)) ?_ ?_ ?_ ?_
  · refine ⟨G2, ?_, hDG, [], upd_same, .nil⟩
    rw [upd_upd]
    exact Gr.refl (g2.s.mut hDG)
  · rintro i H _ ⟨Gi, gi, hn, acc, hacc, _⟩
    have z := Sub.mut (o := .lst acc) gi.s hn
    rw [upd_upd] at z
    have e : upd H Dl (.lst acc) = H := by
      funext b
      by_cases hb : b = Dl
      · rw [hb, upd_same, hacc]
      · rw [upd_ne hb]
    rw [e] at z
    exact Sub.ex gi.g z
  · rintro i y H H' hi ⟨Gi, gi, hn, acc, hacc, racc⟩ hy
    have z := Sub.mut (o := .lst acc) gi.s hn
    rw [upd_upd] at z
    have e : upd H Dl (.lst acc) = H := by
      funext b
      by_cases hb : b = Dl
      · rw [hb, upd_same, hacc]
      · rw [upd_ne hb]
    rw [e] at z
    obtain ⟨Gy, d, hd, gy, ry⟩ := hy Gi gi.g z
    have hi' : i < L.length := by simpa using hi
    have ha : L[i]? = some L[i] := List.getElem?_eq_getElem hi'
    have hdd : d = φ L[i] := by
      rw [List.getElem?_map, ha] at hd
      exact (Option.some.inj hd).symm
    subst hdd
    have exy : Ex G Gy := ex.trans (g2.g.trans (gi.g.trans gy.g))
    obtain ⟨σ', tg, hw, ht, he⟩ := turn L[i] (List.getElem_mem hi') y Gy exy ry
    have hyD : H' Dl = some (.lst acc) := gy.ex _ _ hacc
    have hyG : Gy Dl = none := gy.n _ _ hacc hn
    refine tg H' _ gy.s ⟨hw, ht Gy H' _ (Ex.refl _) gy.s fun G3 H3 g3 => ?_⟩
    have step : ∀ {Ga Ha : Hp} {o : HO}, Gr M0 Gi H Ga Ha → Gr M0 G2 (upd H2 Dl (.lst [])) Ga (upd (upd Ha Dl o) Dl (.lst [])) := fun {Ga Ha o} ga => by
      rw [upd_upd]
      have hGa : Ga Dl = none := ga.n _ _ hacc hn
      refine ⟨gi.g.trans ga.g, fun b u m eb => ?_, ga.s.mut hGa, fun b u eb qb => ?_, fun b u eb => ?_⟩
      · have e1 := gi.h b u m eb
        by_cases hb : b = Dl
        · subst hb; rw [upd_same] at e1 ⊢; exact e1
        · rw [upd_ne hb] at e1 ⊢; exact ga.ex _ _ e1
      · by_cases hb : b = Dl
        · subst hb; exact hGa
        · have e1 := gi.h b u (fun z => z) eb
          rw [upd_ne hb] at e1
          exact ga.n _ _ e1 (gi.n b u eb qb)
      · by_cases hb : b = Dl
        · subst hb; exact ⟨_, upd_same⟩
        · have e1 := gi.h b u (fun z => z) eb
          rw [upd_ne hb] at e1 ⊢
          exact ⟨u, ga.ex _ _ e1⟩
    cases hF : F L[i] with
    | true =>
      rw [if_pos rfl]
      refine he hF G3 H3 _ g3.g g3.s fun v G4 H4 g4 r4 => ?_
      have g34 : Gr M0 Gi H G4 H4 := gy.trans (g3.trans g4)
      have hle : acc.length ≤ L.length := by
        rw [racc.length, List.length_map]
        exact Nat.le_trans (List.length_filter_le _ _) (by rw [List.length_take]; omega)
      refine ⟨acc, g34.ex _ _ hacc, size_lt (by omega), G4, step g34, g34.n _ _ hacc hn, acc ++ [v], upd_same, ?_⟩
      rw [filter_snoc ha, hF, if_pos rfl, List.map_append]
      exact (racc.mono g34.g).append (.cons r4 .nil)
    | false =>
      rw [if_neg Bool.false_ne_true]
      have g33 : Gr M0 Gi H G3 H3 := gy.trans g3
      have h3 := g33.ex _ _ hacc
      have e3 : upd H3 Dl (.lst acc) = H3 := by
        funext b
        by_cases hb : b = Dl
        · rw [hb, upd_same, h3]
        · rw [upd_ne hb]
      have st := step (o := .lst acc) g33
      rw [e3] at st
      refine ⟨G3, st, g33.n _ _ hacc hn, acc, h3, ?_⟩
      rw [filter_snoc ha, hF, if_neg Bool.false_ne_true, List.append_nil]
      exact racc.mono g33.g
  · rintro H ⟨Gi, gi, hn, acc, hacc, racc⟩
    rw [List.length_map, List.take_length] at racc
    have z := Sub.mut (o := .lst acc) gi.s hn
    rw [upd_upd] at z
    have e : upd H Dl (.lst acc) = H := by
      funext b
      by_cases hb : b = Dl
      · rw [hb, upd_same, hacc]
      · rw [upd_ne hb]
    rw [e] at z
    refine q (.ref Dl) (upd Gi Dl (.lst acc)) H ?_ (R.lst upd_same (racc.mono (Ex.new hn)))
    have eH : ∀ b u, H1 b = some u → H b = some u := fun b u eb => by
      have hb : b ≠ Dl := ne_of_none eb hH1
      have e1 : (upd H2 Dl (.lst [])) b = some u := by rw [upd_ne hb]; exact g2.ex _ _ eb
      have e2 := gi.h b u (fun z => z) e1
      rw [upd_ne hb] at e2
      exact e2
    refine ⟨g2.g.trans (gi.g.trans (Ex.new hn)), fun b u _ eb => eH b u eb, Sub.take z hacc, fun b u eb qb => ?_, fun b u eb => ⟨u, eH b u eb⟩⟩
    have hb : b ≠ Dl := ne_of_none eb hH1
    rw [upd_ne hb]
    exact gi.n b u (by rw [upd_ne hb]; exact g2.ex _ _ eb) (g2.n b u eb qb)
end
end RW

/-! own layer 2b: enumerate over a tuple; isinstance of a def; == of paths -/
namespace PySem
open Sem (wp)
open AutoSeq1 (wpAny_loadPart')
theorem meets_enumerate_newT (l : Addr) (items : Array Value) (n : Nat) (dct : Option Addr) (sl : Array (Option Value)) :
    Meets (Builtin.«enumerate.__new__» ⟨[.type "enumerate", .ref l], []⟩) (fun _ R s => s.heap.get? l = some { cls := .type "tuple", dict := dct, data := .seq items n, slots := sl } ∧
      R (.ok (.ret (.ref (s.heap.push { cls := .type "tuple_iterator", data := .fields #[.ref l, .int 0 0] }).objs.size)))
        { s with heap := (s.heap.push { cls := .type "tuple_iterator", data := .fields #[.ref l, .int 0 0] }).push { cls := .type "enumerate", data := .fields #[.none, .bool false, .ref s.heap.objs.size, rawInt 0, .none, .none] } }) :=
  .of_wp fun prog w A R s h => by
    obtain ⟨hp, g, d, tk, os⟩ := s; obtain ⟨hl, h⟩ := h
    have hsub := sub_enumerate
    have hL : Heap.IsTuple (Shared.heap ⟨hp, g, d, tk, os⟩) l items := ⟨_, hl, rfl, n, rfl⟩
    wp_walk using wpAny_loadPart' hl
    refine wpAny_stack_any fun st => wpAny_pure ?_
    split
    · rename_i c _ _ _ _ _
      cases (c == Value.type "enumerate")
      · wp_walk using wpAny_loadPart' hl, wpAny_pyIter_tuple hL
        exact ⟨_, rfl, h⟩
      · wp_walk using wpAny_loadPart' hl, wpAny_pyIter_tuple hL
        exact ⟨_, rfl, h⟩
    · wp_walk using wpAny_loadPart' hl, wpAny_pyIter_tuple hL
      exact ⟨_, rfl, h⟩
section
variable {prog : Program} {w : World} {A : Around} {E : Value → Shared → Prop} {s : Shared}
theorem call_enumerate_tuple {l : Addr} {items : Array Value} {Q : Value → Shared → Prop} (hL : s.heap.IsTuple l items)
    (h : ∀ h', IsEnum h' (s.heap.objs.size + 1) s.heap.objs.size 0 .none → h'.IsTupleIter s.heap.objs.size l 0 → h'.objs.size = s.heap.objs.size + 2 →
      (∀ b o, s.heap.get? b = some o → h'.get? b = some o) → Q (.ref (s.heap.objs.size + 1)) { s with heap := h' }) :
    wpAny (model prog w) A (call (.type "enumerate") [.ref l]) Q E s := by
  obtain ⟨⟨c, dct, dt, sl⟩, hl, hc, n, hd⟩ := hL
  replace hc : c = .type "tuple" := hc
  replace hd : dt = .seq items n := hd
  subst hc hd
  refine callType_new F.called_enumerate (by decide) (F.typeCall_enumerate_1 _) (F.newCall_enumerate_1 _) (fun obj => F.args_object_init_2 obj _) F.entry_enumerate_new
    (meets_enumerate_newT l items n dct sl) ⟨hl, ?_⟩
  have hz : (s.heap.push { cls := .type "tuple_iterator", data := .fields #[.ref l, .int 0 0] }).objs.size = s.heap.objs.size + 1 := Heap.size_push ..
  show _ ∧ _
  rw [hz]
  have he : IsEnum ((s.heap.push { cls := .type "tuple_iterator", data := .fields #[.ref l, .int 0 0] }).push
      { cls := .type "enumerate", data := .fields #[.none, .bool false, .ref s.heap.objs.size, rawInt 0, .none, .none] }) (s.heap.objs.size + 1) s.heap.objs.size 0 .none := by
    have := Heap.get?_push_size (s.heap.push { cls := .type "tuple_iterator", data := .fields #[.ref l, .int 0 0] })
      (o := { cls := .type "enumerate", data := .fields #[.none, .bool false, .ref s.heap.objs.size, rawInt 0, .none, .none] }) rfl
    rw [hz] at this; exact this
  refine ⟨⟨_, he, rfl⟩, h _ he ⟨_, Heap.get?_push_of_some _ (Heap.get?_push_size _ rfl), rfl, rfl⟩ (by rw [Heap.size_push, hz]) fun b o x => Heap.get?_push_of_some _ (Heap.get?_push_of_some _ x)⟩
theorem pyNext_enumT_end {e it l : Addr} {i : Nat} {items : Array Value} {old : Value} {Q : Option Value → Shared → Prop} (hh : A.handled = none)
    (he : IsEnum s.heap e it i old) (hit : s.heap.IsTupleIter it l i) (hl : s.heap.IsTuple l items) (hx : items[i]? = none)
    (hQ : ∀ h', Heap.ExtBut it s.heap h' → Q none { s with heap := h' }) : wpAny (model prog w) A (pyNext (.ref e)) Q E s := by
  have hT : s.TypeIs (.ref e) "enumerate" := ⟨_, he, rfl⟩
  unfold pyNext
  refine wpAny_bind (wpAny_attempt (wpAny_callSpecial?_slot (name := Str.ofString "__next__") hT F.slot_enumerate_next
    (wpAny_call_entry F.slot_enumerate_next hT F.entry_enumerate_next ?_ (F.args_enumerate_next_1 _))))
  show wpAny _ _ (field (.ref e) 2 >>= _) _ _ _
  refine wpAny_bind (wpAny_field he rfl (x := .ref it) rfl ?_)
  refine wpAny_bind (wpAny_nextOf_tuple_end hh hit hl hx fun h' x he' hx' => ?_)
  obtain ⟨o, ho, hc⟩ := hx'
  refine wpAny_bind (wpAny_isInstance (T := "StopIteration") (b := true) ⟨o, ho, hc⟩ isSubtype_stop ?_)
  exact wpAny_pure (hQ _ he')
end
end PySem
namespace RW
open PySem PySem.Spec L2
/-- the tuple at a as it stands, each item in a new pair -/
def IteT (K : PySem.W.Frag) (a : Addr) : It :=
  ⟨fun i H => ∃ (xs : List V) (x : V), SqT K H a xs ∧ xs[i]? = some x, fun i H v H' => ∃ T x, v = .ref T ∧ H T = none ∧ H' = upd H T (.tup [.int (i : Nat), x]) ∧ ∀ xs, SqT K H a xs → xs[i]? = some x, fun i H => ∃ xs : List V, SqT K H a xs ∧ xs.length ≤ i⟩
theorem turn_enumT {P : Program} {w : PySem.World} {K : PySem.W.Frag} {elts : List Expr} {kk : Nat} {tpos : Pos} (a e it : Addr) :
    Turn P w K (.Tuple elts kk tpos) (IteT K a) [e, it] e (fun i h => (∃ old, IsEnum h e it ((i : Nat) : Int) old) ∧ h.IsTupleIter it a i ∧ e ≠ it ∧ a ≠ e ∧ a ≠ it) where
  mem := by simp
  obj := fun i h st b hb => by
    obtain ⟨⟨old, he⟩, ⟨o, ho, hc, hd⟩, _⟩ := st
    have e' : b = e ∨ b = it := by simpa using hb
    rcases e' with z | z
    · rw [z]; exact ⟨_, he, fun v q => nomatch q⟩
    · rw [z]; exact ⟨o, ho, fun v q => by rw [hd] at q; cases q⟩
  keep := fun i h h' st k => let ⟨⟨old, he⟩, hi, hne⟩ := st; ⟨⟨old, k e (by simp) _ he⟩, hi.at fun o q => k it (by simp) o q, hne⟩
  item := by
    intro X hP hw hK hc i pins s σ H E I hf st hg
    subst hP hw hK
    obtain ⟨⟨old, he⟩, hit, hne, hae, hai⟩ := st
    obtain ⟨xs, x, hq, hx⟩ := hg
    obtain ⟨its, rv, p, hz⟩ := I.tuple hq
    obtain ⟨u, hu, ru⟩ := rv.get hx
    have hel : e < s.heap.objs.size := Heap.lt_size he
    have hil : it < s.heap.objs.size := by obtain ⟨_, q, _⟩ := hit; exact Heap.lt_size q
    have hlt : i < its.toArray.size := by
      have := (List.getElem?_eq_some_iff.mp hu).1
      simpa using this
    refine wpAny_pyNext_enum_itemD (Draws.tuple (prog := X.prog) (w := X.w) (A := X.A.in1) (I.ok.hd hc) it a hai its.toArray) he ⟨hit, (show s.heap.IsTuple a its.toArray from p)⟩ hlt hne (by simp [hne, Ne.symm hae]) fun y h' tk hy ho hit' hT hsz hk => ?_
    have ey : y = u := by
      have hy' : its[i]? = some y := by simpa using hy
      rw [hu] at hy'
      exact (Option.some.inj hy').symm
    subst ey
    refine ⟨_, rfl, wpAny_letOwnedTupleGo_enum (s := { s with heap := h', toks := tk + 1 }) ho fun h'' he' sb => ?_⟩
    have hT2 : h''.get? s.heap.objs.size = some { cls := .type "tuple", data := .seq #[.int i tk, y] } := (sb.2 _ (Nat.ne_of_gt hel)).trans hT
    have new : ObjOk X.prog X.w (upd H s.heap.objs.size (.tup [.int (i : Nat), x])) h'' s.heap.objs.size (.tup [.int (i : Nat), x]) :=
      ⟨by show 2 ≤ sizeLine; decide, [.int i tk, y], .cons ⟨_, rfl⟩ (.cons ru .nil), ⟨_, hT2, rfl, _, rfl⟩⟩
    have I1 : Inv X pins σ (upd H s.heap.objs.size (.tup [.int (i : Nat), x])) { s with heap := h'', toks := tk + 1 } :=
      I.turnedNew (ch := [e, it]) (fun b ob hb q => (sb.2 b (fun z => hb (by simp [z]))).trans (hk b ob (fun z => hb (by simp [z])) (fun z => hb (by simp [z])) q)) hf (Nat.le_refl _) new
    refine ⟨.ref s.heap.objs.size, _, I1, rfl, ⟨_, x, rfl, I.hok.fresh (Nat.le_refl _), rfl, fun ys hy => by rw [I.tuple_inj hy hq]; exact hx⟩, ⟨⟨y, ?_⟩, hit'.1.at fun o q => (sb.2 it (Ne.symm hne)).trans q, hne, hae, hai⟩, fun b hb => ?_⟩
    · have e1 : ((i + 1 : Nat) : Int) = (i : Int) + 1 := by omega
      rw [e1]; exact he'
    · have hb' : b < s.heap.objs.size := by
        have e' : b = e ∨ b = it := by simpa using hb
        rcases e' with z | z
        · rw [z]; exact hel
        · rw [z]; exact hil
      rw [upd_ne (Nat.ne_of_lt hb')]
      exact (hf b hb).1
  done := by
    intro X hP hw hK hc i pins s σ H E I hf st hg
    subst hP hw hK
    obtain ⟨⟨old, he⟩, hit, hne, hae, hai⟩ := st
    obtain ⟨xs, hq, hx⟩ := hg
    obtain ⟨its, rv, p, hz⟩ := I.tuple hq
    obtain ⟨f0, f1, f2, f3, f4, f5⟩ := hf it (by simp)
    have hl := rv.length
    exact pyNext_enumT_end (I.ok.hd hc) he hit (show s.heap.IsTuple a its.toArray from p) (by simp; omega) fun h' eb => ⟨rfl, I.turned (t' := s.toks) (fun b o hb q => eb b o hb q) f0 f1 f3 f4 f5⟩
  self := fun A i s Q E st h => let ⟨⟨_, he⟩, _⟩ := st; wpAny_pyIter_enum he h
def iEnumT (K : PySem.W.Frag) (ta : TA) : TI := fun σ H R => ta σ H fun vs H1 => ∃ a xs, vs = [.ref a] ∧ SqT K H1 a xs ∧ R (IteT K a) H1
theorem pi_enumT {X : Cx} {e : Expr} {ta : TA} {p pos tpos : Pos} {elts : List Expr} {kk : Nat} (hg : Gl X "enumerate") (hm : X.mg "enumerate" = none) (ha : PA X [e] ta) (hs : starEach [e] X.env = [(false, eval e X.env)] := by rfl) :
    PI X (.Tuple elts kk tpos) (.Call (.Name "enumerate" p) [e] [] pos) (iEnumT X.K ta) := by
  refine ⟨fun pins s σ H R I h => ?_⟩
  refine PyProof.Rows.Call_ (ld_blt I hg hm PyProof.Rows.boot_enumerate (PyProof.Rows.callWith_type1 (thn (ha.run pos pins s σ H _ I h) fun us s1 ⟨vs, H1, I1, r1, q1⟩ => ?_) hs rfl))
  obtain ⟨a, xs, ex, hq, q⟩ := q1
  subst ex
  cases r1 with
  | cons r rr =>
    cases rr
    cases r
    obtain ⟨its, rv, p', hz⟩ := I1.tuple hq
    have p'' : s1.heap.IsTuple a its.toArray := p'
    have hal : a < s1.heap.objs.size := by obtain ⟨o, q, _⟩ := p''; exact Heap.lt_size q
    refine call_enumerate_tuple p'' fun h' he hit hsz hk => wpAny_pyIter_enum he ?_
    have I2 : Inv X pins σ H1 { s1 with heap := h' } := I1.kept (t' := s1.toks) hk
    refine ⟨s1.heap.objs.size + 1, [s1.heap.objs.size + 1, s1.heap.objs.size], _, _, H1, rfl, I2, turn_enumT a (s1.heap.objs.size + 1) s1.heap.objs.size, ⟨⟨.none, he⟩, hit, Nat.succ_ne_self _, Nat.ne_of_lt (Nat.lt_succ_of_lt hal), Nat.ne_of_lt hal⟩, fun b hb => ?_, q⟩
    have e' : b = s1.heap.objs.size + 1 ∨ b = s1.heap.objs.size := by simpa using hb
    have hle : s1.heap.objs.size ≤ b := by
      rcases e' with z | z
      · rw [z]; exact Nat.le_add_right _ _
      · rw [z]; exact Nat.le_refl _
    exact I1.fpOk hle (I1.hok.fresh hle)
theorem walk_enumT {K : PySem.W.Frag} {a : Addr} {xs : List V} : Walk (IteT K a) xs.length (fun H => SqT K H a xs) (YPair (fun i => some (.int (i : Nat))) (fun i => xs[i]?)) := by
  refine ⟨fun i _ hi q => ⟨xs, xs[i], q, by simp [hi]⟩, fun _ q => ⟨xs, q, Nat.le_refl _⟩, fun i H v H' _ q y => ?_⟩
  obtain ⟨T, x, h1, h2, h3, h4⟩ := y
  exact ⟨T, .int (i : Nat), x, h1, h2, h3, rfl, h4 xs q⟩
/-- the items with their places -/
def numbered (ds : List D) : List D := (List.range ds.length).zipWith (fun i d => D.t [.v (.int (i : Nat)), d]) ds
theorem numbered_get {ds : List D} {i : Nat} (h : i < ds.length) : (numbered ds)[i]? = some (D.t [.v (.int (i : Nat)), ds[i]]) := by simp [numbered, h]
theorem numbered_len {ds : List D} : (numbered ds).length = ds.length := by simp [numbered]
theorem src_enumT {K : PySem.W.Frag} {σ : L2.St} {G : Hp} {ta : TA} {ds : List D} (h : EvA K ta σ G [.t ds]) : Src K (iEnumT K ta) σ G (numbered ds) := fun G1 H1 Q e s q => h G1 H1 _ e s fun ys G2 H2 g r => by
  obtain ⟨x, rfl, rx⟩ := r.inv1
  obtain ⟨a, xs, rfl, ha, ra⟩ := rx.tup_inv
  refine ⟨a, xs, rfl, sqt_of g.s ha, q _ G2 H2 g ?_⟩
  have el : (numbered ds).length = xs.length := by simp [numbered, ra.length]
  have w : Walk (IteT K a) (numbered ds).length (fun H => SqT K H a xs) (YPair (fun i => some (.int (i : Nat))) (fun i => xs[i]?)) := by
    rw [el]
    exact walk_enumT
  refine w.mono (fun H s => sqt_of s ha) fun i H y H' hi s z => ?_
  obtain ⟨T, x, y', rfl, hT, eH, h1, h2⟩ := z
  cases h1
  intro Gx ex sx
  rw [el, ra.length] at hi
  have hd : ds[i]? = some ds[i] := List.getElem?_eq_getElem hi
  obtain ⟨Gy, g1, r1⟩ := pair_step sx hT eH (d := .v (.int (i : Nat))) .int ((ra.get i y' _ h2 hd).mono ex)
  exact ⟨Gy, D.t [.v (.int (i : Nat)), ds[i]], numbered_get hi, g1, r1⟩
theorem src_enumL {K : PySem.W.Frag} {σ : L2.St} {G : Hp} {ta : TA} {ds : List D} (h : EvA K ta σ G [.l ds]) : Src K (iEnum K ta) σ G (numbered ds) := src_enum h
/-- one of two iterables -/
theorem PI.or {X : Cx} {tg e : Expr} {t u : TI} (h1 : PI X tg e t) (h2 : PI X tg e u) : PI X tg e (fun σ H R => t σ H R ∨ u σ H R) := ⟨fun pins s σ H R I h => h.elim (h1.run pins s σ H R I) (h2.run pins s σ H R I)⟩
def iOr (t u : TI) : TI := fun σ H R => t σ H R ∨ u σ H R
theorem pi_or {X : Cx} {tg e : Expr} {t u : TI} (h1 : PI X tg e t) (h2 : PI X tg e u) : PI X tg e (iOr t u) := PI.or h1 h2
theorem src_orl {K : PySem.W.Frag} {σ : L2.St} {G : Hp} {t u : TI} {ds : List D} (h : Src K t σ G ds) : Src K (iOr t u) σ G ds := fun G1 H1 Q e s q => .inl (h G1 H1 Q e s q)
theorem src_orr {K : PySem.W.Frag} {σ : L2.St} {G : Hp} {t u : TI} {ds : List D} (h : Src K u σ G ds) : Src K (iOr t u) σ G ds := fun G1 H1 Q e s q => .inr (h G1 H1 Q e s q)
end RW

/-! own layer 3: operations on data -/
namespace RW
open PySem PySem.Spec L2
open RZ (ItzT iZipA pi_zipA)

/-! ### isinstance -/
def tyD : D → Option Value
  | .v .non => some (.type "NoneType")
  | .v (.bl _) => some (.type "bool")
  | .v (.int _) => some (.type "int")
  | .v (.str _) => some (.type "str")
  | .v (.ref _) => some (.type "function")
  | .l _ => some (.type "list")
  | .t _ => some (.type "tuple")
  | .d _ => some (.type "dict")
  | .dt _ => some (.type "dict")
  | .o C _ => some (.ref C)
  | _ => none
/-- what isinstance asks of an own class -/
structure ClF (K : PySem.W.Frag) (C : Addr) : Prop where
  cl : Cls K C
  ca : PySem.W.findIn K (.ref C) "__class__" = some (some (.builtin "object.__class__"))
  cg : PySem.W.specialIn K (.builtin "object.__class__") "__get__" = some (some (.builtin "getset_descriptor.__get__"))
  ct : PySem.W.takesIn K (.builtin "object.__class__") = some true
  cm : PySem.W.mroIn K C (.type "object") = some true
section
variable {X : Cx} {pins : List (Addr × Obj)} {σ : L2.St} {H : Hp} {s : Shared}
theorem kit_D {G : Hp} {d : D} {x : V} {u t : Value} (I : Inv X pins σ H s) (rx : RelV x u) (sb : Sub G H) (r : R X.K G x d) (ty : tyD d = some t) (hc : ∀ C fs, d = .o C fs → ClF X.K C) :
    ∃ P : Heap → Prop, PySem.W.KitX X.K u t P ∧ P s.heap ∧ u ≠ .builtin "__main__.__loader__#opaque" := by
  have base : ∀ {t'}, TyX X.K H x t' → t' = t → ∃ P : Heap → Prop, PySem.W.KitX X.K u t P ∧ P s.heap ∧ u ≠ .builtin "__main__.__loader__#opaque" := fun h e => e ▸ kit_of I rx h
  cases r with
  | x => cases ty
  | v h =>
    cases x with
    | non => exact base (.base .non) (Option.some.inj ty)
    | bl b => exact base (.base (.bl b)) (Option.some.inj ty)
    | int i => exact base (.base (.int i)) (Option.some.inj ty)
    | str z => exact base (.base (.str z)) (Option.some.inj ty)
    | ref a =>
      obtain ⟨o, ho, hcl⟩ := h
      cases (show u = Value.ref a from rx)
      cases ty
      exact ⟨_, PySem.W.kitx_fn, ⟨o, I.kIn a o ho, hcl⟩, fun z => nomatch z⟩
    | _ => exact (show False from h).elim
  | l h hl hp => exact base (.base (.lst (sb.lst h))) (Option.some.inj ty)
  | f h hl hp => cases ty
  | t h hl hp => exact base (.base (.tup (sb.tup h))) (Option.some.inj ty)
  | d h hk hn hp =>
    rcases sb.dK h with z | ⟨ob, z⟩
    · exact base (.base (.dK z)) (Option.some.inj ty)
    · exact base (.fDict z) (Option.some.inj ty)
  | @dt a xs ds h hk hn hp =>
    rcases sb.dT h with z | ⟨ob, z⟩
    · exact base (.base (.dT z)) (Option.some.inj ty)
    · cases (show u = Value.ref a from rx)
      cases ty
      obtain ⟨_, _, _, vs, _, o, es, ep, h1, h2, _⟩ := (show ObjOk X.prog X.w H s.heap a (.frz ob (.dT xs)) from I.hok a _ z)
      exact ⟨_, PySem.W.kitx_dict, ⟨o, h1, h2.1⟩, fun z => nomatch z⟩
  | @o a C dx xs ds h hk hp =>
    have c := hc C ds rfl
    exact base (.base (.ins (sb.ins h) c.cl c.ca c.cg c.ct c.cm)) (Option.some.inj ty)
end
def rIsiD (K : PySem.W.Frag) : List V → Hp → VK → Prop := fun xs H Q => ∃ (x c : V) (d : D) (G : Hp) (t u : Value) (b : Bool), xs = [x, c] ∧ ClsV c u ∧ Sub G H ∧ R K G x d ∧ tyD d = some t ∧ (∀ C fs, d = .o C fs → ClF K C) ∧ PySem.W.kitOne K t u = some b ∧ Q (.bl b) H
def rIsiDT (K : PySem.W.Frag) : List V → Hp → VK → Prop := fun xs H Q => ∃ (x : V) (tp : Addr) (cs : List V) (d : D) (G : Hp) (t : Value) (us : List Value) (b : Bool), xs = [x, .ref tp] ∧ H tp = some (.tup cs) ∧ Paired ClsV cs us ∧ Sub G H ∧ R K G x d ∧ tyD d = some t ∧ (∀ C fs, d = .o C fs → ClF K C) ∧ PySem.W.kitAny K t us = some b ∧ Q (.bl b) H
section
variable {X : Cx}
theorem call_isiD : CallR X (.builtin "isinstance") (rIsiD X.K) := by
  intro pins s σ H xs us Q I r h
  obtain ⟨x, c, d, G, t, u, b, rfl, k, sb, rd, ty, hc, e, q⟩ := h
  obtain ⟨u1, u2, rfl, r1, r2⟩ := Vals.two r
  have e2 := k.eq r2
  subst e2
  obtain ⟨P, Z, p, hx⟩ := kit_D I r1 sb rd ty hc
  exact PySem.W.kia_one Z I.kIn p e hx fun tk => ⟨.bl b, H, I.tok tk, rfl, q⟩
theorem call_isiDT : CallR X (.builtin "isinstance") (rIsiDT X.K) := by
  intro pins s σ H xs us Q I r h
  obtain ⟨x, tp, cs, d, G, t, ws, b, rfl, hT, k, sb, rd, ty, hc, e, q⟩ := h
  obtain ⟨u1, u2, rfl, r1, r2⟩ := Vals.two r
  cases (show u2 = Value.ref tp from r2)
  obtain ⟨P, Z, p, hx⟩ := kit_D I r1 sb rd ty hc
  obtain ⟨_, its, rv, o, h1, h2, n, h3⟩ := (show ObjOk X.prog X.w H s.heap tp (.tup cs) from I.hok tp _ hT)
  have e3 := ClsV.all k rv
  subst e3
  obtain ⟨oc, od, dt, sl⟩ := o
  simp only at h2 h3
  subst h2 h3
  exact PySem.W.kia_tup Z I.kIn p h1 e hx fun tk => ⟨.bl b, H, I.tok tk, rfl, q⟩
end
def rIsD (K : PySem.W.Frag) : List V → Hp → VK → Prop := fun xs H Q => rIsiD K xs H Q ∨ rIsiDT K xs H Q
theorem call_isD {X : Cx} : CallR X (.builtin "isinstance") (rIsD X.K) := CallR.or call_isiD call_isiDT
/-- a class: data and the model's value -/
inductive CV : V → Value → Prop
  | ty (n : String) : CV (.ty n) (.type n)
  | own (C : Addr) : CV (.ref C) (.ref C)
theorem CV.cls {c : V} {u : Value} (h : CV c u) : ClsV c u := by cases h with
  | ty n => exact .ty n
  | own C => exact .own C
section
variable {K : PySem.W.Frag}
theorem rc_isi {d : D} {c : V} {t u : Value} {b : Bool} (hc : CV c u) (ty : tyD d = some t) (hk : PySem.W.kitOne K t u = some b) (ho : ∀ C fs, d = .o C fs → ClF K C) : RC K (rIsD K) [d, .x c] (.v (.bl b)) := fun G H xs Q s r q => by
  obtain ⟨x, y, rfl, rx, ry⟩ := r.inv2
  obtain rfl := ry.x_inv
  exact .inl ⟨x, y, d, G, t, u, b, rfl, hc.cls, s, rx, ty, ho, hk, q _ G H (Gr.refl s) .bl⟩
inductive CVs : List V → List Value → Prop
  | nil : CVs [] []
  | cons {c : V} {u : Value} {cs : List V} {us : List Value} (h : CV c u) (t : CVs cs us) : CVs (c :: cs) (u :: us)
theorem CVs.all {cs : List V} {us : List Value} (h : CVs cs us) : Paired ClsV cs us := by
  induction h with
  | nil => exact .nil
  | cons h t ih => exact .cons h.cls ih
theorem RA.xs {G : Hp} : ∀ {cs : List V} {ys : List V}, RA K G ys (cs.map .x) → ys = cs
  | [], _, h => by cases h; rfl
  | c :: cs, _, h => by
    cases h with
    | cons h t => rw [h.x_inv, RA.xs t]
theorem RA.vs {G : Hp} : ∀ {cs : List V} {ys : List V}, RA K G ys (cs.map .v) → ys = cs ∧ ∀ c ∈ cs, Flat K c
  | [], _, h => by cases h; exact ⟨rfl, fun _ h => by cases h⟩
  | c :: cs, _, h => by
    cases h with
    | cons h t =>
      obtain ⟨e, f⟩ := h.v_inv
      obtain ⟨e2, f2⟩ := RA.vs t
      rw [e, e2]
      exact ⟨rfl, fun z hz => by
        rcases List.mem_cons.mp hz with rfl | hz
        · exact f
        · exact f2 z hz⟩
theorem RA.of_vs {G : Hp} : ∀ {cs : List V}, (∀ c ∈ cs, Flat K c) → RA K G cs (cs.map .v)
  | [], _ => .nil
  | c :: cs, h => .cons (.v (h c (by simp))) (RA.of_vs fun z hz => h z (by simp [hz]))
theorem rc_isiT {d : D} {cs : List V} {t : Value} {us : List Value} {b : Bool} (hc : CVs cs us) (ty : tyD d = some t) (hk : PySem.W.kitAny K t us = some b) (ho : ∀ C fs, d = .o C fs → ClF K C) : RC K (rIsD K) [d, .t (cs.map .x)] (.v (.bl b)) := fun G H xs Q s r q => by
  obtain ⟨x, y, rfl, rx, ry⟩ := r.inv2
  obtain ⟨tp, zs, rfl, hT, rz⟩ := ry.tup_inv
  obtain rfl := rz.xs
  exact .inr ⟨x, tp, zs, d, G, t, us, b, rfl, s.tup hT, hc.all, s, rx, ty, ho, hk, q _ G H (Gr.refl s) .bl⟩
/-- built-in types among themselves -/
def kitAnyB (a : String) : List String → Option Bool
  | [] => some false
  | c :: r => match kitB a c with
    | some true => some true
    | some false => kitAnyB a r
    | none => none
theorem kitAny_B {a : String} : ∀ {cs : List String} {b : Bool}, kitAnyB a cs = some b → PySem.W.kitAny K (.type a) (cs.map .type) = some b
  | [], b, h => h
  | c :: r, b, h => by
    unfold kitAnyB at h
    cases e : kitB a c with
    | none => rw [e] at h; cases h
    | some x =>
      rw [e] at h
      cases x with
      | true => exact kitAny_cons (kit_ty e) (fun z => by cases z) fun _ => (Option.some.inj h).symm
      | false => exact kitAny_cons (kit_ty e) (fun _ => kitAny_B h) fun z => by cases z

/-! ### len, list, tuple, int -/
def rLenD : List V → Hp → VK → Prop := fun xs H Q => ∃ (p : Addr) (kvs : List (Key × V)), xs = [V.ref p] ∧ H p = some (.dK kvs) ∧ Q (.int kvs.length) H
def rLenS : List V → Hp → VK → Prop := fun xs H Q => ∃ z, xs = [V.str z] ∧ z.length ≤ sizeLine ∧ Q (.int z.length) H
def rLenQ (K : PySem.W.Frag) : List V → Hp → VK → Prop := fun xs H Q => ∃ p ys, xs = [V.ref p] ∧ (SqL K H p ys ∨ SqT K H p ys) ∧ Q (.int ys.length) H
def rLen (K : PySem.W.Frag) : List V → Hp → VK → Prop := fun xs H Q => rLenQ K xs H Q ∨ (rLenS xs H Q ∨ rLenD xs H Q)
theorem call_lenA {X : Cx} : CallR X (.builtin "len") (rLen X.K) := CallR.or call_len_seq (CallR.or call_len_str call_lenD)
theorem sql_frz {G H : Hp} {a : Addr} {xs : List V} (s : Sub G H) (h : SqF K G a xs) : SqL K H a xs := h.elim (fun ⟨ob, q⟩ => .inl (.inr ⟨ob, s.frz q⟩)) .inr
theorem rc_lenL {ds : List D} : RC K (rLen K) [.l ds] (.v (.int ds.length)) := fun G H xs Q s r q => by
  obtain ⟨x, rfl, rx⟩ := r.inv1
  obtain ⟨a, ys, rfl, ha, ra⟩ := rx.lst_inv
  exact .inl ⟨a, ys, rfl, .inl (sql_of s ha), by rw [ra.length]; exact q _ G H (Gr.refl s) .int⟩
theorem rc_lenF {ds : List D} : RC K (rLen K) [.f ds] (.v (.int ds.length)) := fun G H xs Q s r q => by
  obtain ⟨x, rfl, rx⟩ := r.inv1
  obtain ⟨a, ys, rfl, ha, ra⟩ := rx.frz_inv
  exact .inl ⟨a, ys, rfl, .inl (sql_frz s ha), by rw [ra.length]; exact q _ G H (Gr.refl s) .int⟩
theorem rc_lenT {ds : List D} : RC K (rLen K) [.t ds] (.v (.int ds.length)) := fun G H xs Q s r q => by
  obtain ⟨x, rfl, rx⟩ := r.inv1
  obtain ⟨a, ys, rfl, ha, ra⟩ := rx.tup_inv
  exact .inl ⟨a, ys, rfl, .inr (sqt_of s ha), by rw [ra.length]; exact q _ G H (Gr.refl s) .int⟩
theorem rc_lenS {z : Str} (h : z.length ≤ 100000) : RC K (rLen K) [.v (.str z)] (.v (.int z.length)) := fun G H xs Q s r q => by
  obtain ⟨x, rfl, rx⟩ := r.inv1
  obtain ⟨rfl, _⟩ := rx.v_inv
  exact .inr (.inl ⟨z, rfl, size_of h, q _ G H (Gr.refl s) .int⟩)
def rToL (K : PySem.W.Frag) : List V → Hp → VK → Prop := fun xs H Q => ∃ p ys, xs = [.ref p] ∧ (SqL K H p ys ∨ SqT K H p ys) ∧ ∀ l, H l = none → Q (.ref l) (upd H l (.lst ys))
theorem call_toL {X : Cx} : CallR X (.type "list") (rToL X.K) := call_list_of
theorem rc_toL_L {ds : List D} : RC K (rToL K) [.l ds] (.l ds) := fun G H xs Q s r q => by
  obtain ⟨x, rfl, rx⟩ := r.inv1
  obtain ⟨a, ys, rfl, ha, ra⟩ := rx.lst_inv
  exact ⟨a, ys, rfl, .inl (sql_of s ha), fun l hl => q _ (upd G l (.lst ys)) _ (Gr.new s hl) (R.lst upd_same (ra.mono (Ex.new (s.none' hl))))⟩
theorem rc_toL_T {ds : List D} : RC K (rToL K) [.t ds] (.l ds) := fun G H xs Q s r q => by
  obtain ⟨x, rfl, rx⟩ := r.inv1
  obtain ⟨a, ys, rfl, ha, ra⟩ := rx.tup_inv
  exact ⟨a, ys, rfl, .inr (sqt_of s ha), fun l hl => q _ (upd G l (.lst ys)) _ (Gr.new s hl) (R.lst upd_same (ra.mono (Ex.new (s.none' hl))))⟩
def rToT (K : PySem.W.Frag) : List V → Hp → VK → Prop := fun xs H Q => ∃ p ys, xs = [.ref p] ∧ ((SqL K H p ys ∧ ∀ l, H l = none → Q (.ref l) (upd H l (.tup ys))) ∨ (SqT K H p ys ∧ Q (.ref p) H))
theorem call_toT {X : Cx} : CallR X (.type "tuple") (rToT X.K) := call_tuple_of
theorem rc_toT_L {ds : List D} : RC K (rToT K) [.l ds] (.t ds) := fun G H xs Q s r q => by
  obtain ⟨x, rfl, rx⟩ := r.inv1
  obtain ⟨a, ys, rfl, ha, ra⟩ := rx.lst_inv
  exact ⟨a, ys, rfl, .inl ⟨sql_of s ha, fun l hl => q _ (upd G l (.tup ys)) _ (Gr.new s hl) (R.tup upd_same (ra.mono (Ex.new (s.none' hl))))⟩⟩
theorem rc_toT_T {ds : List D} : RC K (rToT K) [.t ds] (.t ds) := fun G H xs Q s r q => by
  obtain ⟨x, rfl, rx⟩ := r.inv1
  obtain ⟨a, ys, rfl, ha, ra⟩ := rx.tup_inv
  exact ⟨a, ys, rfl, .inr ⟨sqt_of s ha, q _ G H (Gr.refl s) rx⟩⟩
def rInt : List V → Hp → VK → Prop := fun xs H Q => (∃ i, xs = [.int i] ∧ Q (.int i) H) ∨ ∃ k, xs = [.bl k] ∧ Q (.int (if k then 1 else 0)) H
theorem call_int {X : Cx} : CallR X (.type "int") rInt := call_int1
theorem rc_int {i : Int} : RC K rInt [.v (.int i)] (.v (.int i)) := fun G H xs Q s r q => by
  obtain ⟨x, rfl, rx⟩ := r.inv1
  obtain ⟨rfl, _⟩ := rx.v_inv
  exact .inl ⟨i, rfl, q _ G H (Gr.refl s) .int⟩

/-! ### chains, in, is -/
theorem ev_chain {σ : L2.St} {G : Hp} {r r' : R2} {ta tb tc : TE} {d e f : D} {b c : Bool} (ha : Ev K ta σ G d) (hb : Ev K tb σ G e) (h1 : RV K r d e (.v (.bl b))) (hc : b = true → Ev K tc σ G f) (h2 : b = true → RV K r' e f (.v (.bl c))) : Ev K (tChain r r' ta tb tc) σ G (.v (.bl (b && c))) := fun G1 H1 Q ex s q =>
  ha G1 H1 _ ex s fun x G2 H2 g2 r2 => hb G2 H2 _ (ex.trans g2.g) g2.s fun y G3 H3 g3 r3 => h1 G3 H3 x y _ g3.s (r2.mono g3.g) r3 fun z G4 H4 g4 r4 => by
    obtain ⟨rfl, _⟩ := r4.v_inv
    refine ⟨b, rfl, ?_⟩
    cases b with
    | true => exact hc rfl G4 H4 _ (ex.trans ((g2.trans g3).trans g4).g) g4.s fun w G5 H5 g5 r5 => h2 rfl G5 H5 y w Q g5.s (r3.mono (g4.trans g5).g) r5 fun z G6 H6 g6 r6 => q z G6 H6 ((((g2.trans g3).trans g4).trans g5).trans g6) r6
    | false => exact q _ G4 H4 ((g2.trans g3).trans g4) .bl
def rSign : R2 := fun x y H Q => ∃ (c : Nat) (z : Str), x = .str ⟨#[c]⟩ ∧ y = .str z ∧ Q (.bl (decide (c ∈ z.cps.toList))) H
def rNotSign : R2 := fun x y H Q => ∃ (c : Nat) (z : Str), x = .str ⟨#[c]⟩ ∧ y = .str z ∧ Q (.bl (!decide (c ∈ z.cps.toList))) H
def rInA (K : PySem.W.Frag) : R2 := fun x y H Q => rSign x y H Q ∨ rIn K false x y H Q
def rNotInA (K : PySem.W.Frag) : R2 := fun x y H Q => rNotSign x y H Q ∨ rIn K true x y H Q
theorem op_inA {X : Cx} : OpR X (compareOp .In) (rInA X.K) := OpR.or op_in_sign op_in_seq
theorem op_notInA {X : Cx} : OpR X (compareOp .NotIn) (rNotInA X.K) := OpR.or op_notIn_sign op_notIn_seq
theorem rv_sign {c : Nat} {z : Str} : RV K (rInA K) (.v (.str ⟨#[c]⟩)) (.v (.str z)) (.v (.bl (decide (c ∈ z.cps.toList)))) := fun G H x y Q s rx ry q => by
  obtain ⟨rfl, _⟩ := rx.v_inv
  obtain ⟨rfl, _⟩ := ry.v_inv
  exact .inl ⟨c, z, rfl, rfl, q _ G H (Gr.refl s) .bl⟩
theorem rv_notSign {c : Nat} {z : Str} : RV K (rNotInA K) (.v (.str ⟨#[c]⟩)) (.v (.str z)) (.v (.bl (!decide (c ∈ z.cps.toList)))) := fun G H x y Q s rx ry q => by
  obtain ⟨rfl, _⟩ := rx.v_inv
  obtain ⟨rfl, _⟩ := ry.v_inv
  exact .inl ⟨c, z, rfl, rfl, q _ G H (Gr.refl s) .bl⟩
theorem rv_inL {z : V} {vs : List V} (hz : flatV z = true) (hv : vs.all flatV = true) : RV K (rInA K) (.v z) (.l (vs.map .v)) (.v (.bl (inV z vs))) := fun G H x y Q s rx ry q => by
  obtain ⟨rfl, _⟩ := rx.v_inv
  obtain ⟨a, ys, rfl, ha, ra⟩ := ry.lst_inv
  obtain ⟨rfl, _⟩ := ra.vs
  exact .inr ⟨a, ys, rfl, .inl (sql_of s ha), hz, hv, q _ G H (Gr.refl s) .bl⟩
theorem rv_inT {z : V} {vs : List V} (hz : flatV z = true) (hv : vs.all flatV = true) : RV K (rInA K) (.v z) (.t (vs.map .v)) (.v (.bl (inV z vs))) := fun G H x y Q s rx ry q => by
  obtain ⟨rfl, _⟩ := rx.v_inv
  obtain ⟨a, ys, rfl, ha, ra⟩ := ry.tup_inv
  obtain ⟨rfl, _⟩ := ra.vs
  exact .inr ⟨a, ys, rfl, .inr (sqt_of s ha), hz, hv, q _ G H (Gr.refl s) .bl⟩
theorem inV_str {z : Str} {ss : List Str} : inV (.str z) (ss.map .str) = decide (z ∈ ss) := by
  induction ss with
  | nil => rfl
  | cons s ss ih =>
    unfold inV at ih ⊢
    rw [List.map_cons, List.any_cons, ih]
    show ((s == z) || decide (z ∈ ss)) = _
    by_cases h : s = z
    · subst h
      simp
    · have h1 : (s == z) = false := by simpa using h
      have h2 : z ≠ s := fun q => h q.symm
      rw [h1, Bool.false_or, Bool.eq_iff_iff, decide_eq_true_iff, decide_eq_true_iff, List.mem_cons]
      exact ⟨.inr, fun q => q.resolve_left h2⟩

/-! ### slices -/
def cutD {α : Type} (xs : List α) (lo hi : Option Int) : List α := (xs.drop (HT.sIx xs.length 0 lo)).take (HT.sIx xs.length xs.length hi - HT.sIx xs.length 0 lo)
theorem RA.cut {G : Hp} {xs : List V} {ds : List D} (r : RA K G xs ds) {lo hi : Option Int} : RA K G (cutV xs lo hi) (cutD ds lo hi) := by
  unfold cutV cutD
  rw [r.length]
  exact (r.drop _).take _
def RS (K : PySem.W.Frag) (r : V → Option Int → Option Int → Hp → VK → Prop) (d : D) (lo hi : Option Int) (f : D) : Prop := ∀ (G H : Hp) (x : V) (Q : VK), Sub G H → R K G x d → (∀ z G2 H2, Gr M0 G H G2 H2 → R K G2 z f → Q z H2) → r x lo hi H Q
def rSlA' (K : PySem.W.Frag) : V → Option Int → Option Int → Hp → VK → Prop := fun x lo hi H Q => rSlL K x lo hi H Q ∨ rSlA K x lo hi H Q
theorem sl_A {X : Cx} : SlR X (rSlA' X.K) := SlR.or sl_list sl_tupA
theorem eo_none {σ : L2.St} {G : Hp} : EvO tNoPart σ G none := fun G1 H1 Q e s q => q G1 H1 (Gr.refl s)
theorem eo_some {σ : L2.St} {G : Hp} {te : TE} {i : Int} (h : Ev K te σ G (.v (.int i))) : EvO (tPart te) σ G (some i) := fun G1 H1 Q e s q => h G1 H1 _ e s fun y G2 H2 g r => by
  obtain ⟨rfl, _⟩ := r.v_inv
  exact ⟨i, rfl, q G2 H2 g⟩
theorem ev_sl {σ : L2.St} {G : Hp} {r : V → Option Int → Option Int → Hp → VK → Prop} {te : TE} {tl th : TO} {d f : D} {lo hi : Option Int} (ha : Ev K te σ G d) (hl : EvO tl σ G lo) (hh : EvO th σ G hi) (hr : RS K r d lo hi f) : Ev K (tSl r te tl th) σ G f := fun G1 H1 Q ex s q =>
  ha G1 H1 _ ex s fun x G2 H2 g2 r2 => hl G2 H2 _ (ex.trans g2.g) g2.s fun G3 H3 g3 => hh G3 H3 _ (ex.trans (g2.trans g3).g) g3.s fun G4 H4 g4 => hr G4 H4 x Q g4.s (r2.mono (g3.trans g4).g) fun z G5 H5 g5 r5 => q z G5 H5 (((g2.trans g3).trans g4).trans g5) r5
theorem rs_L {ds : List D} {lo hi : Option Int} : RS K (rSlA' K) (.l ds) lo hi (.l (cutD ds lo hi)) := fun G H x Q s rx q => by
  obtain ⟨a, ys, rfl, ha, ra⟩ := rx.lst_inv
  exact .inl ⟨a, ys, rfl, sql_of s ha, fun p hp => q _ (upd G p _) _ (Gr.new s hp) (R.lst upd_same (ra.cut.mono (Ex.new (s.none' hp))))⟩
theorem rs_F {ds : List D} {lo hi : Option Int} : RS K (rSlA' K) (.f ds) lo hi (.l (cutD ds lo hi)) := fun G H x Q s rx q => by
  obtain ⟨a, ys, rfl, ha, ra⟩ := rx.frz_inv
  exact .inl ⟨a, ys, rfl, sql_frz s ha, fun p hp => q _ (upd G p _) _ (Gr.new s hp) (R.lst upd_same (ra.cut.mono (Ex.new (s.none' hp))))⟩
theorem cutD_whole {α : Type} {xs : List α} {lo hi : Option Int} (h : HT.sIx xs.length 0 lo = 0 ∧ HT.sIx xs.length xs.length hi = xs.length) : cutD xs lo hi = xs := by
  unfold cutD
  rw [h.1, h.2]
  simp
theorem rs_T {ds : List D} {lo hi : Option Int} : RS K (rSlA' K) (.t ds) lo hi (.t (cutD ds lo hi)) := fun G H x Q s rx q => by
  obtain ⟨a, ys, rfl, ha, ra⟩ := rx.tup_inv
  refine .inr ⟨a, ys, rfl, sqt_of s ha, fun w => q _ G H (Gr.refl s) ?_, fun _ p hp => q _ (upd G p _) _ (Gr.new s hp) (R.tup upd_same (ra.cut.mono (Ex.new (s.none' hp))))⟩
  rw [ra.length] at w
  rw [cutD_whole w]
  exact rx
theorem cut_to {α : Type} {xs : List α} {n : Nat} : cutD xs none (some (n : Int)) = xs.take n := by
  unfold cutD
  rw [HT.sIx_none, HT.sIx_nat]
  simp only [List.drop_zero, Nat.sub_zero]
  rw [List.take_eq_take_min, Nat.min_assoc, Nat.min_self, ← List.take_eq_take_min]
theorem cut_from {α : Type} {xs : List α} {n : Nat} : cutD xs (some (n : Int)) none = xs.drop n := by
  unfold cutD
  rw [HT.sIx_none, HT.sIx_nat]
  by_cases h : n ≤ xs.length
  · rw [Nat.min_eq_left h]
    rw [List.take_of_length_le (by simp)]
  · have h' : xs.length ≤ n := by omega
    rw [Nat.min_eq_right h', List.drop_of_length_le (Nat.le_refl _), List.drop_of_length_le h']
    simp
theorem ev_rev {σ : L2.St} {G : Hp} {te : TE} {ds : List D} (h : Ev K te σ G (.l ds)) : Ev K (tRevL K te) σ G (.l ds.reverse) := fun G1 H1 Q ex s q => h G1 H1 _ ex s fun x G2 H2 g r => by
  obtain ⟨a, ys, rfl, ha, ra⟩ := r.lst_inv
  exact ⟨a, ys, rfl, sql_of g.s ha, fun p hp => q _ (upd G2 p _) _ (g.trans (Gr.new g.s hp)) (R.lst upd_same (ra.reverse.mono (Ex.new (g.s.none' hp))))⟩

/-! ### + -/
def rAddS : R2 := fun x y H Q => ∃ i j, x = .str i ∧ y = .str j ∧ i.length + j.length ≤ sizeLine ∧ Q (.str (i ++ j)) H
def rAdd (K : PySem.W.Frag) : R2 := fun x y H Q => rI0 (fun i j => .int (i + j)) x y H Q ∨ (rCat x y H Q ∨ (rAddS x y H Q ∨ rCatA K x y H Q))
theorem op_addA {X : Cx} : OpR X (binaryOp .Add) (rAdd X.K) := OpR.or op_add (OpR.or op_cat (OpR.or op_add_str op_catA))
theorem rv_add {i j : Int} : RV K (rAdd K) (.v (.int i)) (.v (.int j)) (.v (.int (i + j))) := fun G H x y Q s rx ry q => .inl (rv_I0 (g := fun i j => .int (i + j)) True.intro G H x y Q s rx ry q)
theorem rv_cat {ds es : List D} (h : ds.length + es.length ≤ 100000) : RV K (rAdd K) (.l ds) (.l es) (.l (ds ++ es)) := fun G H x y Q s rx ry q => by
  obtain ⟨a, xs, rfl, ha, ra⟩ := rx.lst_inv
  obtain ⟨b, ys, rfl, hb, rb⟩ := ry.lst_inv
  exact .inr (.inl ⟨a, b, xs, ys, rfl, rfl, s.lst ha, s.lst hb, size_of (by rw [ra.length, rb.length]; exact h), fun p hp => q _ (upd G p _) _ (Gr.new s hp) (R.lst upd_same ((ra.append rb).mono (Ex.new (s.none' hp))))⟩)
theorem rv_addS {i j : Str} (h : i.length + j.length ≤ 100000) : RV K (rAdd K) (.v (.str i)) (.v (.str j)) (.v (.str (i ++ j))) := fun G H x y Q s rx ry q => by
  obtain ⟨rfl, _⟩ := rx.v_inv
  obtain ⟨rfl, _⟩ := ry.v_inv
  exact .inr (.inr (.inl ⟨i, j, rfl, rfl, size_of h, q _ G H (Gr.refl s) .str⟩))

/-! ### any, all of a list of bools -/
theorem bools {G : Hp} : ∀ {bs : List Bool} {ys : List V}, RA K G ys (bs.map fun b => D.v (.bl b)) → ys = bs.map V.bl
  | [], _, h => by cases h; rfl
  | b :: bs, _, h => by
    cases h with
    | cons h t => rw [h.v_inv.1, bools t]; rfl
theorem rc_any {bs : List Bool} : RC K (rAny K) [.l (bs.map fun b => D.v (.bl b))] (.v (.bl (bs.any id))) := fun G H xs Q s r q => by
  obtain ⟨x, rfl, rx⟩ := r.inv1
  obtain ⟨a, ys, rfl, ha, ra⟩ := rx.lst_inv
  obtain rfl := bools ra
  exact ⟨a, bs, rfl, sql_of s ha, q _ G H (Gr.refl s) .bl⟩
theorem rc_all {bs : List Bool} : RC K (rAll K) [.l (bs.map fun b => D.v (.bl b))] (.v (.bl (bs.all id))) := fun G H xs Q s r q => by
  obtain ⟨x, rfl, rx⟩ := r.inv1
  obtain ⟨a, ys, rfl, ha, ra⟩ := rx.lst_inv
  obtain rfl := bools ra
  exact ⟨a, bs, rfl, sql_of s ha, q _ G H (Gr.refl s) .bl⟩

/-! ### zip -/
theorem walk_zipT {K : PySem.W.Frag} {a b : Addr} {xs ys : List V} {n : Nat} (hn : n = min xs.length ys.length) : Walk (ItzT K a b) n (fun H => SqT K H a xs ∧ SqT K H b ys) (YPair (fun i => xs[i]?) (fun i => ys[i]?)) := by
  subst hn
  refine ⟨fun i _ hi q => ?_, fun _ q => ⟨xs, ys, q.1, q.2, by omega⟩, fun i H v H' _ q y => ?_⟩
  · have h1 : i < xs.length := by omega
    have h2 : i < ys.length := by omega
    exact ⟨xs, ys, xs[i], ys[i], q.1, q.2, by simp [h1], by simp [h2]⟩
  · obtain ⟨T, x, z, h1, h2, h3, h4, h5⟩ := y
    exact ⟨T, x, z, h1, h2, h3, h4 _ q.1, h5 _ q.2⟩
def pairs (ds es : List D) : List D := ds.zipWith (fun d e => D.t [d, e]) es
theorem wk_pairs {G : Hp} {J : It} {xs ys : List V} {ds es : List D} {P : Hp → Prop} (w : Walk J (min xs.length ys.length) P (YPair (fun i => xs[i]?) (fun i => ys[i]?))) (hp : ∀ H, Sub G H → P H) (ra : RA K G xs ds) (rb : RA K G ys es) : Wk K J G (pairs ds es) := by
  have el : (pairs ds es).length = min xs.length ys.length := by simp [pairs, ra.length, rb.length]
  unfold Wk
  rw [el]
  refine w.mono (fun H s => hp H s) fun i H y H' hi s z => ?_
  obtain ⟨T, x, y', rfl, hT, eH, h1, h2⟩ := z
  intro Gx ex sx
  have hi1 : i < ds.length := by rw [← ra.length]; omega
  have hi2 : i < es.length := by rw [← rb.length]; omega
  have hd : ds[i]? = some ds[i] := List.getElem?_eq_getElem hi1
  have he : es[i]? = some es[i] := List.getElem?_eq_getElem hi2
  obtain ⟨Gy, g1, r1⟩ := pair_step sx hT eH ((ra.get i x _ h1 hd).mono ex) ((rb.get i y' _ h2 he).mono ex)
  exact ⟨Gy, D.t [ds[i], es[i]], by unfold pairs; rw [List.getElem?_zipWith, hd, he], g1, r1⟩
theorem src_zipL {σ : L2.St} {G : Hp} {ta : TA} {ds es : List D} (h : EvA K ta σ G [.l ds, .l es]) : Src K (iZipA K ta) σ G (pairs ds es) := fun G1 H1 Q e s q => h G1 H1 _ e s fun ys G2 H2 g r => by
  obtain ⟨x, y, rfl, rx, ry⟩ := r.inv2
  obtain ⟨a, xs, rfl, ha, ra⟩ := rx.lst_inv
  obtain ⟨b, zs, rfl, hb, rb⟩ := ry.lst_inv
  exact ⟨a, b, xs, zs, rfl, .inl ⟨sql_of g.s ha, sql_of g.s hb, q _ G2 H2 g (wk_pairs (walk_zip rfl) (fun H s => ⟨sql_of s ha, sql_of s hb⟩) ra rb)⟩⟩
theorem src_zipT {σ : L2.St} {G : Hp} {ta : TA} {ds es : List D} (h : EvA K ta σ G [.t ds, .t es]) : Src K (iZipA K ta) σ G (pairs ds es) := fun G1 H1 Q e s q => h G1 H1 _ e s fun ys G2 H2 g r => by
  obtain ⟨x, y, rfl, rx, ry⟩ := r.inv2
  obtain ⟨a, xs, rfl, ha, ra⟩ := rx.tup_inv
  obtain ⟨b, zs, rfl, hb, rb⟩ := ry.tup_inv
  exact ⟨a, b, xs, zs, rfl, .inr ⟨sqt_of g.s ha, sqt_of g.s hb, q _ G2 H2 g (wk_pairs (walk_zipT rfl) (fun H s => ⟨sqt_of s ha, sqt_of s hb⟩) ra rb)⟩⟩
end

/-! ### for -/
section
variable {K : PySem.W.Frag} {M : Addr → Prop} {σ : L2.St} {G0 H0 G H : Hp} {D' : Ends}
theorem s_for {wi : TI} {g : TG} {tb : TS} (ds : List D) (gr : Gr M G0 H0 G H) (hs : Src K wi σ G ds) (Iv : Nat → L2.St → Hp → Hp → Prop)
    (stab : ∀ i σ' Ga Ha Gb Hb, Iv i σ' Ga Ha → Gr M0 Ga Ha Gb Hb → Iv i σ' Gb Hb)
    (h0 : ∀ G1 H1, Gr M0 G H G1 H1 → Iv 0 σ G1 H1)
    (turn : ∀ i d σ1 G1 H1 y (N : L2.St → Hp → Prop), ds[i]? = some d → Ex G G1 → Gr M G0 H0 G1 H1 → Iv i σ1 G1 H1 → R K G1 y d →
      (∀ σ3 G3 H3, Ex G1 G3 → Gr M G0 H0 G3 H3 → Iv (i + 1) σ3 G3 H3 → N σ3 H3) → g y σ1 H1 fun σ2 H2 => tb { D' with nx := N, ct := N, bk := D'.nx } σ2 H2)
    (done : ∀ σ1 G1 H1, Ex G G1 → Gr M G0 H0 G1 H1 → Iv ds.length σ1 G1 H1 → D'.nx σ1 H1) : tFor wi g tb D' σ H :=
  hs G H _ (Ex.refl G) gr.s fun J G1 H1 g1 w =>
    for_it w (fun i σ' H' => ∃ G', Ex G1 G' ∧ Gr M G0 H0 G' H' ∧ Iv i σ' G' H') ⟨G1, Ex.refl _, gr.trans g1.up, h0 G1 H1 g1⟩
      (fun i σ' H' _ ⟨G', e, g', _⟩ => Sub.ex e g'.s)
      (fun i y σ' Ha Hb hi ⟨G', e, g', iv⟩ hy => by
        obtain ⟨Gy, d, hd, gy, ry⟩ := hy G' e g'.s
        exact turn i d σ' Gy Hb y _ hd (g1.g.trans (e.trans gy.g)) (g'.trans gy.up) (stab _ _ _ _ _ _ iv gy) ry fun σ3 G3 H3 e3 g3 iv3 => ⟨G3, e.trans (gy.g.trans e3), g3, iv3⟩)
      (fun σ' H' ⟨G', e, g', iv⟩ => done σ' G' H' (g1.g.trans e) g' iv)
end
end RW

/-! own layer 4: dict comprehensions, drawn list comprehensions -/
namespace RW
open PySem PySem.Spec L2
section
variable {K : PySem.W.Frag} {σ : L2.St} {G : Hp} {α : Type}
theorem dc_it {J : It} {n : Nat} {Gd : Hp → Prop} {Y : Nat → Hp → V → Hp → Prop} (w : Walk J n Gd Y) {g : TG} {tt : TT} {tk tv : TE} {vs : List Nat} {H1 : Hp} {D : Addr} {Qd : Hp → Prop} (Pv : Nat → Hp → Prop) (h0 : Pv 0 (upd H1 D (.dK []))) (hG : ∀ i H, i ≤ n → Pv i H → Gd H)
    (hs : ∀ i x H H', i < n → Pv i H → Y i H x H' → g x (wipe σ vs) H' fun σ2 H2 => wipe σ2 vs = wipe σ vs ∧ tt σ2 H2 fun b H3 =>
      if b = true then tk σ2 H3 fun y H4 => tv σ2 H4 fun z H5 => ∃ kvs k, y = kV k ∧ H5 D = some (.dK kvs) ∧ kvs.length < sizeLine ∧ Pv (i + 1) (upd H5 D (.dK (putK kvs k z))) else Pv (i + 1) H3) (hd : ∀ H, Pv n H → Qd H) :
    ∃ W : Nat → Nat → Hp → Prop, (∃ m, W 0 m (upd H1 D (.dK []))) ∧ ∀ i m H, W i m H →
      (J.stop i H ∧ Qd H) ∨ (J.go i H ∧ ∃ Nx : Hp → Prop, (∀ H', Nx H' → ∃ m', m' < m ∧ W (i + 1) m' H') ∧ ∀ x H', J.yld i H x H' → g x (wipe σ vs) H' fun σ2 H2 => wipe σ2 vs = wipe σ vs ∧ tt σ2 H2 fun b H3 =>
        if b = true then tk σ2 H3 fun y H4 => tv σ2 H4 fun z H5 => ∃ kvs k, y = kV k ∧ H5 D = some (.dK kvs) ∧ kvs.length < sizeLine ∧ Nx (upd H5 D (.dK (putK kvs k z))) else Nx H3) := by
  refine ⟨fun i m H => m = n - i ∧ i ≤ n ∧ Pv i H, ⟨n, by simp, Nat.zero_le _, h0⟩, ?_⟩
  rintro i m H ⟨rfl, hi, p⟩
  have q := hG i H hi p
  by_cases hlt : i < n
  · refine .inr ⟨w.goes i H hlt q, Pv (i + 1), fun H' p' => ⟨n - (i + 1), by omega, rfl, hlt, p'⟩, fun x H' y => hs i x H H' hlt p (w.yields i H x H' hlt q y)⟩
  · have e : i = n := by omega
    subst e
    exact .inl ⟨w.stops H q, hd H p⟩
theorem upd_self {H : Hp} {a : Addr} {o : HO} (h : H a = some o) : upd H a o = H := by
  funext b
  by_cases hb : b = a
  · rw [hb, upd_same, h]
  · rw [upd_ne hb]
/-- growth beside an object that G does not know -/
def GrX (Dl : Addr) (o0 : HO) (G H G' H' : Hp) : Prop := Gr M0 G (upd H Dl o0) G' (upd H' Dl o0)
theorem GrX.sub {Dl : Addr} {o0 o : HO} {G H G' H' : Hp} (g : GrX Dl o0 G H G' H') (hn : G' Dl = none) (h : H' Dl = some o) : Sub G' H' := by
  have z := Sub.mut (o := o) g.s hn
  rw [upd_upd, upd_self h] at z
  exact z
theorem GrX.step {Dl : Addr} {o0 o o' : HO} {G H Gi Hi Ga Ha : Hp} (gi : GrX Dl o0 G H Gi Hi) (hn : Gi Dl = none) (hi : Hi Dl = some o) (ga : Gr M0 Gi Hi Ga Ha) : GrX Dl o0 G H Ga (upd Ha Dl o') := by
  unfold GrX
  rw [upd_upd]
  have hGa : Ga Dl = none := ga.n _ _ hi hn
  refine ⟨gi.g.trans ga.g, fun b u m eb => ?_, ga.s.mut hGa, fun b u eb qb => ?_, fun b u eb => ?_⟩
  · have e1 := gi.h b u m eb
    by_cases hb : b = Dl
    · subst hb; rw [upd_same] at e1 ⊢; exact e1
    · rw [upd_ne hb] at e1 ⊢; exact ga.ex _ _ e1
  · by_cases hb : b = Dl
    · subst hb; exact hGa
    · have e1 := gi.h b u (fun z => z) eb
      rw [upd_ne hb] at e1
      exact ga.n _ _ e1 (gi.n b u eb qb)
  · by_cases hb : b = Dl
    · subst hb; exact ⟨_, upd_same⟩
    · have e1 := gi.h b u (fun z => z) eb
      rw [upd_ne hb] at e1 ⊢
      exact ⟨u, ga.ex _ _ e1⟩
/-- the object becomes known -/
theorem GrX.fin {Dl : Addr} {o0 o : HO} {G1 H1 G2 H2 Gi Hi : Hp} (g2 : Gr M0 G1 H1 G2 H2) (hD : H2 Dl = none) (gi : GrX Dl o0 G2 H2 Gi Hi) (hn : Gi Dl = none) (hi : Hi Dl = some o) : Gr M0 G1 H1 (upd Gi Dl o) Hi := by
  have hH1 : H1 Dl = none := g2.ex.none' hD
  have eH : ∀ b u, H1 b = some u → Hi b = some u := fun b u eb => by
    have hb : b ≠ Dl := ne_of_none eb hH1
    have e1 : (upd H2 Dl o0) b = some u := by rw [upd_ne hb]; exact g2.ex _ _ eb
    have e2 := gi.h b u (fun z => z) e1
    rw [upd_ne hb] at e2
    exact e2
  refine ⟨g2.g.trans (gi.g.trans (Ex.new hn)), fun b u _ eb => eH b u eb, Sub.take (gi.sub hn hi) hi, fun b u eb qb => ?_, fun b u eb => ⟨u, eH b u eb⟩⟩
  have hb : b ≠ Dl := ne_of_none eb hH1
  rw [upd_ne hb]
  exact gi.n b u (by rw [upd_ne hb]; exact g2.ex _ _ eb) (g2.n b u eb qb)
theorem valV_notin {kvs : List (Key × V)} {k : Key} (h : k ∉ kvs.map (·.1)) : valV kvs k = none := by
  cases e : valV kvs k with
  | none => rfl
  | some v =>
    exfalso
    apply h
    clear h
    induction kvs with
    | nil => simp [valV] at e
    | cons kv kvs ih =>
      by_cases hk : kv.1 = k
      · simp [hk]
      · rw [List.map_cons, List.mem_cons]
        refine .inr (ih ?_)
        simpa [valV, hk] using e
theorem R.dict {G : Hp} {a : Addr} {xs : List (Key × V)} {ds : List (Key × D)} (h : G a = some (.dK xs)) (hk : xs.map (·.1) = ds.map (·.1)) (hn : (ds.map (·.1)).Nodup) (r : RA K G (xs.map (·.2)) (ds.map (·.2))) : R K G (.ref a) (.d ds) := .d h hk hn fun i y d h1 h2 => r.get i y.2 d.2 (by rw [List.getElem?_map, h1]; rfl) (by rw [List.getElem?_map, h2]; rfl)
/-- a dict comprehension over a source of data, the keys all unlike -/
theorem ev_dc {wi : TI} {g : TG} {tk tv : TE} {vs : List Nat} (L : List α) (φ : α → D) (κ : α → Key) (ν : α → D) (hs : Src K wi σ G (L.map φ)) (hz : L.length < 100000) (hnd : (L.map κ).Nodup)
    (turn : ∀ a ∈ L, ∀ y G1, Ex G G1 → R K G1 y (φ a) → ∃ σ', Tg g y (wipe σ vs) G1 σ' ∧ wipe σ' vs = wipe σ vs ∧ Ev K tk σ' G1 (.v (kV (κ a))) ∧ Ev K tv σ' G1 (ν a)) :
    Ev K (tDc wi g tYes tk tv vs) σ G (.d (L.map fun a => (κ a, ν a))) := fun G1 H1 Q ex s q => hs G1 H1 _ ex s fun J G2 H2 g2 w Dl hD => by
  have hDG : G2 Dl = none := g2.s.none' hD
  refine dc_it w (fun i H => ∃ Gi, GrX Dl (.dK []) G2 H2 Gi H ∧ Gi Dl = none ∧ ∃ acc, H Dl = some (.dK acc) ∧ acc.map (·.1) = (L.take i).map κ ∧ RA K Gi (acc.map (·.2)) ((L.take i).map ν)) ?_ ?_ ?_ ?_
  · refine ⟨G2, ?_, hDG, [], upd_same, rfl, .nil⟩
    unfold GrX
    rw [upd_upd]
    exact Gr.refl (g2.s.mut hDG)
  · rintro i H _ ⟨Gi, gi, hn, acc, hacc, _, _⟩
    exact Sub.ex gi.g (gi.sub hn hacc)
  · rintro i y H H' hi ⟨Gi, gi, hn, acc, hacc, hk, racc⟩ hy
    obtain ⟨Gy, d, hd, gy, ry⟩ := hy Gi gi.g (gi.sub hn hacc)
    have hi' : i < L.length := by simpa using hi
    have ha : L[i]? = some L[i] := List.getElem?_eq_getElem hi'
    have hdd : d = φ L[i] := by
      rw [List.getElem?_map, ha] at hd
      exact (Option.some.inj hd).symm
    subst hdd
    have exy : Ex G Gy := ex.trans (g2.g.trans (gi.g.trans gy.g))
    obtain ⟨σ', tg, hw, hK, hV⟩ := turn L[i] (List.getElem_mem hi') y Gy exy ry
    refine tg H' _ gy.s ⟨hw, ?_⟩
    show tk σ' H' _
    refine hK Gy H' _ (Ex.refl _) gy.s fun kv G3 H3 g3 rk => hV G3 H3 _ g3.g g3.s fun v G4 H4 g4 rv => ?_
    obtain ⟨rfl, _⟩ := rk.v_inv
    have g34 : Gr M0 Gi H G4 H4 := gy.trans (g3.trans g4)
    have hlen : acc.length ≤ L.length := by
      have e := congrArg List.length hk
      simp only [List.length_map, List.length_take] at e
      omega
    refine ⟨acc, κ L[i], rfl, g34.ex _ _ hacc, size_lt (by omega), G4, gi.step hn hacc g34, g34.n _ _ hacc hn, acc ++ [(κ L[i], v)], ?_, ?_, ?_⟩
    · rw [upd_same, putK_new]
      refine valV_notin ?_
      rw [hk]
      intro hm
      have e : (L.take i ++ L[i] :: L.drop (i + 1)) = L := by rw [List.getElem_cons_drop, List.take_append_drop]
      rw [← e, List.map_append, List.map_cons, List.nodup_append] at hnd
      exact hnd.2.2 _ hm _ (List.mem_cons_self ..) rfl
    · rw [List.take_add_one, ha, List.map_append, List.map_append, hk]
      rfl
    · rw [List.take_add_one, ha, List.map_append, List.map_append]
      exact (racc.mono g34.g).append (.cons rv .nil)
  · rintro H ⟨Gi, gi, hn, acc, hacc, hk, racc⟩
    rw [List.length_map, List.take_length] at hk racc
    refine q (.ref Dl) (upd Gi Dl (.dK acc)) H (GrX.fin g2 hD gi hn hacc) (R.dict upd_same (by rw [hk, List.map_map]; rfl) (by rw [List.map_map]; exact hnd) ?_)
    rw [List.map_map]
    exact racc.mono (Ex.new hn)
end
end RW

/-! own layer 5: list comprehensions whose items draw or change -/
namespace RW
open PySem PySem.Spec L2
section
variable {K : PySem.W.Frag} {σ : L2.St} {G0 H0 G H : Hp} {α : Type} {M : Addr → Prop}
/-- as Src, from here alone -/
def SrcAt (K : PySem.W.Frag) (wi : TI) (σ : L2.St) (G H : Hp) (ds : List D) : Prop := ∀ (R : It → Hp → Prop), (∀ J G2 H2, Gr M0 G H G2 H2 → Wk K J G2 ds → R J H2) → wi σ H R
theorem Src.at {wi : TI} {ds : List D} (h : Src K wi σ G ds) (s : Sub G H) : SrcAt K wi σ G H ds := fun R q => h G H R (Ex.refl G) s q
theorem te_lc {wi : TI} {g : TG} {te : TE} {vs : List Nat} {Q : VK} (L : List α) (φ : α → D) (gr : Gr M G0 H0 G H) (hM : ∀ b, M b → ∃ o, H b = some o) (hs : SrcAt K wi σ G H (L.map φ)) (hz : L.length < 100000)
    (Iv : Nat → List D → Hp → Hp → Prop)
    (stab : ∀ i ds Ga Ha Gb Hb, Iv i ds Ga Ha → Gr M0 Ga Ha Gb Hb → Iv i ds Gb Hb)
    (stabD : ∀ Dl o i ds Ga Ha, H Dl = none → Iv i ds Ga Ha → Iv i ds Ga (upd Ha Dl o))
    (h0 : ∀ G1 H1, Gr M0 G H G1 H1 → Iv 0 [] G1 H1)
    (turn : ∀ i a ds G1 H1 y (N : VK), L[i]? = some a → Ex G G1 → Gr M G0 H0 G1 H1 → Iv i ds G1 H1 → R K G1 y (φ a) →
      (∀ v d G3 H3, Gr M G1 H1 G3 H3 → Iv (i + 1) (ds ++ [d]) G3 H3 → R K G3 v d → N v H3) → g y (wipe σ vs) H1 fun σ2 H2 => wipe σ2 vs = wipe σ vs ∧ te σ2 H2 N)
    (done : ∀ ds y Gi G1 H1, Gr M G0 H0 G1 H1 → Iv L.length ds Gi H1 → Ex Gi G1 → (∀ b o, H b = some o → Gi b = none → G1 b = none) → R K G1 y (.l ds) → Q y H1) : tLc wi g tYes te vs σ H Q :=
  hs _ fun J G2 H2 g2 w Dl hD => by
  have hDG : G2 Dl = none := g2.s.none' hD
  have hD1 : H Dl = none := g2.ex.none' hD
  have hD0 : H0 Dl = none := by
    cases e : H0 Dl with
    | none => rfl
    | some o =>
      obtain ⟨o', e'⟩ := gr.d _ _ e
      rw [hD1] at e'
      cases e'
  have mD : ¬ M Dl := fun z => by
    obtain ⟨o, e⟩ := hM Dl z
    rw [hD1] at e
    cases e
  refine lc_it w (fun i H' => ∃ Gi ds acc, Ex G2 Gi ∧ Gr M G0 H0 Gi H' ∧ Gi Dl = none ∧ H' Dl = some (.lst acc) ∧ ds.length = i ∧ RA K Gi acc ds ∧ Iv i ds Gi H') ?_ ?_ ?_ ?_
  · exact ⟨G2, [], [], Ex.refl _, (gr.trans g2.up).over hD0 hDG, hDG, upd_same, rfl, .nil, stabD _ _ _ _ _ _ hD1 (h0 G2 H2 g2)⟩
  · rintro i H' _ ⟨Gi, ds, acc, e, gi, hn, hacc, hl, racc, iv⟩
    exact Sub.ex e gi.s
  · rintro i y Ha Hb hi ⟨Gi, ds, acc, e, gi, hn, hacc, hl, racc, iv⟩ hy
    obtain ⟨Gy, d, hd, gy, ry⟩ := hy Gi e gi.s
    have hi' : i < L.length := by simpa using hi
    have ha : L[i]? = some L[i] := List.getElem?_eq_getElem hi'
    have hdd : d = φ L[i] := by
      rw [List.getElem?_map, ha] at hd
      exact (Option.some.inj hd).symm
    subst hdd
    have hyD : Hb Dl = some (.lst acc) := gy.ex _ _ hacc
    have hyG : Gy Dl = none := gy.n _ _ hacc hn
    have tn := turn i L[i] ds Gy Hb y (fun z H4 => ∃ acc, H4 Dl = some (.lst acc) ∧ acc.length < sizeLine ∧ ∃ Gi ds acc_1, Ex G2 Gi ∧ Gr M G0 H0 Gi (upd H4 Dl (.lst (acc ++ [z]))) ∧ Gi Dl = none ∧ upd H4 Dl (.lst (acc ++ [z])) Dl = some (.lst acc_1) ∧ ds.length = i + 1 ∧ RA K Gi acc_1 ds ∧ Iv (i + 1) ds Gi (upd H4 Dl (.lst (acc ++ [z]))))
      ha (g2.g.trans (e.trans gy.g)) (gi.trans gy.up) (stab _ _ _ _ _ _ iv gy) ry fun v d G3 H3 g3 iv3 r3 => by
        have h3 : H3 Dl = some (.lst acc) := g3.h _ _ mD hyD
        have n3 : G3 Dl = none := g3.n _ _ hyD hyG
        refine ⟨acc, h3, size_lt (by rw [racc.length]; omega), G3, ds ++ [d], acc ++ [v], e.trans (gy.g.trans g3.g), ((gi.trans gy.up).trans g3).over hD0 n3, n3, upd_same, by simp [hl], (racc.mono (gy.g.trans g3.g)).append (.cons r3 .nil), stabD _ _ _ _ _ _ hD1 iv3⟩
    exact tn
  · rintro H' ⟨Gi, ds, acc, e, gi, hn, hacc, hl, racc, iv⟩
    rw [List.length_map] at hl iv
    have gt := gi.take hD0 hn hacc
    exact done ds (.ref Dl) Gi (upd Gi Dl (.lst acc)) H' gt iv (Ex.new hn) (fun b o eb qb => by rw [upd_ne (ne_of_none eb hD1)]; exact qb) (R.lst upd_same (racc.mono (Ex.new hn)))
end
end RW

/-! own layer 6: == and != by an own __eq__, with anything -/
namespace PySem.W
open PySem PySem.Spec PySem.Calls PyProof.Rows
section
variable {prog : Program} {w : World} {A : Around} {E : Value → Shared → Prop} {s : Shared} {K : Frag} {x C L f : Addr} {h₀ : Heap} {m : Str → Option Value} {ox : Obj} {od : Option Obj} {b tb : Value}
theorem neB_K {args : List Value} {Q : Option Value → Shared → Prop} {M : Model} {id : String} {name : Str} (X : K.In s.heap) (I : InstAt s.heap x ox C od) (hs : findIn K (.ref C) name = some (some (.builtin id))) (hb : ∀ self, bindSpecial (.builtin id) self = pure (.builtin id, [self]))
    (h : wpAny M A (call (.builtin id) (.ref x :: args)) (fun v => Q (some v)) E s) : wpAny M A (callSpecialIfBound? (.ref x) name args) Q E s := by
  simp only [callSpecialIfBound?, bindSpecialIfBound?]
  refine wpAny_holding (wpAny_bind (wpAny_bind (wpAny_bind (I.type.here ((looks_findIn X hs).here ?_)))))
  refine wpAny_bind (wpAny_askSetting (wpAny_ite ?_))
  have fin : wpAny M A (call (.builtin id) ([.ref x] ++ args) >>= fun v => pure (some v)) Q E s := wpAny_bind (wpAny_mono h (fun v s' h' => wpAny_pure h') fun _ _ h' => h')
  split
  · exact wpAny_bind (wpAny_of_eq (hb _) (wpAny_pure (by exact fin)))
  · exact wpAny_tryCatch (wpAny_bind (wpAny_of_eq (hb _) (wpAny_pure (by exact fin))))
theorem ne_entry {Q : Fin → Shared → Prop} (hu : A.units < cLine) (X : K.In s.heap) (I : InstAt s.heap x ox C od) (hs : findIn K (.ref C) "__eq__" = some (some (.ref f))) (hf : isFn K (.ref f) = true)
    (h : wpAny (model prog w) A (call (.ref f) [.ref x, b]) (fun v s' => ∃ k, v = .bool k ∧ Q (.done (.ret (.bool (!k)))) s') E s) : wpAny (model prog w) A (Builtin.«object.__ne__» ⟨[.ref x, b], []⟩) Q E s := by
  unfold Builtin.«object.__ne__»
  refine wpAny_bind (wpAny_of_eq (a := ((Value.ref x : Value), [b])) (by first | rfl | (simp only [slotArgs]; rfl)) ?_)
  refine wpAny_bind (wpAny_cRoomFor hu ?_)
  refine wpAny_bind (ifBound_K X I hs hf (wpAny_mono h (fun v s' hv => ?_) fun _ _ e => e))
  obtain ⟨k, rfl, q⟩ := hv
  refine wpAny_bind (wpAny_truthy_bool ?_)
  first | exact wpAny_pure q | exact wpAny_pure (wpAny_pure q) | exact q
theorem ne_own {Q : Value → Shared → Prop} (hu : A.units + 1 < cLine) (F : Fr h₀ L s.heap m) (X₀ : K.In h₀) (I : InstAt s.heap x ox C od) (hb : Looks (model prog w) s.heap (typeOf b) tb) (hn : notFirst K C tb = true)
    (hs : findIn K (.ref C) "__eq__" = some (some (.ref f))) (hf : isFn K (.ref f) = true) (hne : findIn K (.ref C) "__ne__" = some (some (.builtin "object.__ne__"))) (hm : mroIn K C (.type "object") = some true)
    (h : wpAny (model prog w) A.in1 (call (.ref f) [.ref x, b]) (fun v s' => ∃ k, v = .bool k ∧ Q (.bool (!k)) s') E s) : wpAny (model prog w) A (richCompare .NotEq (.ref x) b) Q E s := by
  have X := X₀.keeps F.keep
  have one : wpAny (model prog w) A (tryCompare (.ref x) (cmpInfo .NotEq).2.1 b) (fun r s' => ∃ k, r = some (.bool k) ∧ Q (.bool k) s') E s := by
    unfold tryCompare
    refine wpAny_bind (neB_K X I hne PySem.F.slot_tuple_iterator_ne.bind (wpAny_call (codeAny_call_builtin PySem.F.slot_tuple_iterator_ne.plain PySem.F.cmpEntry_ne
      (check_slot PySem.F.cmpKind_ne PySem.F.cmpSplit_ne (I.type.andThen (looks_mroIn X hm)) (PySem.F.cmpArgs_ne _ _) (ne_entry (A := A.in1) hu X I hs hf (wpAny_mono h (fun v s' hv => ?_) fun _ _ e => e))))))
    obtain ⟨k, rfl, q⟩ := hv
    first | exact ⟨k, rfl, wpAny_pure ⟨_, rfl, q⟩⟩ | exact ⟨k, rfl, wpAny_pure (wpAny_pure ⟨_, rfl, q⟩)⟩ | exact ⟨k, rfl, ⟨_, rfl, q⟩⟩
  unfold richCompare
  simp only [oneThing_ref]
  refine wpAny_holding (wpAny_bind (wpAny_cRoomFor (Nat.lt_of_succ_lt hu) ?_))
  refine wpAny_bind (I.type.here (wpAny_bind (hb.here ?_)))
  split
  · rename_i q
    have e : subIn K tb (.ref C) = some false := by
      rcases Bool.or_eq_true_iff.mp hn with e | e
      · rw [beq_iff_eq.mp e] at q; simp at q
      · exact beq_iff_eq.mp e
    refine wpAny_bind ((looks_subIn X e).here ?_)
    simp only [Bool.false_eq_true, if_false]
    refine wpAny_bind (wpAny_mono one (fun r s' z => ?_) fun _ _ e => e)
    obtain ⟨v, rfl, hq⟩ := z
    exact wpAny_pure hq
  · refine wpAny_bind (wpAny_pure ?_)
    simp only [Bool.false_eq_true, if_false]
    refine wpAny_bind (wpAny_mono one (fun r s' z => ?_) fun _ _ e => e)
    obtain ⟨v, rfl, hq⟩ := z
    exact wpAny_pure hq
end
end PySem.W
namespace RW
open PySem PySem.Spec L2
/-- an own class with an own == (and the default !=) -/
structure EqF (K : PySem.W.Frag) (C f : Addr) : Prop extends ClF K C where
  eq : PySem.W.findIn K (.ref C) "__eq__" = some (some (.ref f))
  fn : PySem.W.isFn K (.ref f) = true
  ne : PySem.W.findIn K (.ref C) "__ne__" = some (some (.builtin "object.__ne__"))
def rEqO (K : PySem.W.Frag) (C : Addr) (sp : Sp) (E : XK) : R2 := fun x y H Q => ∃ (G : Hp) (fs : List (Str × D)) (e : D) (t : Value), Sub G H ∧ R K G x (.o C fs) ∧ R K G y e ∧ tyD e = some t ∧ (∀ C fs, e = .o C fs → ClF K C) ∧ PySem.W.notFirst K C t = true ∧
  sp [x, y] H (fun v H' => ∃ k, v = .bl k ∧ Q (.bl k) H') E
def rNeO (K : PySem.W.Frag) (C : Addr) (sp : Sp) (E : XK) : R2 := fun x y H Q => ∃ (G : Hp) (fs : List (Str × D)) (e : D) (t : Value), Sub G H ∧ R K G x (.o C fs) ∧ R K G y e ∧ tyD e = some t ∧ (∀ C fs, e = .o C fs → ClF K C) ∧ PySem.W.notFirst K C t = true ∧
  sp [x, y] H (fun v H' => ∃ k, v = .bl k ∧ Q (.bl (!k)) H') E
section
variable {X : Cx} {n : Nat} {C f : Addr} {sp : Sp} {E : XK} {CX : CXT}
theorem op_eqO (T : EqF X.K C f) (Fn : FnR X.prog X.w X.K X.mg X.base CX n f sp) (hr : Room n X.A) (hx : Passes CX X E) : OpR X (compareOp .Eq) (rEqO X.K C sp E) := by
  intro pins s σ H x y v u Q I rx ry h
  obtain ⟨G, fs, e, t, sb, rdx, rdy, ty, hc, nf, q⟩ := h
  obtain ⟨a, dx, xs, rfl, ha, hk, ra⟩ := rdx.o_inv
  cases (show v = Value.ref a from rx)
  obtain ⟨m1, J, _⟩ := ins_get I.hok (sb.ins ha)
  obtain ⟨od, J, _⟩ := J.look
  obtain ⟨P, Z, p, _⟩ := kit_D I ry sb rdy ty hc
  obtain ⟨m, hF⟩ := I.fr
  refine PySem.W.cmp_K (op := .Eq) (tb := t) hr.units0 hF I.ok.mod.kin J (Z.ty _ _ I.kIn p) nf T.eq T.fn ?_
  refine wpAny_mono (wpAny_call (run_fnR (vs := [.ref a, y]) Fn hr hx I (.cons rfl (.cons ry .nil)) q)) (fun w s' z => ?_) fun _ _ x => x
  obtain ⟨z', H', I', rz, k, ek, qz⟩ := z
  subst ek
  cases (show w = Value.bool k from rz)
  exact ⟨.bl k, H', I', rfl, qz⟩
theorem op_neO (T : EqF X.K C f) (Fn : FnR X.prog X.w X.K X.mg X.base CX n f sp) (hr : Room (n + 1) X.A) (hx : Passes CX X E) : OpR X (compareOp .NotEq) (rNeO X.K C sp E) := by
  intro pins s σ H x y v u Q I rx ry h
  obtain ⟨G, fs, e, t, sb, rdx, rdy, ty, hc, nf, q⟩ := h
  obtain ⟨a, dx, xs, rfl, ha, hk, ra⟩ := rdx.o_inv
  cases (show v = Value.ref a from rx)
  obtain ⟨m1, J, _⟩ := ins_get I.hok (sb.ins ha)
  obtain ⟨od, J, _⟩ := J.look
  obtain ⟨P, Z, p, _⟩ := kit_D I ry sb rdy ty hc
  obtain ⟨m, hF⟩ := I.fr
  have hr1 : Room n X.A.in1 := Room.in1 hr
  refine PySem.W.ne_own (tb := t) (by have := hr1.units0; exact this) hF I.ok.mod.kin J (Z.ty _ _ I.kIn p) nf T.eq T.fn T.ne T.cm ?_
  refine wpAny_mono (wpAny_call (SlX.run_at (ws := [.ref a, y]) Fn hr1 I.env0.in1 hx I (.cons rfl (.cons ry .nil)) q)) (fun w s' z => ?_) fun _ _ x => x
  obtain ⟨z', H', I', rz, k, ek, qz⟩ := z
  subst ek
  cases (show w = Value.bool k from rz)
  exact ⟨k, rfl, .bl (!k), H', I', rfl, qz⟩
end
end RW

/-! own layer 7: defs by name, methods, made instances, fields -/
namespace RW
open PySem PySem.Spec L2
/-! ### defs -/
/-- a def that keeps a promise, by its name -/
def Def (P : Program) (w : PySem.World) (K : PySem.W.Frag) (mg : Str → Option Value) (base : Heap) (CX : CXT) (k : Nat) (x : Str) (ps : List Str) (sp : Sp) : Prop :=
  ∃ (f : Addr) (fd : FuncData), mg x = some (.ref f) ∧ PySem.W.keepIn K (.ref f) = true ∧ FnOk P w K mg base CX k f fd ps sp ∧ Binds K fd ps []
/-- a def as the top left it -/
def TopD (K : PySem.W.Frag) (mg : Str → Option Value) (x qual : Str) (st : Stmt) (ps : List Str) (f : Addr) : Prop :=
  ∃ fd : FuncData, mg x = some (.ref f) ∧ Fun K x qual st f fd ∧ Binds K fd ps []
theorem def_of {P : Program} {w : PySem.World} {K : PySem.W.Frag} {mg : Str → Option Value} {base : Heap} {CX : CXT} {k : Nat} {x : Str} {st : Stmt} {ps : List Str} {sp : Sp} {f : Addr} (T : TopD K mg x x st ps f) (h : ∀ fd, Fun K x x st f fd → FnOk P w K mg base CX k f fd ps sp) : Def P w K mg base CX k x ps sp := by
  obtain ⟨fd, hm, F, hb⟩ := T
  exact ⟨f, fd, hm, F.kp, h fd F, hb⟩
section
variable {X : Cx} {CX : CXT} {k : Nat} {sp : Sp} {E : XK} {x : Str} {ps : List Str} {p pos : Pos} {e : Expr} {es : List Expr} {t : TA}
theorem pe_callD (D : Def X.prog X.w X.K X.mg X.base CX k x ps sp) (hr : Room k X.A) (hx : Passes CX X E) (ha : PA X (e :: es) t) (hg : Gl X x := by rfl) (hdb : (x == ("__debug__" : Str)) = false := by decide)
    (he : starEach (e :: es) X.env = (false, eval e X.env) :: starEach es X.env := by rfl) (hpl : (backTo pos (starEach es X.env)).any (·.1) = false := by rfl) : PE X (.Call (.Name x p) (e :: es) [] pos) (tCall sp [] E t) := by
  obtain ⟨f, fd, hm, hk, F, hb⟩ := D
  exact pe_call F hr hg hm hk hb .nil hx ha hdb he hpl
end
section
variable {X : Cx} {x : Str} {pos : Pos}
theorem pe_tyN {n : String} (hg : Gl X x) (hm : X.mg x = none) (hv : bootBuiltins x = some (.type n)) (hn : x ≠ "__name__" := by decide +kernel) (hd : (x == ("__debug__" : Str)) = false := by decide) : PE X (.Name x pos) (tC (.ty n)) := pe_bltn (hn := hn) (hd := hd) hg hm hv rfl
theorem pe_gstr {z : Str} {t : Tok} (hg : Gl X x) (hm : X.mg x = some (.str z t)) (hd : (x == ("__debug__" : Str)) = false := by decide) : PE X (.Name x pos) (tC (.str z)) := pe_glob (hd := hd) hg hm ⟨t, rfl⟩
theorem pe_gref {a : Addr} (hg : Gl X x) (hm : X.mg x = some (.ref a)) (hd : (x == ("__debug__" : Str)) = false := by decide) : PE X (.Name x pos) (tC (.ref a)) := pe_glob (hd := hd) hg hm rfl
end
/-! ### methods -/
section
variable {K : PySem.W.Frag} {σ : L2.St} {G : Hp} {α : Type}
theorem keys_none {xs : List (Str × V)} {fs : List (Str × D)} (h : xs.map (·.1) = fs.map (·.1)) {m : Str} (hl : fs.lookup m = none) : xs.lookup m = none := by
  induction xs generalizing fs with
  | nil => rfl
  | cons p xs ih =>
    cases fs with
    | nil => simp at h
    | cons q fs =>
      simp only [List.map_cons, List.cons.injEq] at h
      obtain ⟨p1, p2⟩ := p
      obtain ⟨q1, q2⟩ := q
      simp only at h
      obtain ⟨rfl, h⟩ := h
      simp only [List.lookup] at hl ⊢
      cases e : m == p1 with
      | true => rw [e] at hl; cases hl
      | false => rw [e] at hl; exact ih h hl
theorem ev_meth {C : Addr} {m : Str} {args : α → List D} {dom : α → Prop} {res : α → D} {E : XK} {te : TE} {ta : TA} {fs : List (Str × D)} {ds : List D} (x : α) (h : Ev K te σ G (.o C fs)) (hm : fs.lookup m = none) (ha : EvA K ta σ G ds) (hx : args x = .o C fs :: ds) (hd : dom x) :
    Ev K (tMeth C m (spP K args dom res) [] E te ta) σ G (res x) := fun G1 H1 Q ex s q => h G1 H1 _ ex s fun y G2 H2 g2 r2 => by
  obtain ⟨a, dx, xs, rfl, ha2, hk, ra⟩ := r2.o_inv
  refine ⟨a, dx, xs, rfl, g2.s.ins ha2, keys_none hk hm, ha G2 H2 _ (ex.trans g2.g) g2.s fun ys G3 H3 g3 r3 => ⟨G3, x, g3.s, ?_, hd, fun y G' H' g' r' => q y G' H' ((g2.trans g3).trans g') r'⟩⟩
  rw [hx, List.append_nil]
  exact .cons (r2.mono g3.g) r3
end
/-! ### instances that are made -/
/-- an __init__: the fields it lays, or the error it raises -/
def spInit (K : PySem.W.Frag) (C : Addr) {α : Type} (args : α → List D) (dom : α → Prop) (res : α → List (Str × D) ⊕ (Addr × (List V → List (Str × V)))) : Sp := fun vs H Q E =>
  ∃ (G : Hp) (x : α) (a dx : Addr) (ws : List V), vs = .ref a :: ws ∧ Sub G H ∧ G a = none ∧ H a = some (.ins C dx []) ∧ RA K G ws (args x) ∧ dom x ∧
    (∀ fs, res x = .inl fs → ∀ G' H' xs, Gr (fun b => b = a) G H G' H' → H' a = some (.ins C dx xs) → xs.map (·.1) = fs.map (·.1) → RA K G' (xs.map (·.2)) (fs.map (·.2)) → Q .non H') ∧
    (∀ C' f, res x = .inr (C', f) → ∀ d G' H', Gr (fun b => b = a) G H G' H' → H' d = some (.xd (f ws)) → E (.ref C') (some d) H')
theorem Gr.shut {G H Hn G' H' : Hp} {a : Addr} (g : Gr M0 G H G Hn) (ha : H a = none) (g' : Gr (fun b => b = a) G Hn G' H') : Gr M0 G H G' H' where
  g := g'.g
  h := fun b o _ e => g'.h b o (ne_of_none e ha) (g.ex b o e)
  s := g'.s
  n := fun b o e q => g'.n b o (g.ex b o e) q
  d := fun b o e => ⟨o, g'.h b o (ne_of_none e ha) (g.ex b o e)⟩
theorem R.ins {K : PySem.W.Frag} {G : Hp} {a C dx : Addr} {xs : List (Str × V)} {fs : List (Str × D)} (h : G a = some (.ins C dx xs)) (hk : xs.map (·.1) = fs.map (·.1)) (r : RA K G (xs.map (·.2)) (fs.map (·.2))) : R K G (.ref a) (.o C fs) := .o h hk fun i y d h1 h2 => r.get i y.2 d.2 (by rw [List.getElem?_map, h1]; rfl) (by rw [List.getElem?_map, h2]; rfl)
section
variable {K : PySem.W.Frag} {σ : L2.St} {G : Hp} {α : Type} {C : Addr} {args : α → List D} {dom : α → Prop} {res : α → List (Str × D) ⊕ (Addr × (List V → List (Str × V)))} {E : XK} {ta : TA}
theorem made_new {G1 H1 : Hp} {x dx : Addr} (s : Sub G1 H1) (hx : H1 x = none) (hdx : H1 dx = none) (hne : dx ≠ x) : Gr M0 G1 H1 G1 (upd (upd H1 dx (.own x)) x (.ins C dx [])) :=
  have g1 : Gr M0 G1 H1 G1 (upd H1 dx (.own x)) := Gr.newM s hdx
  g1.trans (Gr.newM g1.s (by rw [upd_ne (Ne.symm hne)]; exact hx))
theorem init_ok {G1 H1 : Hp} {Q : VK} {ws : List V} (x : α) {fs : List (Str × D)} (s : Sub G1 H1) (r : RA K G1 ws (args x)) (hd : dom x) (hr : res x = .inl fs) (q : ∀ y G2 H2, Gr M0 G1 H1 G2 H2 → R K G2 y (.o C fs) → Q y H2)
    (a dx : Addr) (hx : H1 a = none) (hdx : H1 dx = none) (hne : dx ≠ a) : spInit K C args dom res (.ref a :: ws) (upd (upd H1 dx (.own a)) a (.ins C dx [])) (fun v H2 => v = .non ∧ Q (.ref a) H2) E := by
  have gn := made_new (C := C) s hx hdx hne
  refine ⟨G1, x, a, dx, ws, rfl, gn.s, s.none' hx, upd_same, r, hd, fun fs' e G' H' xs g' hH hk ra => ⟨rfl, ?_⟩, fun C' f e => (by rw [hr] at e; cases e)⟩
  rw [hr] at e
  cases e
  have gs := gn.shut hx g'
  have hG' : G' a = none := g'.n _ _ upd_same (s.none' hx)
  exact q (.ref a) (upd G' a (.ins C dx xs)) H' (gs.take hx hG' hH) (R.ins upd_same hk (ra.mono (Ex.new hG')))
theorem init_err {G1 H1 : Hp} {Q : VK} {ws : List V} (x : α) {C' : Addr} {f : List V → List (Str × V)} (s : Sub G1 H1) (r : RA K G1 ws (args x)) (hd : dom x) (hr : res x = .inr (C', f)) (q : ∀ d G2 H2, Gr M0 G1 H1 G2 H2 → H2 d = some (.xd (f ws)) → E (.ref C') (some d) H2)
    (a dx : Addr) (hx : H1 a = none) (hdx : H1 dx = none) (hne : dx ≠ a) : spInit K C args dom res (.ref a :: ws) (upd (upd H1 dx (.own a)) a (.ins C dx [])) (fun v H2 => v = .non ∧ Q (.ref a) H2) E := by
  have gn := made_new (C := C) s hx hdx hne
  refine ⟨G1, x, a, dx, ws, rfl, gn.s, s.none' hx, upd_same, r, hd, fun fs' e => (by rw [hr] at e; cases e), fun C'' f' e d G' H' g' hH => ?_⟩
  rw [hr] at e
  cases e
  exact q d G' H' (gn.shut hx g') hH
theorem ev_make (x : α) {fs : List (Str × D)} (ha : EvA K ta σ G (args x)) (hd : dom x) (hr : res x = .inl fs) : Ev K (tMake C (spInit K C args dom res) [] E ta) σ G (.o C fs) := fun G1 H1 Q ex s q =>
  ha G1 H1 _ ex s fun ws G2 H2 g2 r2 a dx hx hdx hne => by
    rw [List.append_nil]
    exact init_ok x g2.s r2 hd hr (fun y G3 H3 g3 r3 => q y G3 H3 (g2.trans g3) r3) a dx hx hdx hne
/-- the expression raises: an error of the class C', its fields fs -/
def Rz (te : TE) (σ : L2.St) (G : Hp) (E : XK) (P : Addr → List (Str × V) → Prop) : Prop :=
  ∀ (G1 H1 : Hp) (Q : VK), Ex G G1 → Sub G1 H1 → (∀ C' fs d G2 H2, P C' fs → Gr M0 G1 H1 G2 H2 → H2 d = some (.xd fs) → E (.ref C') (some d) H2) → te σ H1 Q
def RzA (ta : TA) (σ : L2.St) (G : Hp) (E : XK) (P : Addr → List (Str × V) → Prop) : Prop :=
  ∀ (G1 H1 : Hp) (Q : List V → Hp → Prop), Ex G G1 → Sub G1 H1 → (∀ C' fs d G2 H2, P C' fs → Gr M0 G1 H1 G2 H2 → H2 d = some (.xd fs) → E (.ref C') (some d) H2) → ta σ H1 Q
theorem rz_make (x : α) {C' : Addr} {f : List V → List (Str × V)} {P : Addr → List (Str × V) → Prop} (ha : EvA K ta σ G (args x)) (hd : dom x) (hr : res x = .inr (C', f)) (hP : ∀ ws G', RA K G' ws (args x) → P C' (f ws)) : Rz (tMake C (spInit K C args dom res) [] E ta) σ G E P := fun G1 H1 Q ex s q =>
  ha G1 H1 _ ex s fun ws G2 H2 g2 r2 a dx hx hdx hne => by
    rw [List.append_nil]
    exact init_err x g2.s r2 hd hr (fun d G3 H3 g3 h3 => q C' (f ws) d G3 H3 (hP ws G2 r2) (g2.trans g3) h3) a dx hx hdx hne
variable {P : Addr → List (Str × V) → Prop} {te : TE} {d : D}
theorem rz_meth {C : Addr} {m : Str} {sp : Sp} {E' : XK} (h : Rz te σ G E P) : Rz (tMeth C m sp [] E' te ta) σ G E P := fun G1 H1 Q ex s q => h G1 H1 _ ex s q
theorem rza_head {tr : TA} (h : Rz te σ G E P) : RzA (tCons te tr) σ G E P := fun G1 H1 Q ex s q => h G1 H1 _ ex s q
theorem rza_tail {tr : TA} (h0 : Ev K te σ G d) (h : RzA tr σ G E P) : RzA (tCons te tr) σ G E P := fun G1 H1 Q ex s q => h0 G1 H1 _ ex s fun y G2 H2 g2 r2 => h G2 H2 _ (ex.trans g2.g) g2.s fun C' fs d G3 H3 p g3 h3 => q C' fs d G3 H3 p (g2.trans g3) h3
theorem rz_tup (h : RzA ta σ G E P) : Rz (tTup ta) σ G E P := fun G1 H1 Q ex s q => h G1 H1 _ ex s q
theorem rz_op1 {r : R2} {tb : TE} (h : Rz te σ G E P) : Rz (tOp r te tb) σ G E P := fun G1 H1 Q ex s q => h G1 H1 _ ex s q
/-- keywords alone: C(name=e) -/
theorem ev_makeK0 {g : List V → List V → List V} (x : α) {fs : List (Str × D)} {tk : TA} {m : Nat} (hg : ∀ a zs, zs.length = m → g [.ref a] zs = .ref a :: zs) (ha : EvA K tk σ G (args x)) (hm : (args x).length = m) (hd : dom x) (hr : res x = .inl fs) : Ev K (tMakeK C 0 m (spInit K C args dom res) g E tNil tk) σ G (.o C fs) := fun G1 H1 Q ex s q =>
  ha G1 H1 _ ex s fun ws G2 H2 g2 r2 => ⟨rfl, by rw [r2.length]; exact hm, fun a dx hx hdx hne => by
    rw [hg a ws (by rw [r2.length]; exact hm)]
    exact init_ok x g2.s r2 hd hr (fun y G3 H3 g3 r3 => q y G3 H3 (g2.trans g3) r3) a dx hx hdx hne⟩
end
/-! ### fields laid -/
section
variable {K : PySem.W.Frag} {M : Addr → Prop} {σ : L2.St} {G0 H0 G H : Hp} {tz : TS} {d : D} {D' : Ends}
theorem q_fld {a C dx : Addr} {i : Nat} {f : Str} {tv : TE} {fs : List (Str × V)} (gr : Gr M G0 H0 G H) (m : M a) (m0 : ∃ o, H0 a = some o) (hn : G a = none) (hi : σ[i]? = some (some (.ref a))) (h : Ev K tv σ G d) (hs : H a = some (.ins C dx fs)) (c : Cls K C) (n : NoAttr K C f) (hl : fs.length < 1000)
    (q : ∀ y G1 H1, Ex G G1 → Gr M G0 H0 G1 H1 → G1 a = none → H1 a = some (.ins C dx (putF f y fs)) → R K G1 y d → tz D' σ H1) : tSeq (sFld K (tVar i) tv f) tz D' σ H :=
  h G H _ (Ex.refl G) gr.s fun y G1 H1 g r => by
    have hn1 : G1 a = none := g.n _ _ hs hn
    refine ⟨.ref a, hi, a, C, dx, fs, rfl, g.ex _ _ hs, c, n, hl, q y G1 _ g.g ?_ hn1 upd_same r⟩
    exact (gr.trans g.up).trans (Gr.write g.s m hn1)
end
/-! ### an object that G forgets -/
def off (G : Hp) (a : Addr) : Hp := fun b => if b = a then none else G b
theorem off_ne {G : Hp} {a b : Addr} (h : b ≠ a) : off G a b = G b := if_neg h
theorem off_self {G : Hp} {a : Addr} : off G a a = none := if_pos rfl
/-- 0: no list in it; 1: no instance in it -/
inductive NoK (p : Nat) : D → Prop
  | x (y : V) : NoK p (.x y)
  | v (y : V) : NoK p (.v y)
  | l {ds : List D} (hp : p ≠ 0) (h : ∀ d ∈ ds, NoK p d) : NoK p (.l ds)
  | f {ds : List D} (h : ∀ d ∈ ds, NoK p d) : NoK p (.f ds)
  | t {ds : List D} (h : ∀ d ∈ ds, NoK p d) : NoK p (.t ds)
  | d {ds : List (Key × D)} (h : ∀ d ∈ ds, NoK p d.2) : NoK p (.d ds)
  | dt {ds : List (List Key × D)} (h : ∀ d ∈ ds, NoK p d.2) : NoK p (.dt ds)
  | o {C : Addr} {ds : List (Str × D)} (hp : p ≠ 1) (h : ∀ d ∈ ds, NoK p d.2) : NoK p (.o C ds)
def KindIs : Nat → HO → Prop
  | 0, .lst _ => True
  | 1, .ins _ _ _ => True
  | _, _ => False
theorem R.off {K : PySem.W.Frag} {G : Hp} {p : Nat} {a : Addr} {o : HO} {y : V} {d : D} (h : R K G y d) (ho : G a = some o) (hk : KindIs p o) : NoK p d → R K (off G a) y d := by
  have key : ∀ {b : Addr} {u : HO}, G b = some u → ¬ KindIs p u → RW.off G a b = some u := fun {b u} e n => by
    have hb : b ≠ a := fun z => by
      subst z
      rw [ho] at e
      cases e
      exact n hk
    rw [off_ne hb]
    exact e
  induction h with
  | x => intro _; exact .x
  | v h => intro _; exact .v h
  | l h hl hp ih =>
    intro n
    cases n with
    | l hp0 hn => exact .l (key h (by cases p with | zero => exact absurd rfl hp0 | succ p => cases p <;> exact id)) hl fun i y d h1 h2 => ih i y d h1 h2 (hn d (List.mem_of_getElem? h2))
  | f h hl hp ih =>
    intro n
    cases n with
    | f hn => exact .f (h.imp (fun ⟨ob, q⟩ => ⟨ob, key q (by cases p with | zero => exact id | succ p => cases p <;> exact id)⟩) id) hl fun i y d h1 h2 => ih i y d h1 h2 (hn d (List.mem_of_getElem? h2))
  | t h hl hp ih =>
    intro n
    cases n with
    | t hn => exact .t (key h (by cases p with | zero => exact id | succ p => cases p <;> exact id)) hl fun i y d h1 h2 => ih i y d h1 h2 (hn d (List.mem_of_getElem? h2))
  | d h hk' hn' hp ih =>
    intro n
    cases n with
    | d hn => exact .d (key h (by cases p with | zero => exact id | succ p => cases p <;> exact id)) hk' hn' fun i y d h1 h2 => ih i y d h1 h2 (hn d (List.mem_of_getElem? h2))
  | dt h hk' hn' hp ih =>
    intro n
    cases n with
    | dt hn => exact .dt (key h (by cases p with | zero => exact id | succ p => cases p <;> exact id)) hk' hn' fun i y d h1 h2 => ih i y d h1 h2 (hn d (List.mem_of_getElem? h2))
  | o h hk' hp ih =>
    intro n
    cases n with
    | o hp1 hn => exact .o (key h (by cases p with | zero => exact id | succ p => cases p with | zero => exact absurd rfl hp1 | succ p => exact id)) hk' fun i y d h1 h2 => ih i y d h1 h2 (hn d (List.mem_of_getElem? h2))
theorem RA.off {K : PySem.W.Frag} {G : Hp} {p : Nat} {a : Addr} {o : HO} {ys : List V} {ds : List D} (h : RA K G ys ds) (ho : G a = some o) (hk : KindIs p o) (n : ∀ d ∈ ds, NoK p d) : RA K (off G a) ys ds := by
  induction h with
  | nil => exact .nil
  | cons h t ih => exact .cons (h.off ho hk (n _ (List.mem_cons_self ..))) (ih fun d hd => n d (List.mem_cons_of_mem _ hd))
/-- G forgets an object that was not known at first -/
theorem Gr.off {M : Addr → Prop} {G0 H0 G H : Hp} {a : Addr} (g : Gr M G0 H0 G H) (h0 : G0 a = none) : Gr M G0 H0 (off G a) H where
  g := fun b o e => by
    rw [off_ne (ne_of_none e h0)]
    exact g.g b o e
  h := g.h
  s := fun b o e => by
    by_cases hb : b = a
    · subst hb
      rw [off_self] at e
      cases e
    · rw [off_ne hb] at e
      exact g.s b o e
  n := fun b o e q => by
    by_cases hb : b = a
    · subst hb
      exact off_self
    · rw [off_ne hb]
      exact g.n b o e q
  d := g.d
end RW

/-! own layer 8: the rules with K written out (within a comprehension X.K must not stand) -/
namespace RW
open PySem PySem.Spec L2
section
variable {X : Cx} (K : PySem.W.Frag)
theorem kIs (h : X.K = K := by rfl) : CallR X (.builtin "isinstance") (rIsD K) := h ▸ call_isD
theorem kLen (h : X.K = K := by rfl) : CallR X (.builtin "len") (rLen K) := h ▸ call_lenA
theorem kToL (h : X.K = K := by rfl) : CallR X (.type "list") (rToL K) := h ▸ call_toL
theorem kToT (h : X.K = K := by rfl) : CallR X (.type "tuple") (rToT K) := h ▸ call_toT
theorem kAny (hc : X.calm = true := by rfl) (h : X.K = K := by rfl) : CallR X (.builtin "any") (rAny K) := h ▸ cr_any hc
theorem kAll (hc : X.calm = true := by rfl) (h : X.K = K := by rfl) : CallR X (.builtin "all") (rAll K) := h ▸ cr_all hc
theorem kIn (h : X.K = K := by rfl) : OpR X (compareOp .In) (rInA K) := h ▸ op_inA
theorem kNotIn (h : X.K = K := by rfl) : OpR X (compareOp .NotIn) (rNotInA K) := h ▸ op_notInA
theorem kAdd (h : X.K = K := by rfl) : OpR X (binaryOp .Add) (rAdd K) := h ▸ op_addA
theorem kIx (h : X.K = K := by rfl) : IxR X (rIx K) := h ▸ ix_seq
theorem kSl (h : X.K = K := by rfl) : SlR X (rSlA' K) := h ▸ sl_A
theorem kFld {e : Expr} {f : Str} {pos : Pos} {ta : TE} (he : PE X e ta) (hb : attributeBase e f X.env (eval e X.env) = eval e X.env := by rfl) (h : X.K = K := by rfl) : PE X (.Attribute e f pos) (tFld K ta f) := h ▸ pe_fld he hb
theorem kRev {e : Expr} {te : TE} {k : Nat} {p1 p2 p3 pos : Pos} (he : PE X e te) (h : X.K = K := by rfl) : PE X (.Subscript e (.Slice none none (some (.UnaryOp .USub (.Constant (.int 1) k p1) p2)) p3) pos) (tRevL K te) := h ▸ pe_revL he
theorem kList {tg l : Expr} {tl : TE} (hl : PE X l tl) (h : X.K = K := by rfl) : PI X tg l (iList K tl) := h ▸ pi_list hl
theorem kTup {tg l : Expr} {tl : TE} (hl : PE X l tl) (h : X.K = K := by rfl) : PI X tg l (iTup K tl) := h ▸ pi_tup hl
/-- enumerate over a list or a tuple -/
def iNum (K : PySem.W.Frag) (ta : TA) : TI := iOr (iEnum K ta) (iEnumT K ta)
theorem kNum {e : Expr} {ta : TA} {p pos tpos : Pos} {elts : List Expr} {kk : Nat} (hg : Gl X "enumerate") (hm : X.mg "enumerate" = none) (ha : PA X [e] ta) (hs : starEach [e] X.env = [(false, eval e X.env)] := by rfl) (h : X.K = K := by rfl) :
    PI X (.Tuple elts kk tpos) (.Call (.Name "enumerate" p) [e] [] pos) (iNum K ta) := h ▸ pi_or (pi_enum hg hm ha hs) (pi_enumT hg hm ha hs)
theorem kZip {e e2 : Expr} {ta : TA} {p pos tpos : Pos} {elts : List Expr} {kk : Nat} (hg : Gl X "zip") (hm : X.mg "zip" = none) (ha : PA X [e, e2] ta) (hs : starEach [e, e2] X.env = (false, eval e X.env) :: starEach [e2] X.env := by rfl) (hpl : (backTo pos (starEach [e2] X.env)).any (·.1) = false := by rfl) (h : X.K = K := by rfl) :
    PI X (.Tuple elts kk tpos) (.Call (.Name "zip" p) [e, e2] [] pos) (RZ.iZipA K ta) := h ▸ RZ.pi_zipA hg hm ha hs hpl
theorem kgTup {es : List Expr} {k : Nat} {t : TGs} {n : Nat} {pos : Pos} (hc : X.calm = true) (h : PGs X es t)
    (hn : (assignEach es X.env).length = n := by rfl) (hst : (assignEach es X.env).findIdx? (·.1) = none := by rfl) (hK : X.K = K := by rfl) : PG X (.Tuple es k pos) (gTup K n t) := hK ▸ pg_tup hc h hn hst
section
variable {o e : Expr} {es : List Expr} {to : TE} {t : TA} {apos cpos : Pos}
theorem kPop (ho : PE X o to) (ha : PA X (e :: es) t)
    (hbase : attributeBase o "pop" X.env (eval o X.env) = eval o X.env := by rfl)
    (hfew : ((backTo cpos (starEach (e :: es) X.env)).all (fun x => !x.1) && (backToKw cpos (keywordEach [] X.env)).all (fun x => x.1.isSome)
      && decide ((e :: es).length + ([] : List Keyword).length + (if ([] : List Keyword).isEmpty then 0 else 1) < 30)) = true := by rfl)
    (hline : (apos.endLine == cpos.line) = true := by rfl) (hs : starEach (e :: es) X.env = (false, eval e X.env) :: starEach es X.env := by rfl) (hplain : (backTo cpos (starEach es X.env)).any (·.1) = false := by rfl) (h : X.K = K := by rfl) :
    PE X (.Call (.Attribute o "pop" apos) (e :: es) [] cpos) (tBM K "list" rPopAt to t) := h ▸ pe_bm PySem.F.plainAttrs_list PySem.F.slot_list_pop PySem.F.type_list_pop mt_popAt ho ha hbase hfew hline hs hplain
theorem kApp (ho : PE X o to) (ha : PA X (e :: es) t)
    (hbase : attributeBase o "append" X.env (eval o X.env) = eval o X.env := by rfl)
    (hfew : ((backTo cpos (starEach (e :: es) X.env)).all (fun x => !x.1) && (backToKw cpos (keywordEach [] X.env)).all (fun x => x.1.isSome)
      && decide ((e :: es).length + ([] : List Keyword).length + (if ([] : List Keyword).isEmpty then 0 else 1) < 30)) = true := by rfl)
    (hline : (apos.endLine == cpos.line) = true := by rfl) (hs : starEach (e :: es) X.env = (false, eval e X.env) :: starEach es X.env := by rfl) (hplain : (backTo cpos (starEach es X.env)).any (·.1) = false := by rfl) (h : X.K = K := by rfl) :
    PE X (.Call (.Attribute o "append" apos) (e :: es) [] cpos) (tBM K "list" rAppend to t) := h ▸ pe_bm PySem.F.plainAttrs_list PySem.F.slot_list_append PySem.F.type_list_append mt_append ho ha hbase hfew hline hs hplain
end
theorem kEqD (hu : X.A.units + 64 < cLine) (h : X.K = K := by rfl) : OpR X (compareOp .Eq) (rEqD K) := h ▸ op_eqD hu
end
section
variable {K : PySem.W.Frag} {σ : L2.St} {G : Hp} {ta : TA} {ds : List D}
theorem src_numL (h : EvA K ta σ G [.l ds]) : Src K (iNum K ta) σ G (numbered ds) := src_orl (src_enumL h)
theorem et_orl {t u : TT} (h : EvT t σ G true) : EvT (tOr t u) σ G true := et_is (et_or (b := true) h fun z => by cases z) rfl
theorem et_orr {t u : TT} {b : Bool} (h : EvT t σ G false) (h2 : EvT u σ G b) : EvT (tOr t u) σ G b := et_is (et_or h fun _ => h2) (Bool.false_or b)
theorem et_andl {t u : TT} (h : EvT t σ G false) : EvT (tAnd t u) σ G false := et_is (et_and (b := false) h fun z => by cases z) rfl
theorem et_andr {t u : TT} {b : Bool} (h : EvT t σ G true) (h2 : EvT u σ G b) : EvT (tAnd t u) σ G b := et_is (et_and h fun _ => h2) (Bool.true_and b)
theorem ev_orl {t u : TE} (h : Ev K t σ G (.v (.bl true))) : Ev K (tOrV t u) σ G (.v (.bl true)) := ev_is (ev_orV (b := true) h fun z => by cases z) rfl
theorem ev_orr {t u : TE} {b : Bool} (h : Ev K t σ G (.v (.bl false))) (h2 : Ev K u σ G (.v (.bl b))) : Ev K (tOrV t u) σ G (.v (.bl b)) := ev_is (ev_orV h fun _ => h2) (by rw [Bool.false_or])
theorem ev_andl {t u : TE} (h : Ev K t σ G (.v (.bl false))) : Ev K (tAndV t u) σ G (.v (.bl false)) := ev_is (ev_andV (b := false) h fun z => by cases z) rfl
theorem ev_andr {t u : TE} {b : Bool} (h : Ev K t σ G (.v (.bl true))) (h2 : Ev K u σ G (.v (.bl b))) : Ev K (tAndV t u) σ G (.v (.bl b)) := ev_is (ev_andV h fun _ => h2) (by rw [Bool.true_and])
theorem ev_bool {t : TE} {a b : Bool} (h : Ev K t σ G (.v (.bl a))) (e : a = b) : Ev K t σ G (.v (.bl b)) := e ▸ h
theorem src_numT (h : EvA K ta σ G [.t ds]) : Src K (iNum K ta) σ G (numbered ds) := src_orr (src_enumT h)
end
end RW

/-! own layer 9: sequences of either kind, fields laid by oneself, raise -/
namespace RW
open PySem PySem.Spec L2
/-- a list or a tuple of ds -/
def Sq (d : D) (ds : List D) : Prop := d = .l ds ∨ d = .t ds
section
variable {K : PySem.W.Frag} {σ : L2.St} {G : Hp} {ta : TA} {te : TE} {d : D} {ds : List D}
theorem src_num (hs : Sq d ds) (h : EvA K ta σ G [d]) : Src K (iNum K ta) σ G (numbered ds) := by
  rcases hs with rfl | rfl
  · exact src_numL h
  · exact src_numT h
theorem ev_cut {tl th : TO} {lo hi : Option Int} (hs : Sq d ds) (h : Ev K te σ G d) (hl : EvO tl σ G lo) (hh : EvO th σ G hi) : ∃ e, Sq e (cutD ds lo hi) ∧ Ev K (tSl (rSlA' K) te tl th) σ G e := by
  rcases hs with rfl | rfl
  · exact ⟨_, .inl rfl, ev_sl h hl hh rs_L⟩
  · exact ⟨_, .inr rfl, ev_sl h hl hh rs_T⟩
theorem rv_inQ {z : V} {vs : List V} (hs : Sq d (vs.map .v)) (hz : flatV z = true) (hv : vs.all flatV = true) : RV K (rInA K) (.v z) d (.v (.bl (inV z vs))) := by
  rcases hs with rfl | rfl
  · exact rv_inL hz hv
  · exact rv_inT hz hv
theorem rc_lenQ (hs : Sq d ds) : RC K (rLen K) [d] (.v (.int ds.length)) := by
  rcases hs with rfl | rfl
  · exact rc_lenL
  · exact rc_lenT
theorem rc_toLQ (hs : Sq d ds) : RC K (rToL K) [d] (.l ds) := by
  rcases hs with rfl | rfl
  · exact rc_toL_L
  · exact rc_toL_T
theorem rc_toTQ (hs : Sq d ds) : RC K (rToT K) [d] (.t ds) := by
  rcases hs with rfl | rfl
  · exact rc_toT_L
  · exact rc_toT_T
theorem rv_ixQ {i : Int} {e : D} (hs : Sq d ds) (h : L2.atI ds i = some e) : RV K (rIx K) d (.v (.int i)) e := by
  rcases hs with rfl | rfl
  · exact rv_ix1 (rv_ixL h)
  · exact rv_ix2 (rv_ixT h)
end
/-! ### fields of the object that is being made -/
theorem Gr.untake {G H G' H' : Hp} {a : Addr} {o : HO} (g : Gr M0 (upd G a o) H G' H') (hn : G a = none) (ha : H a = some o) : Gr M0 G H (RW.off G' a) H' where
  g := fun b u e => by
    have hb := ne_of_none e hn
    rw [off_ne hb]
    exact g.g b u (by rw [upd_ne hb]; exact e)
  h := g.h
  s := fun b u e => by
    by_cases hb : b = a
    · subst hb
      rw [off_self] at e
      cases e
    · rw [off_ne hb] at e
      exact g.s b u e
  n := fun b u e q => by
    by_cases hb : b = a
    · subst hb
      exact off_self
    · rw [off_ne hb]
      exact g.n b u e (by rw [upd_ne hb]; exact q)
  d := g.d
section
variable {K : PySem.W.Frag} {M : Addr → Prop} {σ : L2.St} {G0 H0 G H : Hp} {tz : TS} {d : D} {D' : Ends}
theorem s_fldS {a C dx : Addr} {i : Nat} {f : Str} {tv : TE} {fs : List (Str × V)} (gr : Gr M G0 H0 G H) (m : M a) (hn : G a = none) (hi : σ[i]? = some (some (.ref a))) (h : Ev K tv σ (upd G a (.ins C dx fs)) d) (nk : NoK 1 d) (hs : H a = some (.ins C dx fs)) (c : Cls K C) (n : NoAttr K C f) (hl : fs.length < 1000)
    (q : ∀ y G1 H1, Ex G G1 → Gr M G0 H0 G1 H1 → G1 a = none → H1 a = some (.ins C dx (putF f y fs)) → R K G1 y d → D'.nx σ H1) : sFld K (tVar i) tv f D' σ H :=
  h _ H _ (Ex.refl _) (gr.s.take hs) fun y G1 H1 g r => by
    have g1 := g.untake hn hs
    have r1 := r.off (p := 1) (g.g _ _ upd_same) True.intro nk
    refine ⟨.ref a, hi, a, C, dx, fs, rfl, g.ex _ _ hs, c, n, hl, q y (off G1 a) _ g1.g ?_ off_self upd_same r1⟩
    exact (gr.trans g1.up).trans (Gr.write g1.s m off_self)
theorem q_fldS {a C dx : Addr} {i : Nat} {f : Str} {tv : TE} {fs : List (Str × V)} (gr : Gr M G0 H0 G H) (m : M a) (hn : G a = none) (hi : σ[i]? = some (some (.ref a))) (h : Ev K tv σ (upd G a (.ins C dx fs)) d) (nk : NoK 1 d) (hs : H a = some (.ins C dx fs)) (c : Cls K C) (n : NoAttr K C f) (hl : fs.length < 1000)
    (q : ∀ y G1 H1, Ex G G1 → Gr M G0 H0 G1 H1 → G1 a = none → H1 a = some (.ins C dx (putF f y fs)) → R K G1 y d → tz D' σ H1) : tSeq (sFld K (tVar i) tv f) tz D' σ H := s_fldS (D' := { D' with nx := tz D' }) gr m hn hi h nk hs c n hl q
theorem s_raise {C : Addr} {f : Str} {W : WX} {ta : TA} {e : D} (gr : Gr M G0 H0 G H) (h : EvA K ta σ G [e]) (q : ∀ d y G' H', Gr M G0 H0 G' H' → R K G' y e → H' d = some (.xd [(f, y)]) → W (.ref C) (some d) σ H') : tRaiseBad C f W ta D' σ H :=
  h G H _ (Ex.refl G) gr.s fun ys G1 H1 g r => by
    obtain ⟨y, rfl, ry⟩ := r.inv1
    refine ⟨y, rfl, fun d hd => q d y G1 _ ?_ ry upd_same⟩
    exact (gr.trans g.up).trans (Gr.newM g.s hd)
end
section
variable {K : PySem.W.Frag} {M : Addr → Prop} {σ : L2.St} {G0 H0 G H : Hp} {D' : Ends}
theorem q_for {wi : TI} {g : TG} {tb tz : TS} (ds : List D) (gr : Gr M G0 H0 G H) (hs : Src K wi σ G ds) (Iv : Nat → L2.St → Hp → Hp → Prop)
    (stab : ∀ i σ' Ga Ha Gb Hb, Iv i σ' Ga Ha → Gr M0 Ga Ha Gb Hb → Iv i σ' Gb Hb)
    (h0 : ∀ G1 H1, Gr M0 G H G1 H1 → Iv 0 σ G1 H1)
    (turn : ∀ i d σ1 G1 H1 y (N : L2.St → Hp → Prop), ds[i]? = some d → Ex G G1 → Gr M G0 H0 G1 H1 → Iv i σ1 G1 H1 → R K G1 y d →
      (∀ σ3 G3 H3, Ex G1 G3 → Gr M G0 H0 G3 H3 → Iv (i + 1) σ3 G3 H3 → N σ3 H3) → g y σ1 H1 fun σ2 H2 => tb { D' with nx := N, ct := N, bk := tz D' } σ2 H2)
    (done : ∀ σ1 G1 H1, Ex G G1 → Gr M G0 H0 G1 H1 → Iv ds.length σ1 G1 H1 → tz D' σ1 H1) : tSeq (tFor wi g tb) tz D' σ H := s_for (D' := { D' with nx := tz D' }) ds gr hs Iv stab h0 turn done
theorem numbered_inv {ds : List D} {i : Nat} {e : D} (h : (numbered ds)[i]? = some e) : ∃ d, ds[i]? = some d ∧ e = D.t [.v (.int (i : Nat)), d] := by
  have hi : i < ds.length := by
    have := (List.getElem?_eq_some_iff.mp h).1
    rw [numbered_len] at this
    exact this
  rw [numbered_get hi] at h
  exact ⟨ds[i], List.getElem?_eq_getElem hi, (Option.some.inj h).symm⟩
end
end RW

/-! own layer 10: statements that read and write one object that G does not know -/
namespace RW
open PySem PySem.Spec L2
section
variable {K : PySem.W.Frag} {M : Addr → Prop} {σ : L2.St} {G0 H0 G H : Hp} {te : TE} {t : TT} {tu tw tz : TS} {D' : Ends} {a : Addr} {o : HO} {z : V} {i : Nat}
theorem ev_take (gr : Gr M G0 H0 G H) (hn : G a = none) (ha : H a = some o) (h : Ev K te σ (upd G a o) (.v z)) {Q : VK} (q : ∀ G1 H1, Gr M0 G H G1 H1 → Gr M G0 H0 G1 H1 → Flat K z → Q z H1) : te σ H Q :=
  h _ H _ (Ex.refl _) (gr.s.take ha) fun y G1 H1 g r => by
    obtain ⟨rfl, f⟩ := r.v_inv
    have g1 := g.untake hn ha
    exact q _ H1 g1 (gr.trans g1.up) f
theorem s_asgT (gr : Gr M G0 H0 G H) (hn : G a = none) (ha : H a = some o) (h : Ev K te σ (upd G a o) (.v z)) (q : ∀ G1 H1, Gr M0 G H G1 H1 → Gr M G0 H0 G1 H1 → D'.nx (σ.set i (some z)) H1) : tAsg te (gName i) D' σ H := ev_take gr hn ha h fun G1 H1 g g2 _ => q G1 H1 g g2
theorem q_asgT (gr : Gr M G0 H0 G H) (hn : G a = none) (ha : H a = some o) (h : Ev K te σ (upd G a o) (.v z)) (q : ∀ G1 H1, Gr M0 G H G1 H1 → Gr M G0 H0 G1 H1 → tz D' (σ.set i (some z)) H1) : tSeq (tAsg te (gName i)) tz D' σ H := s_asgT (D' := { D' with nx := tz D' }) gr hn ha h q
theorem s_retT (gr : Gr M G0 H0 G H) (hn : G a = none) (ha : H a = some o) (h : Ev K te σ (upd G a o) (.v z)) (q : ∀ G1 H1, Gr M0 G H G1 H1 → Gr M G0 H0 G1 H1 → Flat K z → D'.rt z H1) : tRet te D' σ H := ev_take gr hn ha h q
theorem s_ifT {b : Bool} (gr : Gr M G0 H0 G H) (hn : G a = none) (ha : H a = some o) (h : EvT t σ (upd G a o) b) (h1 : b = true → ∀ G1 H1, Gr M0 G H G1 H1 → Gr M G0 H0 G1 H1 → tu D' σ H1) (h2 : b = false → ∀ G1 H1, Gr M0 G H G1 H1 → Gr M G0 H0 G1 H1 → tw D' σ H1) : tIfS t tu tw D' σ H :=
  h _ H _ (Ex.refl _) (gr.s.take ha) fun G1 H1 g => by
    have g1 := g.untake hn ha
    cases b with
    | true => exact h1 rfl _ H1 g1 (gr.trans g1.up)
    | false => exact h2 rfl _ H1 g1 (gr.trans g1.up)
theorem q_whenT {b : Bool} (gr : Gr M G0 H0 G H) (hn : G a = none) (ha : H a = some o) (h : EvT t σ (upd G a o) b) (h1 : b = true → ∀ G1 H1, Gr M0 G H G1 H1 → Gr M G0 H0 G1 H1 → tu { D' with nx := tz D' } σ H1) (h2 : b = false → ∀ G1 H1, Gr M0 G H G1 H1 → Gr M G0 H0 G1 H1 → tz D' σ H1) : tSeq (tIfS t tu tNext) tz D' σ H :=
  s_ifT (D' := { D' with nx := tz D' }) gr hn ha h h1 h2
/-- x[j] = e, x in slot i -/
theorem q_storeT {xs : List V} {j : Int} {k : Nat} (gr : Gr M G0 H0 G H) (m : M a) (hn : G a = none) (ha : H a = some (.lst xs)) (hi : σ[i]? = some (some (.ref a))) (h : Ev K te σ (upd G a (.lst xs)) (.v z)) (hj : ixN xs.length j = some k)
    (q : ∀ G1 H1, Gr M G0 H0 G1 H1 → Ex G G1 → G1 a = none → H1 a = some (.lst (xs.set k z)) → tz D' σ H1) : tSeq (tAsg te (gSub (tVar i) (tC (.int j)) rSetL)) tz D' σ H :=
  ev_take gr hn ha h fun G1 H1 g g2 _ => by
    have ha1 := g.ex _ _ ha
    have hn1 := g.n _ _ ha hn
    exact ⟨.ref a, hi, a, xs, j, k, rfl, rfl, ha1, hj, q G1 _ (g2.trans (Gr.write g2.s m hn1)) g.g hn1 upd_same⟩
/-- a, b = e1, e2 -/
theorem q_par {i j : Nat} {ta : TA} {d e : D} (gr : Gr M G0 H0 G H) (h : EvA K ta σ G [d, e]) (q : ∀ x y G1 H1, Gr M0 G H G1 H1 → Gr M G0 H0 G1 H1 → R K G1 x d → R K G1 y e → tz D' ((σ.set i (some x)).set j (some y)) H1) : tSeq (tPar i j ta) tz D' σ H :=
  h G H _ (Ex.refl G) gr.s fun ys G1 H1 g r => by
    obtain ⟨x, y, rfl, rx, ry⟩ := r.inv2
    exact ⟨x, y, rfl, q x y G1 H1 g (gr.trans g.up) rx ry⟩
end
theorem Gr.none0 {M : Addr → Prop} {G0 H0 G H : Hp} (g : Gr M G0 H0 G H) {p : Addr} (h : H p = none) : H0 p = none := by
  cases e : H0 p with
  | none => rfl
  | some o =>
    obtain ⟨o', e'⟩ := g.d _ _ e
    rw [h] at e'
    cases e'
section
variable {K : PySem.W.Frag} {M : Addr → Prop} {σ : L2.St} {G0 H0 G H : Hp} {D' : Ends} {tz : TS}
/-- return [..], the list not known to G -/
theorem s_retL {ta : TA} {ds : List D} (gr : Gr M G0 H0 G H) (h : EvA K ta σ G ds) (hl : ds.length ≤ 100000) (q : ∀ ys p G1 H1, Gr M G0 H0 G1 (upd H1 p (.lst ys)) → G1 p = none → H0 p = none → RA K G1 ys ds → D'.rt (.ref p) (upd H1 p (.lst ys))) : tRet (tLst ta) D' σ H :=
  h G H (fun xs H1 => xs.length ≤ sizeLine ∧ ∀ p, H1 p = none → D'.rt (.ref p) (upd H1 p (.lst xs))) (Ex.refl G) gr.s fun ys G1 H1 g r => ⟨size_of (by rw [r.length]; exact hl), fun p hp => by
    have g1 := gr.trans g.up
    exact q ys p G1 H1 (g1.trans (Gr.newM g.s hp)) (g.s.none' hp) (g1.none0 hp) r⟩
/-- x = list(e), the list not known to G -/
theorem q_asgToL {te : TE} {d : D} {ds : List D} {i : Nat} (gr : Gr M G0 H0 G H) (h : Ev K te σ G d) (hs : Sq d ds) (q : ∀ ys p G1 H1, Gr M0 G H G1 (upd H1 p (.lst ys)) → Gr M G0 H0 G1 (upd H1 p (.lst ys)) → G1 p = none → H0 p = none → H p = none → RA K G1 ys ds → tz D' (σ.set i (some (.ref p))) (upd H1 p (.lst ys))) : tSeq (tAsg (tCB (rToL K) (tCons te tNil)) (gName i)) tz D' σ H :=
  h G H _ (Ex.refl G) gr.s fun y G1 H1 g r => by
    have g1 := gr.trans g.up
    rcases hs with rfl | rfl
    · obtain ⟨a, xs, rfl, ha, ra⟩ := r.lst_inv
      exact ⟨a, xs, rfl, .inl (sql_of g.s ha), fun p hp => q xs p G1 H1 (g.trans (Gr.newM g.s hp)) (g1.trans (Gr.newM g.s hp)) (g.s.none' hp) (g1.none0 hp) (g.none0 hp) ra⟩
    · obtain ⟨a, xs, rfl, ha, ra⟩ := r.tup_inv
      exact ⟨a, xs, rfl, .inr (sqt_of g.s ha), fun p hp => q xs p G1 H1 (g.trans (Gr.newM g.s hp)) (g1.trans (Gr.newM g.s hp)) (g.s.none' hp) (g1.none0 hp) (g.none0 hp) ra⟩
end
theorem wk_rng {K : PySem.W.Frag} {G : Hp} {n : Nat} : Wk K (Itr 0 n) G ((List.range n).map fun i => D.v (.int (i : Nat))) := by
  have w : Walk (Itr 0 n) ((List.range n).map fun i => D.v (.int (i : Nat))).length (fun _ => True) (YFn fun i => .int (0 + i)) := by
    have e : ((List.range n).map fun i => D.v (.int (i : Nat))).length = n := by simp
    rw [e]
    exact walk_range
  refine w.mono (fun _ _ => True.intro) fun i H y H' hi s z => ?_
  obtain ⟨e1, e2⟩ := z
  subst e1
  subst e2
  intro Gx ex sx
  have hi' : i < n := by simpa using hi
  refine ⟨Gx, D.v (.int (i : Nat)), by simp [hi'], Gr.refl sx, ?_⟩
  show R K Gx (V.int (0 + ((i : Nat) : Int))) _
  rw [Int.zero_add]
  exact .int
theorem srcAt_rngT {K : PySem.W.Frag} {σ : L2.St} {G H : Hp} {te : TE} {a : Addr} {o : HO} {n : Nat} (s : Sub G H) (hn : G a = none) (ha : H a = some o) (h : Ev K te σ (upd G a o) (.v (.int (n : Nat)))) (hb : n < 1000000) : SrcAt K (iRng1 (tCons te tNil)) σ G H ((List.range n).map fun i => D.v (.int (i : Nat))) := fun R q =>
  ev_take (Gr.refl (M := M0) s) hn ha h fun G1 H1 g _ _ => by
    refine ⟨(n : Nat), rfl, by omega, by omega, ?_⟩
    have := q (Itr 0 n) G1 H1 g wk_rng
    simpa using this
theorem Gr.drop {G0 H0 G H : Hp} {a p : Addr} (g : Gr (fun b => b = a ∨ b = p) G0 H0 G H) (h : H0 p = none) : Gr (fun b => b = a) G0 H0 G H :=
  ⟨g.g, fun b o m e => g.h b o (fun z => z.elim m (ne_of_none e h)) e, g.s, g.n, g.d⟩
section
variable {K : PySem.W.Frag} {W : World K} {σ : L2.St} {G : Hp} {te tb : TE} {k j : Nat} {P : D → Prop}
theorem ej_slTo {r : V → Option Int → Option Int → Hp → VK → Prop} {Pa Pb : D → Prop} (ha : EvJ K W k te σ G Pa) (hb : EvJ K W j tb σ G Pb) (hr : ∀ d e, Pa d → Pb e → ∃ i, e = .v (.int i) ∧ ∃ f, RS K r d none (some i) f ∧ P f) : EvJ K W (k + j) (tSl r te tNoPart (tPart tb)) σ G P := fun n G1 H1 Q ex s jj q =>
  ha (n + j) G1 H1 _ ex s (by rw [Nat.add_assoc, Nat.add_comm j k]; exact jj) fun x d G2 H2 g2 j2 p2 r2 => hb n G2 H2 _ (ex.trans g2.g) g2.s j2 fun y e G3 H3 g3 j3 p3 r3 => by
    obtain ⟨i, rfl, f, rs, pf⟩ := hr d e p2 p3
    obtain ⟨rfl, _⟩ := r3.v_inv
    exact ⟨i, rfl, rs G3 H3 x Q g3.s (r2.mono g3.g) fun z G4 H4 g4 r4 => q z f G4 H4 ((g2.trans g3).trans g4.up) (W.stab _ _ _ _ _ j3 g4) pf r4⟩
end
/-! ### ints -/
section
variable {K : PySem.W.Frag} {i j : Int}
theorem rv_sub : RV K (rI0 fun i j => .int (i - j)) (.v (.int i)) (.v (.int j)) (.v (.int (i - j))) := rv_I0 (g := fun i j => .int (i - j)) True.intro
theorem rv_mul (h : CMul i j) : RV K (rI CMul fun i j => .int (i * j)) (.v (.int i)) (.v (.int j)) (.v (.int (i * j))) := rv_I (g := fun i j => .int (i * j)) h True.intro
theorem rv_mod (h : 0 < j) : RV K (rI (fun _ j => 0 < j) fun i j => .int (i % j)) (.v (.int i)) (.v (.int j)) (.v (.int (i % j))) := rv_I (g := fun i j => .int (i % j)) h True.intro
theorem rv_div (h : CDivW i j) : RV K (rI CDivW fun i j => .int (i / j)) (.v (.int i)) (.v (.int j)) (.v (.int (i / j))) := rv_I (g := fun i j => .int (i / j)) h True.intro
theorem rv_pow (h : CPow i j) : RV K (rI CPow fun i j => .int (i ^ j.toNat)) (.v (.int i)) (.v (.int j)) (.v (.int (i ^ j.toNat))) := rv_I (g := fun i j => .int (i ^ j.toNat)) h True.intro
theorem rv_gt : RV K (rI0 fun i j => .bl (decide (j < i))) (.v (.int i)) (.v (.int j)) (.v (.bl (decide (j < i)))) := rv_I0 (g := fun i j => .bl (decide (j < i))) True.intro
theorem rv_ge : RV K (rI0 fun i j => .bl (decide (j ≤ i))) (.v (.int i)) (.v (.int j)) (.v (.bl (decide (j ≤ i)))) := rv_I0 (g := fun i j => .bl (decide (j ≤ i))) True.intro
theorem ru_neg : RU K (rU fun i => .int (-i)) (.v (.int i)) (.v (.int (-i))) := ru_I (g := fun i => .int (-i)) True.intro
theorem mul_r (h : -(2 ^ 64) < j ∧ j < 2 ^ 64) : CMul i j := .inr h
theorem mul_l (h : -(2 ^ 64) < i ∧ i < 2 ^ 64) : CMul i j := .inl h
end
end RW

/-! own layer 11: C(..) within a try -/
namespace RW
open PySem PySem.Spec PyProof.Rows L2
def tMakeS (C : Addr) (sp : Sp) (E : L2.St → XK) (t : TA) : TE := fun σ H Q => tMake C sp [] (E σ) t σ H Q
section
variable {X : Cx} {CX : CXT} {k : Nat} {f C : Addr} {fd : FuncData} {ps : List Str} {sp : Sp} {E : L2.St → XK} {x : Str} {p pos : Pos} {e : Expr} {es : List Expr} {t : TA}
theorem run_makeS {pins : List (Addr × Obj)} {σ : L2.St} {H : Hp} {s : Shared} {Q : VK} {us ds : List Value} {vs dvs : List V} {E : XK} (M : Mk X.K C f) (F : FnOk X.prog X.w X.K X.mg X.base CX k f fd ps sp) (hr : Room (k + 1) X.A) (hb : Binds X.K fd ps ds) (hd : Vals dvs ds)
    (hx : PassesAt CX X σ E) (I : Inv X pins σ H s) (r : Vals vs us)
    (h : ∀ x dx, H x = none → H dx = none → dx ≠ x → sp (.ref x :: (vs ++ dvs)) (upd (upd H dx (.own x)) x (.ins C dx [])) (fun v H2 => v = .non ∧ Q (.ref x) H2) E) :
    wpAny (model X.prog X.w) X.A (call (.ref C) us) (EP X pins σ Q) X.xe s := by
  have hq := h (s.heap.objs.size + 1) s.heap.objs.size (I.hok.fresh (Nat.le_succ _)) (I.hok.fresh (Nat.le_refl _)) (Nat.ne_of_lt (Nat.lt_succ_self _))
  have I2 := Inv.made (C := C) I
  have r2 : Vals (V.ref (s.heap.objs.size + 1) :: (vs ++ dvs)) (Value.ref (s.heap.objs.size + 1) :: (us ++ ds)) := .cons rfl (r.append hd)
  have hl : (Value.ref (s.heap.objs.size + 1) :: us ++ ds).length = ps.length := by
    have e := r2.length
    rw [F.len _ _ _ _ hq] at e
    exact e.symm
  refine wpAny_call (make_map (f := f) I.kIn M.makes M.init (beq_iff_eq.mp M.fn) (codeAny_mono (F.run _ X.stack _ _ ⟨Value.ref (s.heap.objs.size + 1) :: us, []⟩ (Value.ref (s.heap.objs.size + 1) :: (us ++ ds)) _ _ E (hr.make C us [])
    (I2.env0.make C us []) (hb _ (Value.ref (s.heap.objs.size + 1) :: us) I2.kIn hl) r2 hq) fun r s' hq' => ?_))
  cases r with
  | error e => exact hx pins _ _ e s' I2 hq'
  | ok fl =>
    cases fl with
    | ret u =>
      obtain ⟨v, H', I3, rv, ev, q3⟩ := I2.after hq'
      subst ev
      exact ⟨rv, ⟨V.ref (s.heap.objs.size + 1), H', I3, rfl, q3⟩⟩
    | next => exact False.elim hq'
    | brk => exact False.elim hq'
    | cont => exact False.elim hq'
theorem pe_makeS (M : Mk X.K C f) (F : FnOk X.prog X.w X.K X.mg X.base CX k f fd ps sp) (hr : Room (k + 1) X.A) (hm : X.mg x = some (.ref C)) (hb : Binds X.K fd ps []) (hx : ∀ σ, PassesAt CX X σ (E σ))
    (ha : PA X (e :: es) t) (hg : Gl X x := by rfl) (hdb : (x == ("__debug__" : Str)) = false := by decide) (he : starEach (e :: es) X.env = (false, eval e X.env) :: starEach es X.env := by rfl) (hpl : (backTo pos (starEach es X.env)).any (·.1) = false := by rfl) :
    PE X (.Call (.Name x p) (e :: es) [] pos) (tMakeS C sp E t) := by
  refine ⟨fun pins s σ H Q I h => ?_⟩
  refine wpAny_Call_Name_kw (ld_glob I hg hm ?_ hdb)
  refine PySem.W.callWith_K (h₀ := X.base) I.ok.mod.kin M.kp (thn (ha.run pos pins s σ H _ I h) fun us s1 ⟨vs, H1, I1, r, q⟩ => ⟨I1.kIn, ?_⟩) he hpl
  exact run_makeS M F hr hb .nil (hx σ) I1 r q
end
section
variable {K : PySem.W.Frag} {σ : L2.St} {G : Hp} {α : Type} {C : Addr} {args : α → List D} {dom : α → Prop} {res : α → List (Str × D) ⊕ (Addr × (List V → List (Str × V)))} {E : L2.St → XK} {ta : TA}
theorem ev_makeS (x : α) {fs : List (Str × D)} (ha : EvA K ta σ G (args x)) (hd : dom x) (hr : res x = .inl fs) : Ev K (tMakeS C (spInit K C args dom res) E ta) σ G (.o C fs) := ev_make x ha hd hr
theorem rz_makeS (x : α) {C' : Addr} {f : List V → List (Str × V)} {P : Addr → List (Str × V) → Prop} (ha : EvA K ta σ G (args x)) (hd : dom x) (hr : res x = .inr (C', f)) (hP : ∀ ws G', RA K G' ws (args x) → P C' (f ws)) : Rz (tMakeS C (spInit K C args dom res) E ta) σ G (E σ) P := rz_make x ha hd hr hP
end
/-- a pure def that gives a new list -/
def spNew (K : PySem.W.Frag) {α : Type} (args : α → List D) (dom : α → Prop) (res : α → List D) : Sp := fun vs H Q _ =>
  ∃ (G : Hp) (x : α), Sub G H ∧ RA K G vs (args x) ∧ dom x ∧ ∀ (l : Addr) (ys : List V) (G' H' : Hp), Gr M0 G H G' H' → H l = none → G' l = none → H' l = some (.lst ys) → RA K G' ys (res x) → Q (.ref l) H'
theorem spNew_P {K : PySem.W.Frag} {α : Type} {args : α → List D} {dom : α → Prop} {res : α → List D} (vs : List V) (H : Hp) (Q : VK) (E : XK) (h : spP K args dom (fun x => .l (res x)) vs H Q E) : spNew K args dom res vs H Q E := by
  obtain ⟨G, x, sb, r, hd, q⟩ := h
  exact ⟨G, x, sb, r, hd, fun l ys G' H' g hl hn hh ra => q (.ref l) (upd G' l (.lst ys)) H' (g.take hl hn hh) (R.lst upd_same (ra.mono (Ex.new hn)))⟩
/-- return list(e): the list new -/
theorem s_retToL {K : PySem.W.Frag} {σ : L2.St} {G0 H0 G H : Hp} {M : Addr → Prop} {D' : Ends} {te : TE} {d : D} {ds : List D} (gr : Gr M G0 H0 G H) (h : Ev K te σ G d) (hs : Sq d ds) (q : ∀ l ys G' H', Gr M G0 H0 G' H' → H0 l = none → G' l = none → H' l = some (.lst ys) → RA K G' ys ds → D'.rt (.ref l) H') : tRet (tCB (rToL K) (tCons te tNil)) D' σ H :=
  h G H (fun x H1 => rToL K [x] H1 D'.rt) (Ex.refl G) gr.s fun y G1 H1 g r => by
    have g1 := gr.trans g.up
    rcases hs with rfl | rfl
    · obtain ⟨a, xs, rfl, ha, ra⟩ := r.lst_inv
      exact ⟨a, xs, rfl, .inl (sql_of g.s ha), fun p hp => q p xs G1 _ (g1.trans (Gr.newM g.s hp)) (g1.none0 hp) (g.s.none' hp) upd_same ra⟩
    · obtain ⟨a, xs, rfl, ha, ra⟩ := r.tup_inv
      exact ⟨a, xs, rfl, .inr (sqt_of g.s ha), fun p hp => q p xs G1 _ (g1.trans (Gr.newM g.s hp)) (g1.none0 hp) (g.s.none' hp) upd_same ra⟩
/-- an if without else, both ways going on alike -/
theorem q_whenC {M : Addr → Prop} {σ : L2.St} {G0 H0 G H : Hp} {t : TT} {tu tz : TS} {D' : Ends} {b : Bool} (Pc : Hp → Prop) (gr : Gr M G0 H0 G H) (h : EvT t σ G b)
    (h1 : b = true → ∀ G1 H1 (D'' : Ends), (∀ H2, Pc H2 → D''.nx σ H2) → Gr M0 G H G1 H1 → Gr M G0 H0 G1 H1 → tu D'' σ H1) (h2 : b = false → ∀ G1 H1, Gr M0 G H G1 H1 → Gr M G0 H0 G1 H1 → Pc H1) (rest : ∀ H2, Pc H2 → tz D' σ H2) : tSeq (tIfS t tu tNext) tz D' σ H :=
  q_when gr h (fun e G1 H1 g g2 => h1 e G1 H1 _ rest g g2) fun e G1 H1 g g2 => rest H1 (h2 e G1 H1 g g2)
theorem q_raw {σ : L2.St} {H : Hp} {te : TE} {tz : TS} {D' : Ends} {i : Nat} (h : te σ H fun y H1 => tz D' (σ.set i (some y)) H1) : tSeq (tAsg te (gName i)) tz D' σ H := h
theorem ev_dnew {K : PySem.W.Frag} {σ : L2.St} {G : Hp} : Ev K tDNewK σ G (.d []) := fun G1 H1 Q e s q p hp => q (.ref p) (upd G1 p (.dK [])) _ (Gr.new s hp) (R.dict upd_same rfl .nil .nil)
/-- a promise that asks for nothing to be kept -/
def spNo : Sp := fun _ _ _ _ => False
theorem ok_no {P : Program} {w : PySem.World} {K : PySem.W.Frag} {mg : Str → Option Value} {base : Heap} {CX : CXT} {k : Nat} {f : Addr} {fd : FuncData} {ps : List Str} : FnOk P w K mg base CX k f fd ps spNo :=
  ⟨fun _ _ _ _ h => h.elim, fun _ _ _ _ _ _ _ _ _ _ _ _ _ h => h.elim⟩
end RW

/-! own layer 12: more of drawn evaluation -/
namespace RW
open PySem PySem.Spec L2
section
variable {K : PySem.W.Frag} {W : World K} {σ : L2.St} {G0 H0 G H : Hp} {ta : TA} {te : TE} {t u : TT} {tu tz : TS} {D' : Ends} {k j n : Nat} {b c : Bool} {α : Type} {args : α → List D} {dom : α → Prop} {E : XK}
theorem ej_callP {res : α → D} {P : List D → Prop} {P' : D → Prop} (ha : EvJA K W k ta σ G P) (hx : ∀ ds, P ds → ∃ x : α, ds = args x ∧ dom x ∧ P' (res x)) : EvJ K W k (tCall (spP K args dom res) [] E ta) σ G P' := fun n G1 H1 Q ex s jj q =>
  ha n G1 H1 _ ex s jj fun ys ds G2 H2 g j2 p r => by
    obtain ⟨x, rfl, hd, hp⟩ := hx ds p
    exact ⟨G2, x, g.s, by rw [List.append_nil]; exact r, hd, fun y G' H' g' r' => q y (res x) G' H' (g.trans g'.up) (W.stab _ _ _ _ _ j2 g') hp r'⟩
theorem eja_head {tr : TA} {P : D → Prop} {ds : List D} (h : EvJ K W k te σ G P) (hr : EvA K tr σ G ds) : EvJA K W k (tCons te tr) σ G (fun es => ∃ d, es = d :: ds ∧ P d) := fun n G1 H1 Q e s jj q =>
  h n G1 H1 _ e s jj fun y d G2 H2 g j2 p r => hr G2 H2 _ (e.trans g.g) g.s fun ys G3 H3 g3 rs => q (y :: ys) (d :: ds) G3 H3 (g.trans g3.up) (W.stab _ _ _ _ _ j2 g3) ⟨d, rfl, p⟩ (.cons (r.mono g3.g) rs)
theorem ejt_B (h : EvJ K W k te σ G (fun d => d = .v (.bl b))) : EvJT W k (tB te) σ G (fun c => c = b) := fun n G1 H1 Q e s j q => h n G1 H1 _ e s j fun y d G2 H2 g j2 pd r => by
  subst pd
  obtain ⟨rfl, _⟩ := r.v_inv
  exact ⟨b, rfl, q b G2 H2 g j2 rfl⟩
theorem ejt_not (h : EvJT W k t σ G (fun c => c = b)) : EvJT W k (tNot t) σ G (fun c => c = !b) := fun n G1 H1 Q e s j q => h n G1 H1 _ e s j fun c G2 H2 g j2 p => q (!c) G2 H2 g j2 (by rw [p])
theorem ejt_orr (h : EvJT W k t σ G (fun c => c = false)) (h2 : EvJT W j u σ G (fun c => c = b)) : EvJT W (k + j) (tOr t u) σ G (fun c => c = b) := fun n G1 H1 Q e s jj q => h (n + j) G1 H1 _ e s (by rw [Nat.add_assoc, Nat.add_comm j k]; exact jj) fun c G2 H2 g j2 p => by
  subst p
  exact h2 n G2 H2 Q (e.trans g.g) g.s j2 fun c G3 H3 g3 j3 p => q c G3 H3 (g.trans g3) j3 p
theorem s_whenJ (gr : Gr W.M G0 H0 G H) (jj : W.J (n + k) G H) (h : EvJT W k t σ G (fun c => c = b)) (h1 : b = true → ∀ G1 H1, Gr W.M G H G1 H1 → Gr W.M G0 H0 G1 H1 → W.J n G1 H1 → tu D' σ H1) (h2 : b = false → ∀ G1 H1, Gr W.M G H G1 H1 → Gr W.M G0 H0 G1 H1 → W.J n G1 H1 → D'.nx σ H1) : tIfS t tu tNext D' σ H :=
  h n G H _ (Ex.refl G) gr.s jj fun c G1 H1 g j1 p => by
    subst p
    cases c with
    | true => exact h1 rfl G1 H1 g (gr.trans g) j1
    | false => exact h2 rfl G1 H1 g (gr.trans g) j1
theorem q_whenJ (gr : Gr W.M G0 H0 G H) (jj : W.J (n + k) G H) (h : EvJT W k t σ G (fun c => c = b)) (h1 : b = true → ∀ G1 H1, Gr W.M G H G1 H1 → Gr W.M G0 H0 G1 H1 → W.J n G1 H1 → tu { D' with nx := tz D' } σ H1) (h2 : b = false → ∀ G1 H1, Gr W.M G H G1 H1 → Gr W.M G0 H0 G1 H1 → W.J n G1 H1 → tz D' σ H1) : tSeq (tIfS t tu tNext) tz D' σ H := s_whenJ (D' := { D' with nx := tz D' }) gr jj h h1 h2
end
def rIsN : R2 := fun x y H Q => y = .non ∧ Q (.bl (decide (x = .non))) H
theorem op_isN' {X : Cx} : OpR X (compareOp .Is) rIsN := op_isN
theorem rv_isN {K : PySem.W.Frag} {x : V} : RV K rIsN (.v x) (.v .non) (.v (.bl (decide (x = .non)))) := fun G H y z Q s ry rz q => by
  obtain ⟨rfl, _⟩ := ry.v_inv
  obtain ⟨rfl, _⟩ := rz.v_inv
  exact ⟨rfl, q _ G H (Gr.refl s) .bl⟩
end RW

namespace RW
open PySem PySem.Spec L2
def top (i : Nat) : Stmt := PySem.Challenge.pw_ringwalkers_k01_whole_paths.main.body.getD i (.Pass ⟨0, 0, 0, 0⟩)
def clsBody : Stmt → List Stmt
  | .ClassDef (body := b) .. => b
  | _ => []
def meth (i j : Nat) : Stmt := (clsBody (top i)).getD j (.Pass ⟨0, 0, 0, 0⟩)
abbrev s_is_list : Stmt := top 4
theorem sc_is_list : FnScope ["thing"] ["thing"] (defScope s_is_list) := ⟨rfl, rfl, rfl, by decide +kernel, rfl, by decide +kernel, by decide +kernel⟩
-- slots: 0:thing
abbrev s_is_name : Stmt := top 5
theorem sc_is_name : FnScope ["thing", "sign"] ["thing"] (defScope s_is_name) := ⟨rfl, rfl, rfl, by decide +kernel, rfl, by decide +kernel, by decide +kernel⟩
-- slots: 0:thing 1:sign
abbrev s_Path_init : Stmt := meth 10 0
theorem sc_Path_init : FnScope ["self", "walkers", "index", "name", "rank"] ["self", "walkers"] (defScope s_Path_init) := ⟨rfl, rfl, rfl, by decide +kernel, rfl, by decide +kernel, by decide +kernel⟩
-- slots: 0:self 1:walkers 2:index 3:name 4:rank
abbrev s_Path_walkers : Stmt := meth 10 1
theorem sc_Path_walkers : FnScope ["self"] ["self"] (defScope s_Path_walkers) := ⟨rfl, rfl, rfl, by decide +kernel, rfl, by decide +kernel, by decide +kernel⟩
-- slots: 0:self
abbrev s_Path_eq : Stmt := meth 10 3
theorem sc_Path_eq : FnScope ["self", "other"] ["self", "other"] (defScope s_Path_eq) := ⟨rfl, rfl, rfl, by decide +kernel, rfl, by decide +kernel, by decide +kernel⟩
-- slots: 0:self 1:other
/-! ### what the top has left -/
structure Tp (P : Program) (K : PySem.W.Frag) (mg : Str → Option Value) where
  n_len : mg "len" = none
  n_isinstance : mg "isinstance" = none
  n_any : mg "any" = none
  n_all : mg "all" = none
  n_range : mg "range" = none
  n_enumerate : mg "enumerate" = none
  n_zip : mg "zip" = none
  n_list : mg "list" = none
  n_tuple : mg "tuple" = none
  n_dict : mg "dict" = none
  n_str : mg "str" = none
  n_int : mg "int" = none
  n_bool : mg "bool" = none
  CP : Addr
  CB : Addr
  tkL : Tok
  tkF : Tok
  g_LETTERS : mg "LETTERS" = some (.str "abcdefghijklmnopqrstuvwxyz" tkL)
  g_FIGURES : mg "FIGURES" = some (.str "0123456789" tkF)
  g_Path : mg "Path" = some (.ref CP)
  fB : Addr
  bad_BadWalkers : PySem.RWX.BadTxt P K mg "BadWalkers" CB fB "index"
  aI : Addr
  aW : Addr
  aE : Addr
  eqP : EqF K CP aE
  mk_Path : Mk K CP aI
  no_names : NoAttr K CP "names"
  no_many : NoAttr K CP "many"
  no_ranks : NoAttr K CP "ranks"
  mt_walkers : Meth K CP "walkers" aW
  /-- isinstance(x, Path) of what is none; x == path of other types -/
  kp : ∀ n ∈ ["NoneType", "bool", "int", "str", "function", "list", "tuple", "dict"], PySem.W.kitOne K (.type n) (.ref CP) = some false
  nf : ∀ n ∈ ["NoneType", "bool", "int", "str", "function", "list", "tuple", "dict"], PySem.W.notFirst K CP (.type n) = true
  fD : Addr
  m__law_draw : mg "_law_draw" = some (.ref fD)
  exm : PySem.W.exmOne K (.ref CB) (.ref CB) = some true

/-! ### what the parts mean -/
/-- of a built-in type -/
def Bsc : D → Prop
  | .v (.str z) => z.length ≤ 100000
  | .x _ => False
  | .f _ => False
  | .o _ _ => False
  | .v (.byt _) => False
  | .v (.flt _) => False
  | .v (.ty _) => False
  | _ => True
def isL : D → Bool
  | .l _ => true
  | _ => false
def isT : D → Bool
  | .t _ => true
  | _ => false
def isLT (d : D) : Bool := isL d || isT d
def isDc : D → Bool
  | .d _ => true
  | .dt _ => true
  | _ => false
def isS : D → Bool
  | .v (.str _) => true
  | _ => false
def isBo : D → Bool
  | .v (.bl _) => true
  | _ => false
def tyN : D → Option String
  | .v .non => some "NoneType"
  | .v (.bl _) => some "bool"
  | .v (.int _) => some "int"
  | .v (.str _) => some "str"
  | .v (.ref _) => some "function"
  | .l _ => some "list"
  | .t _ => some "tuple"
  | .d _ => some "dict"
  | .dt _ => some "dict"
  | _ => none
theorem tyD_N {d : D} {n : String} (h : tyN d = some n) : tyD d = some (.type n) := by
  unfold tyN at h
  split at h <;> first | (cases h; rfl) | cases h
theorem tyN_o {d : D} {n : String} (h : tyN d = some n) : ∀ C fs, d = .o C fs → False := fun C fs e => by
  subst e
  cases h
theorem isi_1 {K : PySem.W.Frag} {d : D} {n c : String} {b : Bool} (h : tyN d = some n) (hb : kitB n c = some b) : RC K (rIsD K) [d, .x (.ty c)] (.v (.bl b)) :=
  rc_isi (.ty c) (tyD_N h) (kit_ty hb) fun C fs e => (tyN_o h C fs e).elim
theorem cvs_of : ∀ cs : List String, CVs (cs.map V.ty) (cs.map Value.type)
  | [] => .nil
  | c :: cs => .cons (.ty c) (cvs_of cs)
theorem isi_N {K : PySem.W.Frag} {d : D} {n : String} (cs : List String) {b : Bool} (h : tyN d = some n) (hb : kitAnyB n cs = some b) : RC K (rIsD K) [d, .t ((cs.map V.ty).map .x)] (.v (.bl b)) :=
  rc_isiT (cvs_of cs) (tyD_N h) (kitAny_B hb) fun C fs e => (tyN_o h C fs e).elim
theorem bsc_cases {P : D → Prop} {d : D} (h : Bsc d) (p : ∀ n, tyN d = some n → P d) : P d := by
  cases d with
  | v y => cases y <;> first | exact p _ rfl | exact False.elim h
  | l ds => exact p _ rfl
  | t ds => exact p _ rfl
  | d ds => exact p _ rfl
  | dt ds => exact p _ rfl
  | _ => exact False.elim h
theorem isi_LT {K : PySem.W.Frag} {d : D} (h : Bsc d) : RC K (rIsD K) [d, .t [.x (.ty "list"), .x (.ty "tuple")]] (.v (.bl (isLT d))) := by
  cases d with
  | v y => cases y <;> first | exact isi_N ["list", "tuple"] (b := false) rfl (by decide +kernel) | exact False.elim h
  | l ds => exact isi_N ["list", "tuple"] (b := true) rfl (by decide +kernel)
  | t ds => exact isi_N ["list", "tuple"] (b := true) rfl (by decide +kernel)
  | d ds => exact isi_N ["list", "tuple"] (b := false) rfl (by decide +kernel)
  | dt ds => exact isi_N ["list", "tuple"] (b := false) rfl (by decide +kernel)
  | _ => exact False.elim h
theorem isi_str {K : PySem.W.Frag} {d : D} (h : Bsc d) : RC K (rIsD K) [d, .x (.ty "str")] (.v (.bl (isS d))) := by
  cases d with
  | v y => cases y <;> first | exact isi_1 (b := false) rfl (by decide +kernel) | exact isi_1 (b := true) rfl (by decide +kernel) | exact False.elim h
  | l ds => exact isi_1 (b := false) rfl (by decide +kernel)
  | t ds => exact isi_1 (b := false) rfl (by decide +kernel)
  | d ds => exact isi_1 (b := false) rfl (by decide +kernel)
  | dt ds => exact isi_1 (b := false) rfl (by decide +kernel)
  | _ => exact False.elim h
section
variable {P : Program} {w : PySem.World} {K : PySem.W.Frag} {mg : Str → Option Value} {base : Heap}
/-- the pure end of a def -/
theorem d_is_list (T : Tp P K mg) {f : Addr} (D0 : TopD K mg "is_list" "is_list" s_is_list ["thing"] f) : Def P w K mg base CX0 1 "is_list" ["thing"] (spP K (fun d : D => [d]) Bsc fun d => .v (.bl (isLT d))) :=
  def_of D0 fun fd F => by
    refine F.ok sc_is_list (fun vs H Q E h => ?_) (fun cdv A outer s H vs Q E hr h => ?_)
    · obtain ⟨G, d, _, r, _⟩ := h
      rw [r.length]
      rfl
    · obtain ⟨G, d, sb, r, hd, q⟩ := h
      obtain ⟨x, rfl, rx⟩ := r.inv1
      refine ⟨_, (pss_one (ps_ret (pe_callB (kIs K) rfl T.n_isinstance PyProof.Rows.Boot.«isinstance» (pa_cons (pv 0) (pa_cons (pe_tup (pa_cons (pe_tyN rfl T.n_list PyProof.Rows.Boot.«list») (pa_cons (pe_tyN rfl T.n_tuple PyProof.Rows.Boot.«tuple») pa_nil))) pa_nil))))), ?_⟩
      exact s_ret (Gr.refl sb) (ev_cb (ea_cons (ev_var rfl rx) (ea_cons (ev_tup (ea_cons ev_ty (ea_cons ev_ty ea_nil)) (by decide)) ea_nil)) (isi_LT hd)) fun y G1 H1 g r1 => q y G1 H1 g r1
/-! ### names -/
def letters : Str := "abcdefghijklmnopqrstuvwxyz"
def figures : Str := "0123456789"
def signOk (c : Nat) : Bool := decide (c ∈ letters.cps.toList) || decide (c ∈ figures.cps.toList)
def firstOk (z : Str) : Bool := match z.cps.toList with
  | [] => false
  | c :: _ => decide (c ∈ letters.cps.toList)
def nameOk (z : Str) : Bool := (decide (1 ≤ z.length) && decide (z.length ≤ 8)) && (firstOk z && z.cps.toList.all signOk)
def isName : D → Bool
  | .v (.str z) => nameOk z
  | _ => false
theorem rv_le {K : PySem.W.Frag} {i j : Int} : RV K (rI0 fun i j => .bl (decide (i ≤ j))) (.v (.int i)) (.v (.int j)) (.v (.bl (decide (i ≤ j)))) := rv_I0 (g := fun i j => .bl (decide (i ≤ j))) True.intro
theorem rv_lt {K : PySem.W.Frag} {i j : Int} : RV K (rI0 fun i j => .bl (decide (i < j))) (.v (.int i)) (.v (.int j)) (.v (.bl (decide (i < j)))) := rv_I0 (g := fun i j => .bl (decide (i < j))) True.intro
/-- a comprehension without a test -/
theorem ev_lcA {K : PySem.W.Frag} {σ : L2.St} {G : Hp} {α : Type} {wi : TI} {g : TG} {te : TE} {vs : List Nat} (L : List α) (φ : α → D) (E : α → D) (hs : Src K wi σ G (L.map φ)) (hz : L.length < 100000)
    (turn : ∀ a ∈ L, ∀ y G1, Ex G G1 → R K G1 y (φ a) → ∃ σ', Tg g y (wipe σ vs) G1 σ' ∧ wipe σ' vs = wipe σ vs ∧ Ev K te σ' G1 (E a)) :
    Ev K (tLc wi g tYes te vs) σ G (.l (L.map E)) := by
  have z := ev_lc (te := te) (tt := tYes) L φ (fun _ => true) E hs hz fun a ha y G1 ex r => by
    obtain ⟨σ', h1, h2, h3⟩ := turn a ha y G1 ex r
    exact ⟨σ', h1, h2, et_yes, fun _ => h3⟩
  have e : L.filter (fun _ => true) = L := List.filter_eq_self.mpr fun _ _ => rfl
  rw [e] at z
  exact z
theorem rc_all' {K : PySem.W.Frag} {ds : List D} {bs : List Bool} (e : ds = bs.map fun b => D.v (.bl b)) : RC K (rAll K) [.l ds] (.v (.bl (bs.all id))) := e ▸ rc_all
theorem rc_any' {K : PySem.W.Frag} {ds : List D} {bs : List Bool} (e : ds = bs.map fun b => D.v (.bl b)) : RC K (rAny K) [.l ds] (.v (.bl (bs.any id))) := e ▸ rc_any
theorem d_is_name (T : Tp P K mg) {f : Addr} (D0 : TopD K mg "is_name" "is_name" s_is_name ["thing"] f) : Def P w K mg base CX0 1 "is_name" ["thing"] (spP K (fun d : D => [d]) Bsc fun d => .v (.bl (isName d))) :=
  def_of D0 fun fd F => by
    refine F.ok sc_is_name (fun vs H Q E h => ?_) (fun cdv A outer s H vs Q E hr h => ?_)
    · obtain ⟨G, d, _, r, _⟩ := h
      rw [r.length]
      rfl
    · obtain ⟨G, d, sb, r, hd, q⟩ := h
      obtain ⟨x, rfl, rx⟩ := r.inv1
      refine ⟨_, (pss_cons (ps_if (PW.pt (pw_or (pt_not (pt_val (pe_callB (kIs K) rfl T.n_isinstance PyProof.Rows.Boot.«isinstance» (pa_cons (pv 0) (pa_cons (pe_tyN rfl T.n_str PyProof.Rows.Boot.«str») pa_nil))))) (pw_or (pt_not (pt_chain op_le op_le pe_int (pe_callB (kLen K) rfl T.n_len PyProof.Rows.Boot.«len» (pa_cons (pv 0) pa_nil)) pe_int)) (pw_or1 (pt_cmpR (kNotIn K) (pe_ix (kIx K) (pv 0) pe_int (fun _ _ => rfl)) (pe_gstr rfl T.g_LETTERS) (by rfl)))))) (pss_one (ps_ret pe_bl)) pss_nil)
      (pss_one (ps_ret (pe_callB (kAll K) rfl T.n_all PyProof.Rows.Boot.«all» (pa_cons (pe_lc (own := [("sign", 1)]) (g := gName 1) (tt := tYes) rfl sc_is_name.nd (pi_str (pv 0)) (blkOk_by (N := ["thing", "sign"]) (sc := defScope s_is_name) (by decide +kernel)) (fun _ _ _ _ _ => (pg_name (i := 1) sc_is_name.nd rfl (Or.inl rfl))) (fun _ _ _ _ _ => pts_nil) (fun _ _ _ _ _ => (pe_or (pe_cmpR (kIn K) (pv 1) (pe_gstr rfl T.g_LETTERS) (by rfl)) (pe_one (pe_cmpR (kIn K) (pv 1) (pe_gstr rfl T.g_FIGURES) (by rfl)))))) pa_nil))))), ?_⟩
      have gr0 : Gr M0 G H G H := Gr.refl sb
      have ea1 : EvT (tB (tCB (rIsD K) (tCons (tVar 0) (tCons (tC (.ty "str")) tNil)))) (start ["thing", "sign"] [x]) G (isS d) := et_B (ev_cb (ea_cons (ev_var rfl rx) (ea_cons ev_ty ea_nil)) (isi_str hd))
      have no : isName d = false → ∀ G1 H1, Gr M0 G H G1 H1 → tRet (tC (.bl false)) { nx := fun _ H' => Q .non H', rt := Q } (start ["thing", "sign"] [x]) H1 := fun e G1 H1 g1 => by
        refine s_ret (K := K) g1 ev_bl fun y G2 H2 g r1 => q y G2 H2 g ?_
        show R K G2 y (.v (.bl (isName d)))
        rw [e]
        exact r1
      cases hS : isS d with
      | false =>
        rw [hS] at ea1
        exact q_when (b := true) gr0 (et_orl (et_not ea1)) (fun _ G1 H1 g1 g2 => no (by
          cases d with
          | v y => cases y <;> first | rfl | cases hS
          | _ => rfl) G1 H1 g2) fun z => by cases z
      | true =>
        rw [hS] at ea1
        obtain ⟨z, rfl⟩ : ∃ z, d = .v (.str z) := by
          cases d with
          | v y => cases y <;> first | exact ⟨_, rfl⟩ | cases hS
          | _ => cases hS
        have hz : z.length ≤ 100000 := hd
        have ec : EvT (tTest (tChain (rI0 fun i j => .bl (decide (i ≤ j))) (rI0 fun i j => .bl (decide (i ≤ j))) (tC (.int 1)) (tCB (rLen K) (tCons (tVar 0) tNil)) (tC (.int 8)))) (start ["thing", "sign"] [x]) G (decide ((1 : Int) ≤ (z.length : Nat)) && decide (((z.length : Nat) : Int) ≤ 8)) :=
          et_test (ev_chain ev_int (ev_cb (ea_cons (ev_var rfl rx) ea_nil) (rc_lenS hz)) rv_le (fun _ => ev_int) fun _ => rv_le)
        have e1 : (decide ((1 : Int) ≤ (z.length : Nat)) && decide (((z.length : Nat) : Int) ≤ 8)) = (decide (1 ≤ z.length) && decide (z.length ≤ 8)) := by
          congr 1 <;> (rw [decide_eq_decide]; omega)
        rw [e1] at ec
        cases hL : (decide (1 ≤ z.length) && decide (z.length ≤ 8)) with
        | false =>
          rw [hL] at ec
          exact q_when (b := true) gr0 (et_orr (et_not ea1) (et_orl (et_not ec))) (fun _ G1 H1 g1 g2 => no (by
            show nameOk z = false
            unfold nameOk
            rw [hL]
            rfl) G1 H1 g2) fun z => by cases z
        | true =>
          rw [hL] at ec
          have h1 : 1 ≤ z.length := of_decide_eq_true (Bool.and_eq_true_iff.mp hL).1
          cases hc : z.cps.toList with
          | nil =>
            have : z.length = 0 := by
              show z.cps.size = 0
              rw [← Array.length_toList, hc]
              rfl
            omega
          | cons c cs =>
            have ef : EvT (tTest (tOp (rNotInA K) (tOp (rIx K) (tVar 0) (tC (.int 0))) (tC (.str letters)))) (start ["thing", "sign"] [x]) G (!decide (c ∈ letters.cps.toList)) :=
              et_test (ev_op (ev_op (ev_var rfl rx) ev_int (rv_ix3 (rv_ixS (c := c) hz (by rw [hc]; exact atI_nat (j := 0) rfl)))) ev_str rv_notSign)
            have hF : firstOk z = decide (c ∈ letters.cps.toList) := by
              unfold firstOk
              rw [hc]
            have hN : nameOk z = (firstOk z && z.cps.toList.all signOk) := by
              unfold nameOk
              rw [hL]
              rfl
            cases hd1 : decide (c ∈ letters.cps.toList) with
            | false =>
              rw [hd1] at ef
              exact q_when (b := true) gr0 (et_orr (et_not ea1) (et_orr (et_not ec) ef)) (fun _ G1 H1 g1 g2 => no (by
                show nameOk z = false
                rw [hN, hF, hd1]
                rfl) G1 H1 g2) fun z => by cases z
            | true =>
              rw [hd1] at ef
              refine q_when (b := false) gr0 (et_orr (et_not ea1) (et_orr (et_not ec) ef)) (fun z => by cases z) fun _ G1 H1 g1 g2 => ?_
              have rx1 := rx.mono g1.g
              have lz : z.cps.toList.length < 100000 := by
                have : z.cps.toList.length = z.length := by rw [Array.length_toList]; rfl
                have : z.length ≤ 8 := of_decide_eq_true (Bool.and_eq_true_iff.mp hL).2
                omega
              refine s_ret g2 (d := .v (.bl (isName (.v (.str z))))) (ev_is (ev_cb (ea_cons (ev_lcA z.cps.toList (fun c => .v (.str ⟨#[c]⟩)) (fun c => .v (.bl (signOk c))) (src_str (ev_var rfl rx1)) lz fun a ha y G2 ex ry => ?_) ea_nil) (rc_all' (bs := z.cps.toList.map signOk) (by rw [List.map_map]; rfl))) ?_) fun y G2 H2 g r1 => q y G2 H2 g r1
              · refine ⟨_, tg_name, rfl, ?_⟩
                cases hs : decide (a ∈ letters.cps.toList) with
                | true =>
                  have e : signOk a = true := by unfold signOk; rw [hs]; rfl
                  rw [e]
                  exact ev_orl (ev_bool (ev_op (ev_var rfl ry) ev_str rv_sign) hs)
                | false =>
                  have e : signOk a = decide (a ∈ figures.cps.toList) := by unfold signOk; rw [hs]; rfl
                  rw [e]
                  exact ev_orr (ev_bool (ev_op (ev_var rfl ry) ev_str rv_sign) hs) (ev_op (ev_var rfl ry) ev_str rv_sign)
              · show D.v (.bl _) = D.v (.bl (nameOk z))
                rw [hN, hF, hd1, Bool.true_and, List.all_map]
                rfl
end
end RW

namespace RW
open PySem PySem.Spec L2
/-! ### who is wrong in a list -/
def memD : D → List D → Bool
  | .v (.str z), ds => ds.any fun e => match e with
    | .v (.str y) => decide (y = z)
    | _ => false
  | _, _ => false
def badAt (ds : List D) (i : Nat) : Bool := match ds[i]? with
  | some d => !isName d || memD d (ds.take i)
  | none => false
def firstBad (ds : List D) : Option Nat := (List.range ds.length).find? (badAt ds)
def seqOf : D → List D
  | .l ds => ds
  | .t ds => ds
  | _ => []
theorem sq_of {d : D} (h : isLT d = true) : Sq d (seqOf d) := by
  cases d with
  | l ds => exact .inl rfl
  | t ds => exact .inr rfl
  | _ => cases h
theorem isName_str {d : D} (h : isName d = true) : ∃ z, d = .v (.str z) ∧ nameOk z = true := by
  cases d with
  | v y => cases y <;> first | exact ⟨_, rfl, h⟩ | cases h
  | _ => cases h
theorem names_of {ds : List D} {i : Nat} (h : ∀ j, j < i → badAt ds j = false) (hi : i ≤ ds.length) : ∃ ss : List Str, ss.length = i ∧ ds.take i = (ss.map V.str).map D.v ∧ ∀ z ∈ ss, nameOk z = true := by
  induction i with
  | zero => exact ⟨[], rfl, rfl, fun z hz => by cases hz⟩
  | succ i ih =>
    obtain ⟨ss, hl, e, ok⟩ := ih (fun j hj => h j (Nat.lt_succ_of_lt hj)) (Nat.le_of_succ_le hi)
    have hlt : i < ds.length := hi
    have hb := h i (Nat.lt_succ_self i)
    have hg : ds[i]? = some ds[i] := List.getElem?_eq_getElem hlt
    unfold badAt at hb
    rw [hg] at hb
    simp only [Bool.or_eq_false_iff, Bool.not_eq_false'] at hb
    obtain ⟨z, ez, oz⟩ := isName_str hb.1
    refine ⟨ss ++ [z], by simp [hl], ?_, fun y hy => ?_⟩
    · rw [List.take_add_one, hg, e, ez]
      simp
    · rcases List.mem_append.mp hy with hy | hy
      · exact ok y hy
      · rw [List.mem_singleton.mp hy]
        exact oz
theorem memD_strs {z : Str} {ss : List Str} : memD (.v (.str z)) ((ss.map V.str).map D.v) = decide (z ∈ ss) := by
  induction ss with
  | nil => rfl
  | cons y ss ih =>
    show (decide (y = z) || memD (.v (.str z)) ((ss.map V.str).map D.v)) = _
    rw [ih, Bool.eq_iff_iff, Bool.or_eq_true, decide_eq_true_iff, decide_eq_true_iff, decide_eq_true_iff, List.mem_cons]
    exact ⟨fun h => h.imp Eq.symm id, fun h => h.imp Eq.symm id⟩
theorem firstBad_some {ds : List D} {i : Nat} (h : ∀ j, j < i → badAt ds j = false) (hb : badAt ds i = true) : firstBad ds = some i := by
  have hi : i < ds.length := by
    unfold badAt at hb
    cases e : ds[i]? with
    | none => rw [e] at hb; cases hb
    | some d => exact (List.getElem?_eq_some_iff.mp e).1
  unfold firstBad
  rw [List.find?_range_eq_some]
  exact ⟨hb, List.mem_range.mpr hi, fun j hj => by rw [h j hj]; rfl⟩
theorem firstBad_none {ds : List D} (h : ∀ j, j < ds.length → badAt ds j = false) : firstBad ds = none := by
  unfold firstBad
  rw [List.find?_eq_none]
  intro j hj
  rw [h j (List.mem_range.mp hj)]
  exact Bool.false_ne_true
theorem nodup_of {ds : List D} (h : ∀ j, j < ds.length → badAt ds j = false) {ss : List Str} (e : ds = (ss.map V.str).map D.v) : ss.Nodup := by
  subst e
  unfold List.Nodup
  rw [List.pairwise_iff_getElem]
  intro i j hi hj hij q
  have hj' : j < ((ss.map V.str).map D.v).length := by simpa using hj
  have hb := h j hj'
  have hz : ((ss.map V.str).map D.v)[j]? = some (.v (.str ss[j])) := by simp [hj]
  unfold badAt at hb
  rw [hz] at hb
  simp only [Bool.or_eq_false_iff] at hb
  have e2 : ((ss.map V.str).map D.v).take j = ((ss.take j).map V.str).map D.v := by rw [List.map_take, List.map_take]
  rw [e2, memD_strs] at hb
  have := of_decide_eq_false hb.2
  apply this
  rw [← q]
  exact List.mem_take_iff_getElem.mpr ⟨i, by omega, rfl⟩
/-! ### a path -/
def numS (ss : List Str) : List (Nat × Str) := (List.range ss.length).zip ss
def rankOf (ss : List Str) : List (Key × D) := (numS ss).map fun a => (Sum.inr a.2, D.v (.int (a.1 : Nat)))
theorem numS_num {ss : List Str} : (numS ss).map (fun a => D.t [.v (.int (a.1 : Nat)), .v (.str a.2)]) = numbered ((ss.map V.str).map D.v) := by
  unfold numS numbered
  rw [List.length_map, List.length_map, List.zipWith_map_right, List.zipWith_map_right, List.zip, List.map_zipWith]
theorem numS_keys {ss : List Str} : (numS ss).map (fun a => (Sum.inr a.2 : Key)) = ss.map Sum.inr := by
  have e : (numS ss).map Prod.snd = ss := by
    unfold numS
    rw [List.map_snd_zip]
    simp
  have : (numS ss).map (fun a => (Sum.inr a.2 : Key)) = ((numS ss).map Prod.snd).map Sum.inr := by rw [List.map_map]; rfl
  rw [this, e]
theorem nodup_inr {ss : List Str} (h : ss.Nodup) : (ss.map (Sum.inr : Str → Key)).Nodup := by
  unfold List.Nodup at h ⊢
  rw [List.pairwise_map]
  exact h.imp fun hne q => hne (Sum.inr.inj q)
theorem putF_ne {f g : Str} {x y : V} {r : List (Str × V)} (h : g ≠ f) : putF f y ((g, x) :: r) = (g, x) :: putF f y r := if_neg h
def pathD (CP : Addr) (ds : List D) (rs : List (Key × D)) : D := .o CP [("names", .t ds), ("many", .v (.int ds.length)), ("ranks", .d rs)]
def strsOf (ds : List D) : List Str := ds.filterMap fun d => match d with
  | .v (.str z) => some z
  | _ => none
theorem strsOf_strs {ss : List Str} : strsOf ((ss.map V.str).map D.v) = ss := by
  unfold strsOf
  induction ss with
  | nil => rfl
  | cons z ss ih => simpa using ih
def pathF (ds : List D) : List (Str × D) := [("names", .t ds), ("many", .v (.int ds.length)), ("ranks", .d (rankOf (strsOf ds)))]
def idx (n : Nat) : List V → List (Str × V) := fun _ => [("index", .int (n : Nat))]
def pathRes (CB : Addr) (d : D) : List (Str × D) ⊕ (Addr × (List V → List (Str × V))) :=
  if isLT d = false then .inr (CB, idx 0) else match firstBad (seqOf d) with
    | some i => .inr (CB, idx i)
    | none => if (seqOf d).length < 2 then .inr (CB, idx (seqOf d).length) else .inl (pathF (seqOf d))
def Wd (d : D) : Prop := Bsc d ∧ (isLT d = true → (∀ e ∈ seqOf d, Bsc e) ∧ (seqOf d).length ≤ 1000)
section
variable {P : Program} {w : PySem.World} {K : PySem.W.Frag} {mg : Str → Option Value} {base : Heap}
abbrev DefName (P : Program) (w : PySem.World) (K : PySem.W.Frag) (mg : Str → Option Value) (base : Heap) : Prop := Def P w K mg base CX0 1 "is_name" ["thing"] (spP K (fun d : D => [d]) Bsc fun d => .v (.bl (isName d)))
abbrev DefList (P : Program) (w : PySem.World) (K : PySem.W.Frag) (mg : Str → Option Value) (base : Heap) : Prop := Def P w K mg base CX0 1 "is_list" ["thing"] (spP K (fun d : D => [d]) Bsc fun d => .v (.bl (isLT d)))
theorem ok_init (T : Tp P K mg) {fd : FuncData} (F : Fun K "__init__" "Path.__init__" s_Path_init T.aI fd) (d_is_list : DefList P w K mg base) (d_is_name : DefName P w K mg base) :
    FnOk P w K mg base (L2.CX P w) 3 T.aI fd ["self", "walkers"] (spInit K T.CP (fun d : D => [d]) Wd (pathRes T.CB)) := by
  refine F.okX sc_Path_init (fun vs H Q E h => ?_) (fun cdv A outer s H vs Q E hr0 h => ?_)
  · obtain ⟨G, d, a, dx, ws, rfl, _, _, _, r, _⟩ := h
    rw [List.length_cons, r.length]
    rfl
  · obtain ⟨G, d, a, dx, ws, rfl, sb, hn, hH, r, ⟨hb, hw⟩, q, qe⟩ := h
    obtain ⟨x, rfl, rx⟩ := r.inv1
    have hr_is_list : Room 1 _ := hr0.mono (by decide)
    have hr_is_name : Room 1 _ := hr0.mono (by decide)
    refine ⟨_, (pss_cons (ps_if (pt_not (pt_val (pe_callD d_is_list hr_is_list pass0 (pa_cons (pv 1) pa_nil)))) (pss_one (ps_raiseBad rfl T.bad_BadWalkers hr0 (takes_of rfl rfl rfl rfl) (pa_cons pe_int pa_nil))) pss_nil)
      (pss_cons (ps_for (passes_of rfl) rfl (kNum K rfl T.n_enumerate (pa_cons (pv 1) pa_nil)) (kgTup K (n := 2) (by rfl) (pgs_cons (pg_name (i := 2) sc_Path_init.nd rfl (Or.inl rfl)) (pgs_cons (pg_name (i := 3) sc_Path_init.nd rfl (Or.inl rfl)) pgs_nil))) (pss_one (ps_if (PW.pt (pw_or (pt_not (pt_val (pe_callD d_is_name hr_is_name pass0 (pa_cons (pv 3) pa_nil)))) (pw_or1 (pt_cmpR (kIn K) (pv 3) (pe_slice (kSl K) (pv 1) po_none (po_some (pv 2))) (by rfl))))) (pss_one (ps_raiseBad rfl T.bad_BadWalkers hr0 (takes_of rfl rfl rfl rfl) (pa_cons (pv 2) pa_nil))) pss_nil)))
      (pss_cons (ps_if (pt_cmpR op_lt (pe_callB (kLen K) rfl T.n_len PyProof.Rows.Boot.«len» (pa_cons (pv 1) pa_nil)) pe_int (nomark _)) (pss_one (ps_raiseBad rfl T.bad_BadWalkers hr0 (takes_of rfl rfl rfl rfl) (pa_cons (pe_callB (kLen K) rfl T.n_len PyProof.Rows.Boot.«len» (pa_cons (pv 1) pa_nil)) pa_nil))) pss_nil)
      (pss_cons (ps_fld (pv 0) (pe_callTy (kToT K) rfl T.n_tuple PyProof.Rows.Boot.«tuple» (pa_cons (pv 1) pa_nil)) rfl)
      (pss_cons (ps_fld (pv 0) (pe_callB (kLen K) rfl T.n_len PyProof.Rows.Boot.«len» (pa_cons (kFld K (pv 0)) pa_nil)) rfl)
      (pss_one (ps_fld (pv 0) (pe_dc (own := [("rank", 4), ("name", 3)]) (g := gTup K 2 (gCons (gName 4) (gCons (gName 3) gNil))) (tt := tYes) rfl sc_Path_init.nd (kNum K rfl T.n_enumerate (pa_cons (kFld K (pv 0)) pa_nil)) (blkOk_by (N := ["self", "walkers", "index", "name", "rank"]) (sc := defScope s_Path_init) (by decide +kernel)) (fun _ _ _ _ _ => (kgTup K (n := 2) (by rfl) (pgs_cons (pg_name (i := 4) sc_Path_init.nd rfl (Or.inl rfl)) (pgs_cons (pg_name (i := 3) sc_Path_init.nd rfl (Or.inl rfl)) pgs_nil)))) (fun _ _ _ _ _ => pts_nil) (fun _ _ _ _ _ => (pv 3)) (fun _ _ _ _ _ => (pv 4))) rfl))))))), ?_⟩
    have gr0 : Gr (fun b => b = a) G H G H := Gr.refl sb
    have qe' : ∀ n, pathRes T.CB d = .inr (T.CB, idx n) → ∀ d' y G' H', Gr (fun b => b = a) G H G' H' → R K G' y (.v (.int (n : Nat))) → H' d' = some (.xd [("index", y)]) → E (.ref T.CB) (some d') H' := fun n e d' y G' H' g r h => by
      obtain ⟨rfl, _⟩ := r.v_inv
      exact qe _ _ e d' G' H' g h
    cases hL : isLT d with
    | false =>
      refine q_when (b := true) gr0 (et_not (et_B (ev_bool (ev_call d (ea_cons (ev_var rfl rx) ea_nil) hb) hL))) (fun _ G1 H1 g1 g2 => ?_) fun z => by cases z
      exact s_raise g2 (ea_cons ev_int ea_nil) fun d' y G' H' g r h => qe' 0 (by unfold pathRes; rw [if_pos hL]) d' y G' H' g r h
    | true =>
      have sq := sq_of hL
      obtain ⟨hbs, hlen⟩ := hw hL
      refine q_when (b := false) gr0 (et_not (et_B (ev_bool (ev_call d (ea_cons (ev_var rfl rx) ea_nil) hb) hL))) (fun z => by cases z) fun _ G1 H1 g1 g2 => ?_
      generalize hds : seqOf d = ds at *
      have hH1 : H1 a = some (.ins T.CP dx []) := g1.ex _ _ hH
      have hn1 : G1 a = none := g1.n _ _ hH hn
      have rx1 := rx.mono g1.g
      refine q_for (numbered ds) g2 (src_num sq (ea_cons (ev_var rfl rx1) ea_nil)) (fun i σ' G' H' => H' a = some (.ins T.CP dx []) ∧ G' a = none ∧ (∃ x2 x3, σ' = [some (.ref a), some x, x2, x3, none]) ∧ ∀ j, j < i → badAt ds j = false)
        (fun i σ' Ga Ha Gb Hb ⟨h1, h2, h3, h4⟩ g => ⟨g.ex _ _ h1, g.n _ _ h1 h2, h3, h4⟩) (fun G2 H2 g => ⟨g.ex _ _ hH1, g.n _ _ hH1 hn1, ⟨none, none, rfl⟩, fun j hj => by omega⟩) ?_ ?_
      · intro i dI σ1 G2 H2 y N hd ex2 g3 iv ry hN
        obtain ⟨h1, h2, ⟨x2, x3, rfl⟩, h4⟩ := iv
        obtain ⟨e, he, rfl⟩ := numbered_inv hd
        obtain ⟨u, v, ru, rv, tg⟩ := tg_pair (σ := [some (.ref a), some x, x2, x3, none]) (i := 2) (j := 3) ry
        refine tg H2 _ g3.s ?_
        have hi : i < ds.length := (List.getElem?_eq_some_iff.mp he).1
        have hbe : Bsc e := hbs e (List.mem_of_getElem? he)
        have rx2 := rx1.mono ex2
        obtain ⟨rfl, _⟩ := ru.v_inv
        have hbad : badAt ds i = (!isName e || memD e (ds.take i)) := by
          unfold badAt
          rw [he]
        have bad : badAt ds i = true → ∀ (D'' : Ends) G3 H3, Gr (fun b => b = a) G H G3 H3 → tRaiseBad T.CB "index" (fun cls d x H => E cls d H) (tCons (tVar 2) tNil) D'' [some (.ref a), some x, some (.int (i : Nat)), some v, none] H3 := fun hb D'' G3 H3 g =>
          s_raise g (ea_cons (ev_var rfl .int) ea_nil) fun d' y G' H' g r h => qe' i (by
            unfold pathRes
            rw [hL, hds, firstBad_some h4 hb]
            rfl) d' y G' H' g r h
        cases hN1 : isName e with
        | false =>
          exact s_when (b := true) g3 (et_orl (et_not (et_B (ev_bool (ev_call e (ea_cons (ev_var rfl rv) ea_nil) hbe) hN1)))) (fun _ G3 H3 _ g => bad (by rw [hbad, hN1]; rfl) _ G3 H3 g) fun z => by cases z
        | true =>
          obtain ⟨z, rfl, hz⟩ := isName_str hN1
          obtain ⟨ss, hsl, hss, _⟩ := names_of h4 (Nat.le_of_lt hi)
          obtain ⟨c, sqc, evc⟩ := ev_cut (tl := tNoPart) (th := tPart (tVar 2)) (σ := [some (.ref a), some x, some (.int (i : Nat)), some v, none]) (te := tVar 1) sq (ev_var rfl rx2) eo_none (eo_some (K := K) (i := (i : Nat)) (ev_var rfl .int))
          rw [cut_to, hss] at sqc
          have et : EvT (tTest (tOp (rInA K) (tVar 3) (tSl (rSlA' K) (tVar 1) tNoPart (tPart (tVar 2))))) [some (.ref a), some x, some (.int (i : Nat)), some v, none] G2 (memD (.v (.str z)) (ds.take i)) := by
            refine et_test (ev_bool (ev_op (ev_var rfl rv) evc (rv_inQ sqc rfl (by simp [flatV]))) ?_)
            rw [inV_str, hss, memD_strs]
          have e1 : badAt ds i = memD (.v (.str z)) (ds.take i) := by rw [hbad, hN1]; rfl
          refine s_when (b := badAt ds i) g3 (et_orr (et_not (et_B (ev_bool (ev_call (D.v (.str z)) (ea_cons (ev_var rfl rv) ea_nil) hbe) hN1))) (et_is et e1.symm)) (fun hb G3 H3 _ g => bad hb _ G3 H3 g) fun hb G3 H3 gx g => ?_
          exact hN _ G3 H3 gx.g g ⟨gx.ex _ _ h1, gx.n _ _ h1 h2, ⟨_, _, rfl⟩, fun j hj => by
            by_cases hj' : j < i
            · exact h4 j hj'
            · have : j = i := by omega
              rw [this]
              exact hb⟩
      · intro σ1 G2 H2 ex2 g3 iv
        obtain ⟨h1, h2, ⟨x2, x3, rfl⟩, h4⟩ := iv
        rw [numbered_len] at h4
        have rx2 := rx1.mono ex2
        have hfb := firstBad_none h4
        have lt : EvT (tTest (tOp (rI0 fun i j => .bl (decide (i < j))) (tCB (rLen K) (tCons (tVar 1) tNil)) (tC (.int 2)))) [some (.ref a), some x, x2, x3, none] G2 (decide (((ds.length : Nat) : Int) < 2)) := et_test (ev_op (ev_cb (ea_cons (ev_var rfl rx2) ea_nil) (rc_lenQ sq)) ev_int rv_lt)
        refine q_when g3 lt (fun hb G3 H3 gx g => ?_) fun hb G3 H3 gx g => ?_
        · refine s_raise g (ea_cons (ev_cb (ea_cons (ev_var rfl (rx2.mono gx.g)) ea_nil) (rc_lenQ sq)) ea_nil) fun d' y G' H' g r h => qe' ds.length ?_ d' y G' H' g r h
          have : ds.length < 2 := by have := of_decide_eq_true hb; omega
          unfold pathRes
          rw [hL, hds, hfb]
          exact if_pos this
        · have h2l : ¬ ds.length < 2 := by have := of_decide_eq_false hb; omega
          have hres : pathRes T.CB d = .inl (pathF ds) := by
            unfold pathRes
            rw [hL, hds, hfb]
            exact if_neg h2l
          obtain ⟨ss, hsl, hss, _⟩ := names_of h4 (Nat.le_refl _)
          rw [List.take_length] at hss
          have hnd := nodup_of h4 hss
          have rx3 := rx2.mono gx.g
          have n3 := gx.n _ _ h1 h2
          have nk : NoK 1 (.t ds) := .t fun e he => by
            rw [hss] at he
            obtain ⟨v, _, rfl⟩ := List.mem_map.mp he
            exact .v v
          refine q_fldS g rfl n3 rfl (d := .t ds) (ev_cb (ea_cons (ev_var rfl (rx3.mono (Ex.new n3))) ea_nil) (rc_toTQ sq)) nk (gx.ex _ _ h1) T.eqP.cl T.no_names (by decide) fun y1 G4 H4 e4 g4 n4 s4 r4 => ?_
          have p2 : ∀ y2, putF "many" y2 [(("names" : Str), y1)] = [(("names" : Str), y1), (("many" : Str), y2)] := fun y2 => by
            rw [putF_ne (by decide)]
            rfl
          have p3 : ∀ y2 y3, putF "ranks" y3 [(("names" : Str), y1), (("many" : Str), y2)] = [(("names" : Str), y1), (("many" : Str), y2), (("ranks" : Str), y3)] := fun y2 y3 => by
            rw [putF_ne (by decide), putF_ne (by decide)]
            rfl
          have s4 : H4 a = some (.ins T.CP dx [("names", y1)]) := s4
          have rs4 : R K (upd G4 a (.ins T.CP dx [("names", y1)])) (.ref a) (.o T.CP [("names", .t ds)]) := R.ins upd_same rfl (.cons (r4.mono (Ex.new n4)) .nil)
          refine q_fldS g4 rfl n4 rfl (d := .v (.int ds.length)) (ev_cb (ea_cons (ev_fld (ev_var rfl rs4) T.eqP.cl T.no_names rfl) ea_nil) rc_lenT) (.v _) s4 T.eqP.cl T.no_many (by show 1 < 1000; decide) fun y2 G5 H5 e5 g5 n5 s5 r5 => ?_
          rw [p2] at s5
          have rs5 : R K (upd G5 a (.ins T.CP dx [("names", y1), ("many", y2)])) (.ref a) (.o T.CP [("names", .t ds), ("many", .v (.int ds.length))]) := R.ins upd_same rfl (.cons ((r4.mono e5).mono (Ex.new n5)) (.cons (r5.mono (Ex.new n5)) .nil))
          refine s_fldS g5 rfl n5 rfl (d := .d (rankOf (strsOf ds))) ?_ ?_ s5 T.eqP.cl T.no_ranks (by show 2 < 1000; decide) fun y3 G6 H6 e6 g6 n6 s6 r6 => ?_
          · have es : strsOf ds = ss := by rw [hss, strsOf_strs]
            rw [es]
            have hsl' : ss.length < 100000 := by omega
            refine ev_dc (numS ss) (fun a => D.t [.v (.int (a.1 : Nat)), .v (.str a.2)]) (fun a => Sum.inr a.2) (fun a => .v (.int (a.1 : Nat))) ?_ (by unfold numS; rw [List.length_zip, List.length_range]; omega) (by rw [numS_keys]; exact nodup_inr hnd) fun p hp y G7 ex7 ry => ?_
            · rw [numS_num, ← hss]
              exact src_numT (ea_cons (ev_fld (ev_var rfl rs5) T.eqP.cl T.no_names rfl) ea_nil)
            · obtain ⟨u, v, ru, rv, tg⟩ := tg_pair (σ := wipe [some (.ref a), some x, x2, x3, none] [4, 3]) (i := 4) (j := 3) ry
              exact ⟨_, tg, rfl, ev_var rfl rv, ev_var rfl ru⟩
          · exact .d fun e he => by
              obtain ⟨p, _, rfl⟩ := List.mem_map.mp he
              exact .v _
          · rw [p3] at s6
            exact q _ hres G6 H6 _ g6 s6 rfl (.cons ((r4.mono e5).mono e6) (.cons (r5.mono e6) (.cons r6 .nil)))
end
end RW

namespace RW
open PySem PySem.Spec L2
def strD (ss : List Str) : List D := (ss.map V.str).map D.v
def pathO (CP : Addr) (ss : List Str) : D := .o CP (pathF (strD ss))
/-! ### == of tuples of texts -/
theorem dp_strs {K : PySem.W.Frag} {H : Hp} : ∀ ss : List Str, DpAll K H (ss.map V.str) (ss.map PyData.str)
  | [] => .nil
  | z :: ss => .cons (.str z) (dp_strs ss)
theorem eqv_strs : ∀ ss ts : List Str, PyData.eqvAll (ss.map PyData.str) (ts.map PyData.str) = decide (ss = ts)
  | [], [] => by simp [PyData.eqvAll]
  | [], _ :: _ => by simp [PyData.eqvAll]
  | _ :: _, [] => by simp [PyData.eqvAll]
  | z :: ss, y :: ts => by
    rw [List.map_cons, List.map_cons, PyData.eqvAll, PyData.eqv, eqv_strs ss ts, Bool.eq_iff_iff]
    simp
theorem lay_strs : ∀ ss : List Str, (∀ z ∈ ss, PyData.strOk z = true) → PyData.canLayAll0 (ss.map PyData.str) = true
  | [], _ => by simp [PyData.canLayAll0]
  | z :: ss, h => by
    rw [List.map_cons, PyData.canLayAll0, PyData.canLay0, h z (by simp), lay_strs ss fun y hy => h y (by simp [hy])]
    rfl
theorem depth_strs : ∀ ss : List Str, PyData.depthAll (ss.map PyData.str) ≤ 1
  | [] => by simp [PyData.depthAll]
  | z :: ss => by
    rw [List.map_cons, PyData.depthAll, PyData.depth]
    have := depth_strs ss
    omega
theorem shaped_strs {ss : List Str} (h : ∀ z ∈ ss, PyData.strOk z = true) : SeqAt.shaped (.tuple (ss.map PyData.str)) = true := by
  unfold SeqAt.shaped
  rw [Bool.and_eq_true]
  refine ⟨?_, decide_eq_true ?_⟩
  · rw [PyData.canLay0]
    exact lay_strs ss h
  · rw [PyData.depth]
    have := depth_strs ss
    omega
theorem strD_vals {K : PySem.W.Frag} {G : Hp} {ss : List Str} {ys : List V} (h : RA K G ys (strD ss)) : ys = ss.map V.str := (RA.vs h).1
theorem rv_eqT {K : PySem.W.Frag} {ss ts : List Str} (hs : ∀ z ∈ ss, PyData.strOk z = true) (ht : ∀ z ∈ ts, PyData.strOk z = true) : RV K (rEqD K) (.t (strD ss)) (.t (strD ts)) (.v (.bl (decide (ss = ts)))) := fun G H x y Q s rx ry q => by
  obtain ⟨a, xs, rfl, ha, ra⟩ := rx.tup_inv
  obtain ⟨b, ys, rfl, hb, rb⟩ := ry.tup_inv
  obtain rfl := strD_vals ra
  obtain rfl := strD_vals rb
  refine ⟨_, _, .tup (sqt_of s ha) (dp_strs ss), .tup (sqt_of s hb) (dp_strs ts), shaped_strs hs, shaped_strs ht, ?_⟩
  rw [PyData.eqv, eqv_strs]
  exact q _ G H (Gr.refl s) .bl
theorem strOk_name {z : Str} (h : nameOk z = true) : PyData.strOk z = true := by
  have h1 : z.cps.toList.all signOk = true := by
    unfold nameOk at h
    exact (Bool.and_eq_true_iff.mp (Bool.and_eq_true_iff.mp h).2).2
  have h2 : ∀ c, signOk c = true → c < 0x110000 := fun c hc => by
    unfold signOk at hc
    rcases Bool.or_eq_true_iff.mp hc with q | q
    · have a : letters.cps.toList.all (fun c => decide (c < 0x110000)) = true := by decide +kernel
      exact of_decide_eq_true (List.all_eq_true.mp a c (of_decide_eq_true q))
    · have a : figures.cps.toList.all (fun c => decide (c < 0x110000)) = true := by decide +kernel
      exact of_decide_eq_true (List.all_eq_true.mp a c (of_decide_eq_true q))
  unfold PyData.strOk
  rw [← Array.all_toList, List.all_eq_true]
  intro c hc
  exact decide_eq_true (h2 c (List.all_eq_true.mp h1 c hc))
theorem len_name {z : Str} (h : nameOk z = true) : z.length ≤ 8 := by
  unfold nameOk at h
  exact of_decide_eq_true (Bool.and_eq_true_iff.mp (Bool.and_eq_true_iff.mp h).1).2
/-! ### the methods -/
inductive EqA
  | bs (d : D)
  | pt (ts : List Str)
def eqaD (CP : Addr) : EqA → D
  | .bs d => d
  | .pt ts => pathO CP ts
def eqaOk : EqA → Prop
  | .bs d => Bsc d
  | .pt ts => ∀ z ∈ ts, PyData.strOk z = true
def eqaR (ss : List Str) : EqA → Bool
  | .bs _ => false
  | .pt ts => decide (ss = ts)
section
variable {P : Program} {w : PySem.World} {K : PySem.W.Frag} {mg : Str → Option Value} {base : Heap}
abbrev spWalkers (K : PySem.W.Frag) (CP : Addr) : Sp := spP K (fun ss : List Str => [pathO CP ss]) (fun _ => True) fun ss => .l (strD ss)
abbrev spEqP (K : PySem.W.Frag) (CP : Addr) : Sp := spP K (fun x : List Str × EqA => [pathO CP x.1, eqaD CP x.2]) (fun x => (∀ z ∈ x.1, PyData.strOk z = true) ∧ eqaOk x.2) fun x => .v (.bl (eqaR x.1 x.2))
abbrev spWalkersN (K : PySem.W.Frag) (CP : Addr) : Sp := spNew K (fun ss : List Str => [pathO CP ss]) (fun _ => True) fun ss => strD ss
theorem ok_walkersN (T : Tp P K mg) {fd : FuncData} (F : Fun K "walkers" "Path.walkers" s_Path_walkers T.aW fd) : FnOk P w K mg base CX0 1 T.aW fd ["self"] (spWalkersN K T.CP) := by
  refine F.ok sc_Path_walkers (fun vs H Q E h => ?_) (fun cdv A outer s H vs Q E hr h => ?_)
  · obtain ⟨G, d, _, r, _⟩ := h
    rw [r.length]
    rfl
  · obtain ⟨G, ss, sb, r, _, q⟩ := h
    obtain ⟨x, rfl, rx⟩ := r.inv1
    refine ⟨_, (pss_one (ps_ret (pe_callTy (kToL K) rfl T.n_list PyProof.Rows.Boot.«list» (pa_cons (kFld K (pv 0)) pa_nil)))), ?_⟩
    exact s_retToL (Gr.refl (M := M0) sb) (ev_fld (ev_var rfl rx) T.eqP.cl T.no_names rfl) (.inr rfl) fun l ys G1 H1 g h1 h2 h3 h4 => q l ys G1 H1 g h1 h2 h3 h4
theorem ok_walkers (T : Tp P K mg) {fd : FuncData} (F : FnOk P w K mg base CX0 1 T.aW fd ["self"] (spWalkersN K T.CP)) : FnOk P w K mg base CX0 1 T.aW fd ["self"] (spWalkers K T.CP) := F.imp fun vs H Q E h => spNew_P vs H Q E h
theorem isi_Path (T : Tp P K mg) : ∀ {e : EqA}, eqaOk e → ∃ b, RC K (rIsD K) [eqaD T.CP e, .x (.ref T.CP)] (.v (.bl b)) ∧ (b = true → ∃ ts, e = .pt ts) ∧ (b = false → ∀ ss, eqaR ss e = false)
  | .bs d, h => by
    have key : ∀ {n}, tyN d = some n → n ∈ ["NoneType", "bool", "int", "str", "function", "list", "tuple", "dict"] → ∃ b, RC K (rIsD K) [d, .x (.ref T.CP)] (.v (.bl b)) ∧ (b = true → ∃ ts, EqA.bs d = .pt ts) ∧ (b = false → ∀ ss, eqaR ss (.bs d) = false) := fun {n} hn hm =>
      ⟨false, rc_isi (.own T.CP) (tyD_N hn) (T.kp n hm) fun C fs e => (tyN_o hn C fs e).elim, (fun z => by cases z), fun _ _ => rfl⟩
    show ∃ b, RC K (rIsD K) [d, .x (.ref T.CP)] (.v (.bl b)) ∧ _ ∧ _
    cases d with
    | v y => cases y <;> first | exact key rfl (by decide) | exact False.elim h
    | l ds => exact key rfl (by decide)
    | t ds => exact key rfl (by decide)
    | d ds => exact key rfl (by decide)
    | dt ds => exact key rfl (by decide)
    | _ => exact False.elim h
  | .pt ts, h => ⟨true, rc_isi (.own T.CP) rfl (by simp [PySem.W.kitOne]) fun C fs e => by
      cases e
      exact T.eqP.toClF, fun _ => ⟨ts, rfl⟩, fun z => by cases z⟩
theorem ok_eq (T : Tp P K mg) {fd : FuncData} (F : Fun K "__eq__" "Path.__eq__" s_Path_eq T.aE fd) : FnOk P w K mg base CX0 1 T.aE fd ["self", "other"] (spEqP K T.CP) := by
  refine F.ok sc_Path_eq (fun vs H Q E h => ?_) (fun cdv A outer s H vs Q E hr h => ?_)
  · obtain ⟨G, d, _, r, _⟩ := h
    rw [r.length]
    rfl
  · obtain ⟨G, ⟨ss, e⟩, sb, r, ⟨hs, he⟩, q⟩ := h
    obtain ⟨x, y, rfl, rx, ry⟩ := r.inv2
    refine ⟨_, (pss_one (ps_ret (pe_and (pe_callB (kIs K) rfl T.n_isinstance PyProof.Rows.Boot.«isinstance» (pa_cons (pv 1) (pa_cons (pe_gref rfl T.g_Path) pa_nil))) (pe_one (pe_cmpR (kEqD K hr.units) (kFld K (pv 0)) (kFld K (pv 1)) (nomark _)))))), ?_⟩
    obtain ⟨b, hb, h1, h2⟩ := isi_Path T he
    have ei : Ev K (tCB (rIsD K) (tCons (tVar 1) (tCons (tC (.ref T.CP)) tNil))) (start ["self", "other"] [x, y]) G (.v (.bl b)) := ev_cb (ea_cons (ev_var rfl ry) (ea_cons (fun G1 H1 Q e s q => q _ G1 H1 (Gr.refl s) .x) ea_nil)) hb
    refine s_ret (d := .v (.bl (eqaR ss e))) (Gr.refl sb) ?_ fun y G1 H1 g r1 => q y G1 H1 g r1
    cases b with
    | false =>
      rw [h2 rfl ss]
      exact ev_andl ei
    | true =>
      obtain ⟨ts, rfl⟩ := h1 rfl
      exact ev_andr ei (ev_op (ev_fld (ev_var rfl rx) T.eqP.cl T.no_names rfl) (ev_fld (ev_var rfl ry) T.eqP.cl T.no_names rfl) (rv_eqT hs he))
end
end RW

namespace RW
open PySem PySem.Spec L2
abbrev s_law_spring : Stmt := top 12
theorem sc_law_spring : FnScope ["_law_script", "_law_turn", "_law_cell", "_law_mix", "_law_at", "_law_one"] ["_law_script", "_law_turn"] (defScope s_law_spring) := ⟨rfl, rfl, rfl, by decide +kernel, rfl, by decide +kernel, by decide +kernel⟩
-- slots: 0:_law_script 1:_law_turn 2:_law_cell 3:_law_mix 4:_law_at 5:_law_one
abbrev s_law_draw : Stmt := top 13
theorem sc_law_draw : FnScope ["_law_spring_here", "_law_many", "_law_digit", "_law_mixed_here"] ["_law_spring_here", "_law_many"] (defScope s_law_draw) := ⟨rfl, rfl, rfl, by decide +kernel, rfl, by decide +kernel, by decide +kernel⟩
-- slots: 0:_law_spring_here 1:_law_many 2:_law_digit 3:_law_mixed_here
abbrev s_law_pick : Stmt := top 14
theorem sc_law_pick : FnScope ["_law_spring_here", "_law_some"] ["_law_spring_here", "_law_some"] (defScope s_law_pick) := ⟨rfl, rfl, rfl, by decide +kernel, rfl, by decide +kernel, by decide +kernel⟩
-- slots: 0:_law_spring_here 1:_law_some
/-! ### the spring -/
def scrD (ns : List Int) : List D := (ns.map V.int).map D.v
def spSpring (K : PySem.W.Frag) : Sp := fun vs H Q _ => ∃ (G : Hp) (ns : List Int) (t : Int), Sub G H ∧ RA K G vs [.f (scrD ns), .v (.int t)] ∧ ns.length ≤ 63 ∧ 0 ≤ t ∧ t < 1000 ∧
  ∀ (a : Addr) (c m : Int) (G' H' : Hp), Gr M0 G H G' H' → H a = none → G' a = none → H' a = some (.lst [.int c, .int m, .int 0]) → 0 ≤ c → 0 ≤ m → m < 2147483648 → Q (.ref a) H'
section
variable {P : Program} {w : PySem.World} {K : PySem.W.Frag} {mg : Str → Option Value} {base : Heap}
theorem ev_ixF {σ : L2.St} {G : Hp} {te ti : TE} {ds : List D} {i : Int} {d : D} (h : Ev K te σ G (.f ds)) (h2 : Ev K ti σ G (.v (.int i))) (e : L2.atI ds i = some d) : Ev K (tOp (rIx K) te ti) σ G d := ev_op h h2 fun G H x y Q s rx ry q => by
  obtain ⟨a, xs, rfl, ha, r⟩ := rx.frz_inv
  obtain ⟨rfl, _⟩ := ry.v_inv
  obtain ⟨v, hv, rv⟩ := r.atI e
  exact .inl ⟨a, xs, i, v, rfl, rfl, sql_frz s ha, hv, q v G H (Gr.refl s) rv⟩
theorem d_spring (T : Tp P K mg) {f : Addr} (D0 : TopD K mg "_law_spring" "_law_spring" s_law_spring ["_law_script", "_law_turn"] f) : Def P w K mg base CX0 1 "_law_spring" ["_law_script", "_law_turn"] (spSpring K) :=
  def_of D0 fun fd F => by
    refine F.ok sc_law_spring (fun vs H Q E h => ?_) (fun cdv A outer s H vs Q E hr h => ?_)
    · obtain ⟨G, ns, t, _, r, _⟩ := h
      rw [r.length]
      rfl
    · obtain ⟨G, ns, t, sb, r, hl, ht0, ht1, q⟩ := h
      obtain ⟨x, y, rfl, rx, ry⟩ := r.inv2
      refine ⟨_, (pss_cons (ps_par (i := 2) (j := 3) (by rfl) sc_law_spring.nd rfl rfl (by decide) rfl rfl (pa_cons (pe_ifExp (pt_cmpR op_lt (pv 1) (pe_callB (kLen K) rfl T.n_len PyProof.Rows.Boot.«len» (pa_cons (pv 0) pa_nil)) (nomark _)) (pe_ix (kIx K) (pv 0) (pv 1) (fun _ _ => rfl)) (pe_op (kAdd K) (pe_op op_mul pe_int (pv 1)) (pe_callB (kLen K) rfl T.n_len PyProof.Rows.Boot.«len» (pa_cons (pv 0) pa_nil)))) (pa_cons (pe_op (kAdd K) pe_int (pe_op op_mul pe_int (pv 1))) pa_nil)) (by rfl))
      (pss_cons (ps_for PassesOwn.never rfl (kNum K rfl T.n_enumerate (pa_cons (pe_slice (kSl K) (pv 0) po_none (po_some pe_int)) pa_nil)) (kgTup K (n := 2) (by rfl) (pgs_cons (pg_name (i := 4) sc_law_spring.nd rfl (Or.inl rfl)) (pgs_cons (pg_name (i := 5) sc_law_spring.nd rfl (Or.inl rfl)) pgs_nil))) (pss_one (ps_set (i := 3) sc_law_spring.nd rfl (Or.inl rfl) (pe_op op_mod (pe_callTy call_int rfl T.n_int PyProof.Rows.Boot.«int» (pa_cons (pe_op (kAdd K) (pe_op (kAdd K) (pe_op (kAdd K) (pe_op op_mul (pv 3) pe_int) (pv 5)) (pe_op op_mul pe_int (pv 4))) pe_int) pa_nil)) pe_int))))
      (pss_one (ps_ret (pe_lst (pa_cons (pe_ifExp (pt_cmpR op_ge (pv 2) (pe_op op_pow pe_int pe_int) (nomark _)) (pv 2) pe_int) (pa_cons (pe_op op_mod (pe_callTy call_int rfl T.n_int PyProof.Rows.Boot.«int» (pa_cons (pe_op (kAdd K) (pv 3) (pe_op op_mul (pv 2) pe_int)) pa_nil)) pe_int) (pa_cons pe_int pa_nil)))))))), ?_⟩
      have gr0 : Gr M0 G H G H := Gr.refl sb
      obtain ⟨rfl, _⟩ := ry.v_inv
      have hll : (scrD ns).length = ns.length := by simp [scrD]
      have lenE : ∀ {σ G'}, σ[0]? = some (some x) → Ex G G' → Ev K (tCB (rLen K) (tCons (tVar 0) tNil)) σ G' (.v (.int (scrD ns).length)) := fun hσ e => ev_cb (ea_cons (ev_var hσ (rx.mono e)) ea_nil) rc_lenF
      -- the cell
      have cell : ∃ c : Int, Ev K (tIf (tTest (tOp (rI0 fun i j => .bl (decide (i < j))) (tVar 1) (tCB (rLen K) (tCons (tVar 0) tNil)))) (tOp (rIx K) (tVar 0) (tVar 1)) (tOp (rAdd K) (tOp (rI CMul fun i j => .int (i * j)) (tC (.int 7)) (tVar 1)) (tCB (rLen K) (tCons (tVar 0) tNil)))) (start ["_law_script", "_law_turn", "_law_cell", "_law_mix", "_law_at", "_law_one"] [x, .int t]) G (.v (.int c)) := by
        by_cases hlt : t < (scrD ns).length
        · have hi : t.toNat < ns.length := by rw [hll] at hlt; omega
          refine ⟨ns[t.toNat], ev_if (b := true) (et_test (ev_bool (ev_op (ev_var rfl ry) (lenE rfl (Ex.refl G)) rv_lt) (decide_eq_true hlt))) (fun _ => ev_ixF (ev_var rfl rx) (ev_var rfl ry) ?_) fun z => by cases z⟩
          have e : (scrD ns)[t.toNat]? = some (.v (.int ns[t.toNat])) := by simp [scrD, hi]
          have z := atI_nat e
          rw [Int.toNat_of_nonneg ht0] at z
          exact z
        · refine ⟨7 * t + (scrD ns).length, ev_if (b := false) (et_test (ev_bool (ev_op (ev_var rfl ry) (lenE rfl (Ex.refl G)) rv_lt) (decide_eq_false hlt))) (fun z => by cases z) fun _ => ev_op (ev_op ev_int (ev_var rfl ry) (rv_mul (mul_l (by omega)))) (lenE rfl (Ex.refl G)) rv_add⟩
      obtain ⟨c, ec⟩ := cell
      refine q_par gr0 (ea_cons ec (ea_cons (ev_op ev_int (ev_op ev_int (ev_var rfl ry) (rv_mul (mul_l (by omega)))) rv_add) ea_nil)) fun x1 x2 G1 H1 g1 g2 r1 r2 => ?_
      obtain ⟨rfl, _⟩ := r1.v_inv
      obtain ⟨rfl, _⟩ := r2.v_inv
      have rx1 := rx.mono g1.g
      refine q_for (numbered (cutD (scrD ns) none (some (63 : Int)))) g2 (src_numL (ea_cons (ev_sl (ev_var rfl rx1) eo_none (eo_some (K := K) ev_int) rs_F) ea_nil))
        (fun i σ' G' H' => ∃ (m : Int) (x4 x5 : Option V), σ' = [some x, some (.int t), some (.int c), some (.int m), x4, x5] ∧ 0 ≤ m ∧ m < 2147483648)
        (fun i σ' Ga Ha Gb Hb h _ => h) (fun G2 H2 g => ⟨1009 + 97 * t, none, none, rfl, by omega, by omega⟩) ?_ ?_
      · intro i dI σ1 G2 H2 y N hd ex2 g3 iv ry' hN
        obtain ⟨m, x4, x5, rfl, hm0, hm1⟩ := iv
        obtain ⟨e, he, rfl⟩ := numbered_inv hd
        obtain ⟨u, v, ru, rv, tg⟩ := tg_pair (i := 4) (j := 5) ry'
        refine tg H2 _ g3.s ?_
        have hmem : e ∈ scrD ns := List.mem_of_mem_drop (List.mem_of_mem_take (List.mem_of_getElem? he))
        obtain ⟨n, rfl⟩ : ∃ n : Int, e = .v (.int n) := by
          unfold scrD at hmem
          obtain ⟨y, hy, rfl⟩ := List.mem_map.mp hmem
          obtain ⟨n, _, rfl⟩ := List.mem_map.mp hy
          exact ⟨n, rfl⟩
        refine s_asg g3 (d := .v (.int ((((m * 69069 + n) + 5 * (i : Nat)) + 1) % 2147483629))) (ev_op (ev_cb (ea_cons (ev_op (ev_op (ev_op (ev_op (ev_var rfl .int) ev_int (rv_mul (mul_r (by omega)))) (ev_var rfl rv) rv_add) (ev_op ev_int (ev_var rfl ru) (rv_mul (mul_l (by omega)))) rv_add) ev_int rv_add) ea_nil) rc_int) ev_int (rv_mod (by decide))) fun y G3 H3 g4 g5 r4 => ?_
        obtain ⟨rfl, _⟩ := r4.v_inv
        exact hN _ G3 H3 g4.g g5 ⟨_, _, _, rfl, Int.emod_nonneg _ (by decide), by
          have := Int.emod_lt_of_pos (((m * 69069 + n) + 5 * (i : Nat)) + 1) (b := 2147483629) (by decide)
          omega⟩
      · intro σ1 G2 H2 ex2 g3 iv
        obtain ⟨m, x4, x5, rfl, hm0, hm1⟩ := iv
        have e1 : ∃ c' : Int, 0 ≤ c' ∧ Ev K (tIf (tTest (tOp (rI0 fun i j => .bl (decide (j ≤ i))) (tVar 2) (tOp (rI CPow fun i j => .int (i ^ j.toNat)) (tC (.int 10)) (tC (.int 18))))) (tVar 2) (tC (.int 0))) [some x, some (.int t), some (.int c), some (.int m), x4, x5] G2 (.v (.int c')) := by
          have ep : EvT (tTest (tOp (rI0 fun i j => .bl (decide (j ≤ i))) (tVar 2) (tOp (rI CPow fun i j => .int (i ^ j.toNat)) (tC (.int 10)) (tC (.int 18))))) [some x, some (.int t), some (.int c), some (.int m), x4, x5] G2 (decide ((10 : Int) ^ (18 : Int).toNat ≤ c)) := et_test (ev_op (K := K) (ev_var rfl .int) (ev_op ev_int ev_int (rv_pow ⟨by decide, by decide, by decide⟩)) rv_ge)
          cases hb : decide ((10 : Int) ^ (18 : Int).toNat ≤ c) with
          | true =>
            rw [hb] at ep
            have h18 : (0 : Int) ≤ (10 : Int) ^ (18 : Int).toNat := by decide
            exact ⟨c, Int.le_trans h18 (of_decide_eq_true hb), ev_if ep (fun _ => ev_var rfl .int) fun z => by cases z⟩
          | false =>
            rw [hb] at ep
            exact ⟨0, Int.le_refl _, ev_if ep (fun z => by cases z) fun _ => ev_int⟩
        obtain ⟨c', hc', ev1⟩ := e1
        have ev2 : EvA K (tCons _ (tCons (tOp (rI (fun _ j => 0 < j) fun i j => .int (i % j)) (tCB rInt (tCons (tOp (rAdd K) (tVar 3) (tOp (rI CMul fun i j => .int (i * j)) (tVar 2) (tC (.int 31)))) tNil)) (tC (.int 2147483647))) (tCons (tC (.int 0)) tNil))) [some x, some (.int t), some (.int c), some (.int m), x4, x5] G2 [.v (.int c'), .v (.int ((m + c * 31) % 2147483647)), .v (.int 0)] :=
          ea_cons ev1 (ea_cons (ev_op (ev_cb (ea_cons (ev_op (ev_var rfl .int) (ev_op (ev_var rfl .int) ev_int (rv_mul (mul_r (by omega)))) rv_add) ea_nil) rc_int) ev_int (rv_mod (by decide))) (ea_cons ev_int ea_nil))
        refine s_retL g3 ev2 (by show 3 ≤ 100000; decide) fun ys p G3 H3 gg hpG hp0 r4 => ?_
        obtain rfl : ys = [.int c', .int ((m + c * 31) % 2147483647), .int 0] := (RA.vs (cs := [.int c', .int ((m + c * 31) % 2147483647), .int 0]) r4).1
        exact q p c' _ G3 _ gg hp0 hpG upd_same hc' (Int.emod_nonneg _ (by decide)) (by
          have := Int.emod_lt_of_pos (m + c * 31) (b := 2147483647) (by decide)
          omega)
/-! ### a draw -/
abbrev spDraw (K : PySem.W.Frag) : Sp := spJ K (fun n : Int => [.v (.int n)]) (fun n => 1 ≤ n ∧ n ≤ 1000000) (fun _ => 1) (fun n d => ∃ r : Int, d = .v (.int r) ∧ 0 ≤ r ∧ r < n)
theorem d_draw (T : Tp P K mg) {f : Addr} (D0 : TopD K mg "_law_draw" "_law_draw" s_law_draw ["_law_spring_here", "_law_many"] f) : Def P w K mg base CX0 1 "_law_draw" ["_law_spring_here", "_law_many"] (spDraw K) :=
  def_of D0 fun fd F => by
    refine F.ok sc_law_draw (fun vs H Q E h => ?_) (fun cdv A outer s H vs Q E hr h => ?_)
    · obtain ⟨G, x, a, n, ws, rfl, _, _, r, _⟩ := h
      rw [List.length_cons, r.length]
      rfl
    · obtain ⟨G, m, a, n, ws, rfl, sb, sp, r, ⟨hm1, hm2⟩, q⟩ := h
      obtain ⟨x, rfl, rx⟩ := r.inv1
      obtain ⟨rfl, _⟩ := rx.v_inv
      obtain ⟨hn, c, mm, t, ha, hc0, hm0, hmm, ht0, hlim⟩ := sp
      have hlim' : t + ((n : Int) + 1) ≤ 1000000 := by
        have : ((n + 1 : Nat) : Int) = (n : Int) + 1 := by omega
        rw [← this]
        exact hlim
      refine ⟨_, (pss_cons (ps_if (pt_cmpR op_gt (pe_ix (kIx K) (pv 0) pe_int (fun _ _ => rfl)) pe_int (nomark _)) (pss_cons (ps_set (i := 2) sc_law_draw.nd rfl (Or.inl rfl) (pe_op op_mod (pe_callTy call_int rfl T.n_int PyProof.Rows.Boot.«int» (pa_cons (pe_ix (kIx K) (pv 0) pe_int (fun _ _ => rfl)) pa_nil)) (pv 1)))
      (pss_cons (ps_asg (pe_op op_fdivW (pe_ix (kIx K) (pv 0) pe_int (fun _ _ => rfl)) (pv 1)) (pg_sub (pv 0) pe_int set_list))
      (pss_one (ps_ret (pv 2))))) pss_nil)
      (pss_cons (ps_asg (pe_op (kAdd K) (pe_ix (kIx K) (pv 0) pe_int (fun _ _ => rfl)) pe_int) (pg_sub (pv 0) pe_int set_list))
      (pss_cons (ps_set (i := 3) sc_law_draw.nd rfl (Or.inl rfl) (pe_op op_mod (pe_op op_pow (pe_callTy call_int rfl T.n_int PyProof.Rows.Boot.«int» (pa_cons (pe_op (kAdd K) (pe_op (kAdd K) (pe_ix (kIx K) (pv 0) pe_int (fun _ _ => rfl)) (pe_op op_mul pe_int (pe_ix (kIx K) (pv 0) pe_int (fun _ _ => rfl)))) pe_int) pa_nil)) pe_int) pe_int))
      (pss_one (ps_ret (pe_op op_mod (pe_op op_fdivW (pe_op op_mod (pe_op op_pow (pe_callTy call_int rfl T.n_int PyProof.Rows.Boot.«int» (pa_cons (pe_op (kAdd K) (pe_op op_mul (pv 3) pe_int) (pe_op op_mul pe_int (pe_ix (kIx K) (pv 0) pe_int (fun _ _ => rfl)))) pa_nil)) pe_int) pe_int) pe_int) (pv 1))))))), ?_⟩
      have gr0 : Gr (fun b => b = a) G H G H := Gr.refl sb
      have rs : ∀ {G' : Hp} {u v w : Int}, R K (upd G' a (.lst [.int u, .int v, .int w])) (.ref a) (.l [.v (.int u), .v (.int v), .v (.int w)]) := fun {G' u v w} => R.lst upd_same (.cons .int (.cons .int (.cons .int .nil)))
      have at0 : ∀ {σ : L2.St} {G' : Hp} {u v w : Int}, σ[0]? = some (some (.ref a)) → Ev K (tOp (rIx K) (tVar 0) (tC (.int 0))) σ (upd G' a (.lst [.int u, .int v, .int w])) (.v (.int u)) := fun h => ev_op (ev_var h rs) ev_int (rv_ix1 (rv_ixL (atI_nat (j := 0) rfl)))
      have at1 : ∀ {σ : L2.St} {G' : Hp} {u v w : Int}, σ[0]? = some (some (.ref a)) → Ev K (tOp (rIx K) (tVar 0) (tC (.int 1))) σ (upd G' a (.lst [.int u, .int v, .int w])) (.v (.int v)) := fun h => ev_op (ev_var h rs) ev_int (rv_ix1 (rv_ixL (atI_nat (j := 1) rfl)))
      have at2 : ∀ {σ : L2.St} {G' : Hp} {u v w : Int}, σ[0]? = some (some (.ref a)) → Ev K (tOp (rIx K) (tVar 0) (tC (.int 2))) σ (upd G' a (.lst [.int u, .int v, .int w])) (.v (.int w)) := fun h => ev_op (ev_var h rs) ev_int (rv_ix1 (rv_ixL (atI_nat (j := 2) rfl)))
      refine q_whenT (b := decide ((0 : Int) < c)) gr0 hn ha (et_test (ev_op (at0 rfl) ev_int rv_gt)) (fun hb G1 H1 g1 g2 => ?_) fun hb G1 H1 g1 g2 => ?_
      · -- by the cell
        have hn1 := g1.n _ _ ha hn
        have ha1 := g1.ex _ _ ha
        refine q_asgT g2 hn1 ha1 (z := .int (c % m)) (ev_op (ev_cb (ea_cons (at0 rfl) ea_nil) rc_int) (ev_var rfl .int) (rv_mod (by omega))) fun G2 H2 g3 g4 => ?_
        have hn2 := g3.n _ _ ha1 hn1
        have ha2 := g3.ex _ _ ha1
        refine q_storeT (z := .int (c / m)) (k := 0) g4 rfl hn2 ha2 rfl (ev_op (at0 rfl) (ev_var rfl .int) (rv_div (wide_div (b := 30) (by omega) (by omega) (by decide) (by decide)))) rfl fun G3 H3 g5 _ hn3 ha3 => ?_
        have hc : 0 ≤ c / m := Int.ediv_nonneg hc0 (by omega)
        exact ⟨_, rfl, q _ _ G3 H3 g5 ⟨hn3, c / m, mm, t, ha3, hc, hm0, hmm, ht0, by show t + (n : Int) ≤ 1000000; omega⟩ ⟨_, rfl, Int.emod_nonneg _ (by omega), Int.emod_lt_of_pos _ (by omega)⟩ .int⟩
      · -- by the mixing
        have hn1 := g1.n _ _ ha hn
        have ha1 := g1.ex _ _ ha
        refine q_storeT (z := .int (t + 1)) (k := 2) g2 rfl hn1 ha1 rfl (ev_op (at2 rfl) ev_int rv_add) rfl fun G2 H2 g3 _ hn2 ha2 => ?_
        have ha2 : H2 a = some (.lst [.int c, .int mm, .int (t + 1)]) := ha2
        have pw1 : CPow (mm + 6364137 * (t + 1) + 1442695) 3 := ⟨by decide, by decide, by omega⟩
        refine q_asgT g3 hn2 ha2 (z := .int ((mm + 6364137 * (t + 1) + 1442695) ^ (3 : Int).toNat % 2147483647)) (ev_op (ev_op (ev_cb (ea_cons (ev_op (ev_op (at1 rfl) (ev_op ev_int (at2 rfl) (rv_mul (mul_l (by omega)))) rv_add) ev_int rv_add) ea_nil) rc_int) ev_int (rv_pow pw1)) ev_int (rv_mod (by decide))) fun G3 H3 g4 g5 => ?_
        have hn3 := g4.n _ _ ha2 hn2
        have ha3 := g4.ex _ _ ha2
        have b0 : 0 ≤ (mm + 6364137 * (t + 1) + 1442695) ^ (3 : Int).toNat % 2147483647 := Int.emod_nonneg _ (by decide)
        have b1 : (mm + 6364137 * (t + 1) + 1442695) ^ (3 : Int).toNat % 2147483647 < 2147483647 := Int.emod_lt_of_pos _ (by decide)
        generalize (mm + 6364137 * (t + 1) + 1442695) ^ (3 : Int).toNat % 2147483647 = u at b0 b1
        have pw2 : CPow (u * 48271 + 11 * (t + 1)) 3 := ⟨by decide, by decide, by omega⟩
        refine s_retT g5 hn3 ha3 (z := .int ((u * 48271 + 11 * (t + 1)) ^ (3 : Int).toNat % 2147483629 / 8 % m)) (ev_op (ev_op (ev_op (ev_op (ev_cb (ea_cons (ev_op (ev_op (ev_var rfl .int) ev_int (rv_mul (mul_r (by omega)))) (ev_op ev_int (at2 rfl) (rv_mul (mul_l (by omega)))) rv_add) ea_nil) rc_int) ev_int (rv_pow pw2)) ev_int (rv_mod (by decide))) ev_int (rv_div (wide_div (b := 30) (by decide) (by decide) (by decide) (by decide)))) (ev_var rfl .int) (rv_mod (by omega))) fun G4 H4 g6 g7 _ => ?_
        exact q _ _ G4 H4 g7 ⟨g6.n _ _ ha3 hn3, c, mm, t + 1, g6.ex _ _ ha3, hc0, hm0, hmm, by omega, by show t + 1 + (n : Int) ≤ 1000000; omega⟩ ⟨_, rfl, Int.emod_nonneg _ (by omega), Int.emod_lt_of_pos _ (by omega)⟩ .int
end
end RW

namespace RW
open PySem PySem.Spec L2
abbrev s_law_mixed : Stmt := top 15
theorem sc_law_mixed : FnScope ["_law_spring_here", "_law_some", "_law_left", "_law_k"] ["_law_spring_here", "_law_some"] (defScope s_law_mixed) := ⟨rfl, rfl, rfl, by decide +kernel, rfl, by decide +kernel, by decide +kernel⟩
-- slots: 0:_law_spring_here 1:_law_some 2:_law_left 3:_law_k
abbrev s_law_w_names : Stmt := top 17
theorem sc_law_w_names : FnScope ["_law_spring_here", "_law_least", "_law_most", "_law_some"] ["_law_spring_here", "_law_least", "_law_most"] (defScope s_law_w_names) := ⟨rfl, rfl, rfl, by decide +kernel, rfl, by decide +kernel, by decide +kernel⟩
-- slots: 0:_law_spring_here 1:_law_least 2:_law_most 3:_law_some
section
variable {P : Program} {w : PySem.World} {K : PySem.W.Frag} {mg : Str → Option Value} {base : Heap}
abbrev DefDraw (P : Program) (w : PySem.World) (K : PySem.W.Frag) (mg : Str → Option Value) (base : Heap) : Prop := Def P w K mg base CX0 1 "_law_draw" ["_law_spring_here", "_law_many"] (spDraw K)
/-- one of the list's own values -/
def spPick (K : PySem.W.Frag) : Sp := fun vs H Q _ => ∃ (G : Hp) (a : Addr) (n : Nat) (l : Addr) (xs : List V), vs = [.ref a, .ref l] ∧ Sub G H ∧ SpAt a (n + 1) G H ∧ G l = some (.lst xs) ∧ xs ≠ [] ∧ xs.length ≤ 1000 ∧
  ∀ (r : Nat) (y : V) (G' H' : Hp), xs[r]? = some y → Gr (fun b => b = a) G H G' H' → SpAt a n G' H' → Q y H'
theorem ej_pick {K : PySem.W.Frag} {σ : L2.St} {G : Hp} {a : Addr} {E : XK} {i : Nat} {te : TE} {ds : List D} (h1 : ds ≠ []) (h2 : ds.length ≤ 1000) (hi : σ[i]? = some (some (.ref a))) (ha : Ev K te σ G (.l ds)) : EvJ K (Wsp K a) 1 (tCall (spPick K) [] E (tCons (tVar i) (tCons te tNil))) σ G (fun d => d ∈ ds) := fun n G1 H1 Q ex s j q =>
  ⟨.ref a, hi, ha G1 H1 _ ex s fun y G2 H2 g r => by
    obtain ⟨l, xs, rfl, hl, ra⟩ := r.lst_inv
    refine ⟨G2, a, n, l, xs, rfl, g.s, (Wsp K a).stab _ _ _ _ _ j g, hl, fun z => ?_, by rw [ra.length]; exact h2, fun r y G' H' hy g' j' => ?_⟩
    · subst z
      have := ra.length
      exact h1 (List.length_eq_zero_iff.mp this.symm)
    · have hr : r < ds.length := by
        rw [← ra.length]
        exact (List.getElem?_eq_some_iff.mp hy).1
      exact q y ds[r] G' H' (g.up.trans g') j' (List.getElem_mem hr) ((ra.get r y _ hy (List.getElem?_eq_getElem hr)).mono g'.g)⟩
theorem ej_draw {σ : L2.St} {G : Hp} {a : Addr} {E : XK} {i : Nat} {te : TE} (n : Int) (h1 : 1 ≤ n) (h2 : n ≤ 1000000) (hi : σ[i]? = some (some (.ref a))) (ha : Ev K te σ G (.v (.int n))) : EvJ K (Wsp K a) 1 (tCall (spDraw K) [] E (tCons (tVar i) (tCons te tNil))) σ G (fun d => ∃ r : Int, d = .v (.int r) ∧ 0 ≤ r ∧ r < n) :=
  ej_call (j := 0) (kk := 1) hi (eja_of (ea_cons ha ea_nil)) fun ds e => by
    subst e
    exact ⟨n, rfl, ⟨h1, h2⟩, Nat.le_refl _, fun d h => h⟩
theorem d_pick (T : Tp P K mg) {f : Addr} (D0 : TopD K mg "_law_pick" "_law_pick" s_law_pick ["_law_spring_here", "_law_some"] f) (d__law_draw : DefDraw P w K mg base) : Def P w K mg base CX0 2 "_law_pick" ["_law_spring_here", "_law_some"] (spPick K) :=
  def_of D0 fun fd F => by
    refine F.ok sc_law_pick (fun vs H Q E h => ?_) (fun cdv A outer s H vs Q E hr h => ?_)
    · obtain ⟨G, a, n, l, xs, rfl, _⟩ := h
      rfl
    · obtain ⟨G, a, n, l, xs, rfl, sb, sp, hl, hd1, hd2, q⟩ := h
      have hr__law_draw : Room 1 _ := hr
      refine ⟨_, (pss_one (ps_ret (pe_ix (kIx K) (pv 1) (pe_callD d__law_draw hr__law_draw pass0 (pa_cons (pv 0) (pa_cons (pe_callB (kLen K) rfl T.n_len PyProof.Rows.Boot.«len» (pa_cons (pv 1) pa_nil)) pa_nil))) (fun _ _ => rfl)))), ?_⟩
      have hpos : 0 < xs.length := List.length_pos_iff.mpr hd1
      refine ⟨.ref l, rfl, .ref a, rfl, .ref l, rfl, .inl ⟨l, xs, rfl, .inl (sql_of sb hl), ?_⟩⟩
      refine ⟨G, (xs.length : Nat), a, n, [.int (xs.length : Nat)], rfl, sb, sp, .cons .int .nil, ⟨by omega, by omega⟩, ?_⟩
      rintro y d G1 H1 g1 sp1 ⟨r, rfl, h0, h1⟩ ry
      obtain ⟨rfl, _⟩ := ry.v_inv
      have hi : r.toNat < xs.length := by omega
      have e1 : L2.atI xs r = some xs[r.toNat] := by
        have z := atI_nat (List.getElem?_eq_getElem hi)
        rw [Int.toNat_of_nonneg h0] at z
        exact z
      exact .inl ⟨l, xs, r, _, rfl, rfl, sql_of g1.s (g1.g _ _ hl), e1, q r.toNat _ G1 H1 (List.getElem?_eq_getElem hi) g1 sp1⟩
/-! ### the names, mixed -/
theorem erase_perm {α : Type} : ∀ (l : List α) (i : Nat) (h : i < l.length), (l[i] :: l.eraseIdx i).Perm l
  | x :: l, 0, h => .refl _
  | x :: l, i + 1, h => (List.Perm.swap x _ (l.eraseIdx i)).trans ((erase_perm l i (Nat.lt_of_succ_lt_succ h)).cons x)
abbrev spMixed (K : PySem.W.Frag) : Sp := spJ K (fun ds : List D => [.l ds]) (fun ds => ds.length ≤ 1000) (fun ds => ds.length) (fun ds d => ∃ es, d = .l es ∧ es.Perm ds)
theorem d_mixed (T : Tp P K mg) {f : Addr} (D0 : TopD K mg "_law_mixed" "_law_mixed" s_law_mixed ["_law_spring_here", "_law_some"] f) (d__law_draw : DefDraw P w K mg base) : Def P w K mg base CX0 2 "_law_mixed" ["_law_spring_here", "_law_some"] (spMixed K) :=
  def_of D0 fun fd F => by
    refine F.ok sc_law_mixed (fun vs H Q E h => ?_) (fun cdv A outer s H vs Q E hr h => ?_)
    · obtain ⟨G, x, a, n, ws, rfl, _, _, r, _⟩ := h
      rw [List.length_cons, r.length]
      rfl
    · obtain ⟨G, ds, a, n, ws, rfl, sb, sp, r, hd, q⟩ := h
      obtain ⟨x, rfl, rx⟩ := r.inv1
      have hr__law_draw : Room 1 _ := hr
      refine ⟨_, (pss_cons (ps_set (i := 2) sc_law_mixed.nd rfl (Or.inr rfl) (pe_callTy (kToL K) rfl T.n_list PyProof.Rows.Boot.«list» (pa_cons (pv 1) pa_nil)))
      (pss_one (ps_ret (pe_lc (own := [("_law_k", 3)]) (g := gName 3) (tt := tYes) rfl sc_law_mixed.nd (pi_range1 rfl T.n_range (pa_cons (pe_callB (kLen K) rfl T.n_len PyProof.Rows.Boot.«len» (pa_cons (pv 2) pa_nil)) pa_nil)) (blkOk_by (N := ["_law_spring_here", "_law_some", "_law_left", "_law_k"]) (sc := defScope s_law_mixed) (by decide +kernel)) (fun _ _ _ _ _ => (pg_name (i := 3) sc_law_mixed.nd rfl (Or.inl rfl))) (fun _ _ _ _ _ => pts_nil) (fun _ _ _ _ _ => (kPop K (pv 2) (pa_cons (pe_callD d__law_draw hr__law_draw pass0 (pa_cons (pv 0) (pa_cons (pe_callB (kLen K) rfl T.n_len PyProof.Rows.Boot.«len» (pa_cons (pv 2) pa_nil)) pa_nil))) pa_nil))))))), ?_⟩
      have gr0 : Gr (fun b => b = a) G H G H := Gr.refl sb
      refine q_asgToL gr0 (ev_var rfl rx) (.inl rfl) fun ys p G1 H1 g1 g2 hpG hp0 hp1 ra => ?_
      obtain ⟨hn, c, mm, t, ha, hrest⟩ := sp
      have hap : a ≠ p := ne_of_none ha hp0
      have sp1 : SpAt a (n + ds.length) G1 (upd H1 p (.lst ys)) := ⟨g1.n _ _ ha hn, c, mm, t, g1.ex _ _ ha, hrest⟩
      have hyl : ys.length = ds.length := ra.length
      have ex1 : RA K (upd G1 p (.lst ys)) ys ds := ra.mono (Ex.new hpG)
      refine te_lc (List.range ds.length) (fun i => D.v (.int (i : Nat))) (g2.weak (M' := fun b => b = a ∨ b = p) fun b z => .inl z) ?_ (srcAt_rngT g2.s hpG upd_same (ev_cb (ea_cons (ev_var rfl (R.lst upd_same ex1)) ea_nil) rc_lenL) (by omega)) (by rw [List.length_range]; omega)
        (fun i es G' H' => ∃ left zs, H' p = some (.lst zs) ∧ G' p = none ∧ RA K G' zs left ∧ left.length + i = ds.length ∧ (es ++ left).Perm ds ∧ SpAt a (n + left.length) G' H') ?_ ?_ ?_ ?_ ?_
      · rintro b (rfl | rfl)
        · obtain ⟨_, c, m, t, h, _⟩ := sp1
          exact ⟨_, h⟩
        · exact ⟨_, upd_same⟩
      · rintro i es Ga Ha Gb Hb ⟨left, zs, h1, h2, h3, h4, h5, h6⟩ g
        exact ⟨left, zs, g.ex _ _ h1, g.n _ _ h1 h2, h3.mono g.g, h4, h5, (Wsp K a).stab _ _ _ _ _ h6 g⟩
      · rintro Dl o i es Ga Ha hDl ⟨left, zs, h1, h2, h3, h4, h5, ⟨k1, c, m, t, k2, k3⟩⟩
        have d1 : p ≠ Dl := fun z => by
          rw [← z, upd_same] at hDl
          cases hDl
        have d2 : a ≠ Dl := fun z => by
          obtain ⟨_, c, m, t, h, _⟩ := sp1
          rw [← z, h] at hDl
          cases hDl
        exact ⟨left, zs, by rw [upd_ne d1]; exact h1, h2, h3, h4, h5, k1, c, m, t, by rw [upd_ne d2]; exact k2, k3⟩
      · intro G3 H3 g
        exact ⟨ds, ys, g.ex _ _ upd_same, g.n _ _ upd_same hpG, ra.mono g.g, rfl, .refl _, (Wsp K a).stab _ _ _ _ _ sp1 g⟩
      · rintro i k es G3 H3 y N hk e3 g3 ⟨left, zs, h1, h2, h3, h4, h5, h6⟩ ry hN
        have hi : i < ds.length := by
          have := (List.getElem?_eq_some_iff.mp hk).1
          rwa [List.length_range] at this
        have hll : 0 < left.length := by omega
        refine ⟨rfl, ?_⟩
        have hlen : ∀ {Q' : VK}, (∀ G4 H4, Gr M0 G3 H3 G4 H4 → Q' (.int (left.length : Nat)) H4) → (tCB (rLen K) (tCons (tVar 2) tNil)) ((wipe ((start ["_law_spring_here", "_law_some", "_law_left", "_law_k"] [.ref a, x]).set 2 (some (.ref p))) [3]).set 3 (some y)) H3 Q' := fun {Q'} q' =>
          ev_take (M := M0) (Gr.refl g3.s) h2 h1 (ev_cb (ea_cons (ev_var rfl (R.lst upd_same (h3.mono (Ex.new h2)))) ea_nil) rc_lenL) fun G4 H4 g _ _ => q' G4 H4 g
        refine ⟨.ref p, rfl, .inl ⟨rfl, zs, .inl (.inl h1)⟩, .ref a, rfl, ?_⟩
        refine hlen fun G4 H4 g4 => ?_
        have h6' : SpAt a (n + (left.length - 1) + 1) G4 H4 := (Wsp K a).le (by omega) ((Wsp K a).stab _ _ _ _ _ h6 g4)
        refine ⟨G4, (left.length : Nat), a, n + (left.length - 1), [.int (left.length : Nat)], rfl, g4.s, h6', .cons .int .nil, ⟨by omega, by omega⟩, ?_⟩
        rintro y' d' G5 H5 g5 sp5 ⟨r, rfl, hr0, hr1⟩ ry'
        obtain ⟨rfl, _⟩ := ry'.v_inv
        have hap' : p ≠ a := Ne.symm hap
        have g45 : Gr (fun b => b = a) G3 H3 G5 H5 := g4.up.trans g5
        have hz5 : H5 p = some (.lst zs) := g45.h _ _ hap' h1
        have hzl : zs.length = left.length := h3.length
        have hr2 : r.toNat < left.length := by omega
        have hrz : r.toNat < zs.length := by omega
        refine ⟨p, zs, r, r.toNat, zs[r.toNat], rfl, rfl, hz5, by omega, by omega, ?_, List.getElem?_eq_getElem hrz, ?_⟩
        · exact (ixN_seq (n := zs.length) (i := r) (j := r.toNat) (by unfold ixN; rw [if_pos hr0, if_pos (by omega)])).1
        · have hpG5 := g45.n _ _ h1 h2
          refine hN _ left[r.toNat] G5 _ ((g45.weak fun b z => .inl z).trans (Gr.write g5.s (.inr rfl) hpG5)) ⟨left.eraseIdx r.toNat, zs.eraseIdx r.toNat, upd_same, hpG5, (h3.mono g45.g).eraseIdx _, ?_, ?_, ?_⟩ ((h3.mono g45.g).get r.toNat _ _ (List.getElem?_eq_getElem hrz) (List.getElem?_eq_getElem hr2))
          · rw [List.length_eraseIdx_of_lt hr2]
            omega
          · refine List.Perm.trans ?_ h5
            rw [List.append_assoc]
            exact (erase_perm left r.toNat hr2).append_left es
          · rw [List.length_eraseIdx_of_lt hr2]
            obtain ⟨k1, c, m, t, k2, k3⟩ := sp5
            exact ⟨k1, c, m, t, by rw [upd_ne hap]; exact k2, k3⟩
      · rintro es y Gi G3 H3 g3 ⟨left, zs, h1, h2, h3, h4, h5, h6⟩ e3 hn3 ry
        rw [List.length_range] at h4
        have hl0 : left = [] := List.length_eq_zero_iff.mp (by omega)
        subst hl0
        rw [List.append_nil] at h5
        obtain ⟨k1, c, m, t, k2, k3⟩ := h6
        have ha0 : ∃ o, (upd H1 p (.lst ys)) a = some o := by
          obtain ⟨_, c, m, t, h, _⟩ := sp1
          exact ⟨_, h⟩
        obtain ⟨o, ha0⟩ := ha0
        exact q y (.l es) G3 H3 (g3.drop hp0) ⟨hn3 a o ha0 k1, c, m, t, k2, k3⟩ ⟨es, rfl, h5⟩ ry
def names17 : List Str := ["b", "aa", "c1", "zz", "h9", "eightlet", "m", "q7", "x", "d4", "k", "ab3", "a", "t0", "u", "w2", "y"]
def names20 : List Str := names17 ++ (["e5", "g", "n"] : List Str)
def tStrs : List Str → TA
  | [] => tNil
  | z :: r => tCons (tC (.str z)) (tStrs r)
theorem ea_strs {K : PySem.W.Frag} {σ : L2.St} {G : Hp} : ∀ ss : List Str, EvA K (tStrs ss) σ G (strD ss)
  | [] => ea_nil
  | _ :: r => ea_cons ev_str (ea_strs r)
/-- names drawn -/
structure NamesOk (ss : List Str) : Prop where
  nd : ss.Nodup
  ok : ∀ z ∈ ss, z ∈ names20
abbrev spNames (K : PySem.W.Frag) : Sp := spJ K (fun x : Nat × Nat => [.v (.int (x.1 : Nat)), .v (.int (x.2 : Nat))]) (fun x => x.1 ≤ x.2 ∧ x.2 ≤ 20) (fun _ => 21) (fun x d => ∃ ss, d = .l (strD ss) ∧ NamesOk ss ∧ x.1 ≤ ss.length ∧ ss.length ≤ x.2)
theorem perm_strs {ss : List Str} {es : List D} (h : es.Perm (strD ss)) : es = strD (strsOf es) ∧ (strsOf es).Perm ss := by
  constructor
  · have : ∀ l : List D, (∀ e ∈ l, e ∈ strD ss) → l = strD (strsOf l) := fun l => by
      induction l with
      | nil => intro _; rfl
      | cons e l ih =>
        intro hl
        have he := hl e (List.mem_cons_self ..)
        unfold strD at he
        obtain ⟨v, hv, rfl⟩ := List.mem_map.mp he
        obtain ⟨z, _, rfl⟩ := List.mem_map.mp hv
        have := ih fun x hx => hl x (List.mem_cons_of_mem _ hx)
        show D.v (.str z) :: l = D.v (.str z) :: strD (strsOf l)
        rw [← this]
    exact this es fun e he => h.subset he
  · have e2 : strsOf (strD ss) = ss := strsOf_strs
    have e3 : (strsOf es).Perm (strsOf (strD ss)) := h.filterMap _
    rw [e2] at e3
    exact e3
theorem d_names (T : Tp P K mg) {f : Addr} (D0 : TopD K mg "_law_w_names" "_law_w_names" s_law_w_names ["_law_spring_here", "_law_least", "_law_most"] f) (d__law_draw : DefDraw P w K mg base)
    (d__law_mixed : Def P w K mg base CX0 2 "_law_mixed" ["_law_spring_here", "_law_some"] (spMixed K)) : Def P w K mg base CX0 3 "_law_w_names" ["_law_spring_here", "_law_least", "_law_most"] (spNames K) :=
  def_of D0 fun fd F => by
    refine F.ok sc_law_w_names (fun vs H Q E h => ?_) (fun cdv A outer s H vs Q E hr h => ?_)
    · obtain ⟨G, x, a, n, ws, rfl, _, _, r, _⟩ := h
      rw [List.length_cons, r.length]
      rfl
    · obtain ⟨G, ⟨l, m⟩, a, n, ws, rfl, sb, sp, r, ⟨hlm, hm⟩, q⟩ := h
      obtain ⟨x, y, rfl, rx, ry⟩ := r.inv2
      have hr__law_draw : Room 1 _ := hr.mono (by decide)
      have hr__law_mixed : Room 2 _ := hr.mono (by decide)
      refine ⟨_, (pss_cons (ps_set (i := 3) sc_law_w_names.nd rfl (Or.inl rfl) (pe_lst (pa_cons pe_str (pa_cons pe_str (pa_cons pe_str (pa_cons pe_str (pa_cons pe_str (pa_cons pe_str (pa_cons pe_str (pa_cons pe_str (pa_cons pe_str (pa_cons pe_str (pa_cons pe_str (pa_cons pe_str (pa_cons pe_str (pa_cons pe_str (pa_cons pe_str (pa_cons pe_str (pa_cons pe_str pa_nil)))))))))))))))))))
      (pss_one (ps_ret (pe_slice (kSl K) (pe_callD d__law_mixed hr__law_mixed pass0 (pa_cons (pv 0) (pa_cons (pe_op (kAdd K) (pv 3) (pe_lst (pa_cons pe_str (pa_cons pe_str (pa_cons pe_str pa_nil))))) pa_nil))) po_none (po_some (pe_op (kAdd K) (pv 1) (pe_callD d__law_draw hr__law_draw pass0 (pa_cons (pv 0) (pa_cons (pe_op (kAdd K) (pe_op op_sub (pv 2) (pv 1)) pe_int) pa_nil))))))))), ?_⟩
      obtain ⟨rfl, _⟩ := rx.v_inv
      obtain ⟨rfl, _⟩ := ry.v_inv
      have gr0 : Gr (fun b => b = a) G H G H := Gr.refl sb
      refine q_asg gr0 (d := .l (strD names17)) (ev_lst (K := K) (ea_strs names17) (by decide)) fun y G1 H1 g1 g2 r1 => ?_
      have sp1 := (Wsp K a).stab _ _ _ _ _ sp g1
      have e20 : Ev K (tOp (rAdd K) (tVar 3) (tLst (tCons (tC (.str "e5")) (tCons (tC (.str "g")) (tCons (tC (.str "n")) tNil))))) [some (.ref a), some (.int (l : Nat)), some (.int (m : Nat)), some y] G1 (.l (strD names20)) :=
        ev_op (ev_var rfl r1) (ev_lst (ea_cons ev_str (ea_cons ev_str (ea_cons ev_str ea_nil))) (by decide)) (rv_cat (by decide))
      refine s_retJ (W := Wsp K a) (k := 20 + 1) (P := fun d => ∃ ss, d = .l (strD ss) ∧ NamesOk ss ∧ l ≤ ss.length ∧ ss.length ≤ m) g2 sp1 ?_ fun y d G1 H1 g j p r1 => q y d G1 H1 g j p r1
      refine ej_slTo (Pa := fun d => ∃ es, d = .l es ∧ es.Perm (strD names20)) (Pb := fun d => ∃ r : Int, d = .v (.int ((l : Nat) + r)) ∧ 0 ≤ r ∧ r < (m : Int) - l + 1) ?_ ?_ ?_
      · exact ej_call (j := 0) (kk := 20) rfl (eja_of (ea_cons e20 ea_nil)) fun ds e => by
          subst e
          exact ⟨strD names20, rfl, by decide, by decide, fun d h => h⟩
      · refine EvJ.imp (ej_op (k := 0) (j := 1) (P := fun d => ∃ r : Int, d = .v (.int ((l : Nat) + r)) ∧ 0 ≤ r ∧ r < (m : Int) - l + 1) (ej_of (ev_var rfl .int)) (ej_draw ((m : Int) - (l : Nat) + 1) (by omega) (by omega) rfl (ev_op (ev_op (ev_var rfl .int) (ev_var rfl .int) rv_sub) ev_int rv_add)) fun d e hd he => ?_) fun d h => h
        subst hd
        obtain ⟨r, rfl, h0, h1⟩ := he
        exact ⟨_, rv_add, r, rfl, h0, h1⟩
      · rintro d e ⟨es, rfl, hp⟩ ⟨r, rfl, h0, h1⟩
        obtain ⟨e1, e2⟩ := perm_strs hp
        refine ⟨_, rfl, _, rs_L, (strsOf es).take (l + r.toNat), ?_, ⟨?_, ?_⟩, ?_, ?_⟩
        · have : ((l : Nat) : Int) + r = ((l + r.toNat : Nat) : Int) := by omega
          rw [this, cut_to]
          exact congrArg D.l ((congrArg (List.take (l + r.toNat)) e1).trans (by unfold strD; rw [List.map_take, List.map_take]))
        · have nd20 : names20.Nodup := by decide +kernel
          exact (e2.nodup_iff.mpr nd20).sublist (List.take_sublist _ _)
        · exact fun z hz => e2.subset (List.mem_of_mem_take hz)
        · rw [List.length_take, e2.length_eq]
          show l ≤ min (l + r.toNat) 20
          omega
        · rw [List.length_take, e2.length_eq]
          show min (l + r.toNat) 20 ≤ m
          omega
end
end RW

namespace RW
open PySem PySem.Spec L2
abbrev s_law_is_name : Stmt := top 18
theorem sc_law_is_name : FnScope ["_law_thing", "_law_letters", "_law_sign"] ["_law_thing"] (defScope s_law_is_name) := ⟨rfl, rfl, rfl, by decide +kernel, rfl, by decide +kernel, by decide +kernel⟩
-- slots: 0:_law_thing 1:_law_letters 2:_law_sign
abbrev s_law_wrong : Stmt := top 19
theorem sc_law_wrong : FnScope ["_law_thing", "_law_index", "_law_one"] ["_law_thing"] (defScope s_law_wrong) := ⟨rfl, rfl, rfl, by decide +kernel, rfl, by decide +kernel, by decide +kernel⟩
-- slots: 0:_law_thing 1:_law_index 2:_law_one
abbrev s_law_same : Stmt := top 16
theorem sc_law_same : FnScope ["_law_found", "_law_due", "_law_one", "_law_other"] ["_law_found", "_law_due"] (defScope s_law_same) := ⟨rfl, rfl, rfl, by decide +kernel, rfl, by decide +kernel, by decide +kernel⟩
-- slots: 0:_law_found 1:_law_due 2:_law_one 3:_law_other
abbrev s_law_met : Stmt := top 20
theorem sc_law_met : FnScope ["_law_thing", "e"] ["_law_thing"] (defScope s_law_met) := ⟨rfl, rfl, rfl, by decide +kernel, rfl, by decide +kernel, by decide +kernel⟩
-- slots: 0:_law_thing 1:e
theorem sign_both (a : Nat) : decide (a ∈ (letters ++ (Str.ofString "0123456789")).cps.toList) = signOk a := by
  have e : (letters ++ (Str.ofString "0123456789")).cps.toList = letters.cps.toList ++ figures.cps.toList := by decide +kernel
  rw [e]
  unfold signOk
  rw [Bool.eq_iff_iff, Bool.or_eq_true, decide_eq_true_iff, decide_eq_true_iff, decide_eq_true_iff]
  exact List.mem_append
section
variable {P : Program} {w : PySem.World} {K : PySem.W.Frag} {mg : Str → Option Value} {base : Heap}
theorem d_law_is_name (T : Tp P K mg) {f : Addr} (D0 : TopD K mg "_law_is_name" "_law_is_name" s_law_is_name ["_law_thing"] f) : Def P w K mg base CX0 1 "_law_is_name" ["_law_thing"] (spP K (fun d : D => [d]) Bsc fun d => .v (.bl (isName d))) :=
  def_of D0 fun fd F => by
    refine F.ok sc_law_is_name (fun vs H Q E h => ?_) (fun cdv A outer s H vs Q E hr h => ?_)
    · obtain ⟨G, d, _, r, _⟩ := h
      rw [r.length]
      rfl
    · obtain ⟨G, d, sb, r, hd, q⟩ := h
      obtain ⟨x, rfl, rx0⟩ := r.inv1
      refine ⟨_, (pss_cons (ps_set (i := 1) sc_law_is_name.nd rfl (Or.inr rfl) pe_str)
      (pss_cons (ps_if (PW.pt (pw_or (pt_not (pt_val (pe_callB (kIs K) rfl T.n_isinstance PyProof.Rows.Boot.«isinstance» (pa_cons (pv 0) (pa_cons (pe_tyN rfl T.n_str PyProof.Rows.Boot.«str») pa_nil))))) (pw_or (pt_not (pt_chain op_le op_le pe_int (pe_callB (kLen K) rfl T.n_len PyProof.Rows.Boot.«len» (pa_cons (pv 0) pa_nil)) pe_int)) (pw_or1 (pt_cmpR (kNotIn K) (pe_ix (kIx K) (pv 0) pe_int (fun _ _ => rfl)) (pv 1) (by rfl)))))) (pss_one (ps_ret pe_bl)) pss_nil)
      (pss_one (ps_ret (pe_callB (kAll K) rfl T.n_all PyProof.Rows.Boot.«all» (pa_cons (pe_lc (own := [("_law_sign", 2)]) (g := gName 2) (tt := tYes) rfl sc_law_is_name.nd (pi_str (pv 0)) (blkOk_by (N := ["_law_thing", "_law_letters", "_law_sign"]) (sc := defScope s_law_is_name) (by decide +kernel)) (fun _ _ _ _ _ => (pg_name (i := 2) sc_law_is_name.nd rfl (Or.inl rfl))) (fun _ _ _ _ _ => pts_nil) (fun _ _ _ _ _ => (pe_cmpR (kIn K) (pv 2) (pe_op (kAdd K) (pv 1) pe_str) (by rfl)))) pa_nil)))))), ?_⟩
      refine q_asg (K := K) (Gr.refl (M := M0) sb) (d := .v (.str letters)) ev_str fun yL G0 H0 g0 gr0 rL => ?_
      obtain ⟨rfl, _⟩ := rL.v_inv
      have rx := rx0.mono g0.g
      have ea1 : EvT (tB (tCB (rIsD K) (tCons (tVar 0) (tCons (tC (.ty "str")) tNil)))) [some x, some (.str letters), none] G0 (isS d) := et_B (ev_cb (ea_cons (ev_var rfl rx) (ea_cons ev_ty ea_nil)) (isi_str hd))
      have no : isName d = false → ∀ G1 H1, Gr M0 G H G1 H1 → tRet (tC (.bl false)) { nx := fun _ H' => Q .non H', rt := Q } [some x, some (.str letters), none] H1 := fun e G1 H1 g1 => by
        refine s_ret (K := K) g1 ev_bl fun y G2 H2 g r1 => q y G2 H2 g ?_
        show R K G2 y (.v (.bl (isName d)))
        rw [e]
        exact r1
      cases hS : isS d with
      | false =>
        rw [hS] at ea1
        exact q_when (b := true) gr0 (et_orl (et_not ea1)) (fun _ G1 H1 g1 g2 => no (by
          cases d with
          | v y => cases y <;> first | rfl | cases hS
          | _ => rfl) G1 H1 g2) fun z => by cases z
      | true =>
        rw [hS] at ea1
        obtain ⟨z, rfl⟩ : ∃ z, d = .v (.str z) := by
          cases d with
          | v y => cases y <;> first | exact ⟨_, rfl⟩ | cases hS
          | _ => cases hS
        have hz : z.length ≤ 100000 := hd
        have ec : EvT (tTest (tChain (rI0 fun i j => .bl (decide (i ≤ j))) (rI0 fun i j => .bl (decide (i ≤ j))) (tC (.int 1)) (tCB (rLen K) (tCons (tVar 0) tNil)) (tC (.int 8)))) [some x, some (.str letters), none] G0 (decide ((1 : Int) ≤ (z.length : Nat)) && decide (((z.length : Nat) : Int) ≤ 8)) :=
          et_test (ev_chain ev_int (ev_cb (ea_cons (ev_var rfl rx) ea_nil) (rc_lenS hz)) rv_le (fun _ => ev_int) fun _ => rv_le)
        have e1 : (decide ((1 : Int) ≤ (z.length : Nat)) && decide (((z.length : Nat) : Int) ≤ 8)) = (decide (1 ≤ z.length) && decide (z.length ≤ 8)) := by
          congr 1 <;> (rw [decide_eq_decide]; omega)
        rw [e1] at ec
        cases hL : (decide (1 ≤ z.length) && decide (z.length ≤ 8)) with
        | false =>
          rw [hL] at ec
          exact q_when (b := true) gr0 (et_orr (et_not ea1) (et_orl (et_not ec))) (fun _ G1 H1 g1 g2 => no (by
            show nameOk z = false
            unfold nameOk
            rw [hL]
            rfl) G1 H1 g2) fun z => by cases z
        | true =>
          rw [hL] at ec
          have h1 : 1 ≤ z.length := of_decide_eq_true (Bool.and_eq_true_iff.mp hL).1
          cases hc : z.cps.toList with
          | nil =>
            have : z.length = 0 := by
              show z.cps.size = 0
              rw [← Array.length_toList, hc]
              rfl
            omega
          | cons c cs =>
            have ef : EvT (tTest (tOp (rNotInA K) (tOp (rIx K) (tVar 0) (tC (.int 0))) (tVar 1))) [some x, some (.str letters), none] G0 (!decide (c ∈ letters.cps.toList)) :=
              et_test (ev_op (ev_op (ev_var rfl rx) ev_int (rv_ix3 (rv_ixS (c := c) hz (by rw [hc]; exact atI_nat (j := 0) rfl)))) (ev_var rfl .str) rv_notSign)
            have hF : firstOk z = decide (c ∈ letters.cps.toList) := by
              unfold firstOk
              rw [hc]
            have hN : nameOk z = (firstOk z && z.cps.toList.all signOk) := by
              unfold nameOk
              rw [hL]
              rfl
            cases hd1 : decide (c ∈ letters.cps.toList) with
            | false =>
              rw [hd1] at ef
              exact q_when (b := true) gr0 (et_orr (et_not ea1) (et_orr (et_not ec) ef)) (fun _ G1 H1 g1 g2 => no (by
                show nameOk z = false
                rw [hN, hF, hd1]
                rfl) G1 H1 g2) fun z => by cases z
            | true =>
              rw [hd1] at ef
              refine q_when (b := false) gr0 (et_orr (et_not ea1) (et_orr (et_not ec) ef)) (fun z => by cases z) fun _ G1 H1 g1 g2 => ?_
              have rx1 := rx.mono g1.g
              have lz : z.cps.toList.length < 100000 := by
                have : z.cps.toList.length = z.length := by rw [Array.length_toList]; rfl
                have : z.length ≤ 8 := of_decide_eq_true (Bool.and_eq_true_iff.mp hL).2
                omega
              refine s_ret g2 (d := .v (.bl (isName (.v (.str z))))) (ev_is (ev_cb (ea_cons (ev_lcA z.cps.toList (fun c => .v (.str ⟨#[c]⟩)) (fun c => .v (.bl (signOk c))) (src_str (ev_var rfl rx1)) lz fun a ha y G2 ex ry => ?_) ea_nil) (rc_all' (bs := z.cps.toList.map signOk) (by rw [List.map_map]; rfl))) ?_) fun y G2 H2 g r1 => q y G2 H2 g r1
              · refine ⟨_, tg_name, rfl, ?_⟩
                refine ev_bool (ev_op (ev_var rfl ry) (ev_op (ev_var rfl .str) ev_str (rv_addS (by decide))) rv_sign) ?_
                exact sign_both a
              · show D.v (.bl _) = D.v (.bl (nameOk z))
                rw [hN, hF, hd1, Bool.true_and, List.all_map]
                rfl
/-! ### who is wrong, told by the law -/
def wrongD (d : D) : D := if isLT d = false then .v (.int 0) else match firstBad (seqOf d) with
  | some i => .v (.int (i : Nat))
  | none => if (seqOf d).length < 2 then .v (.int ((seqOf d).length : Nat)) else .v .non
abbrev DefLName (P : Program) (w : PySem.World) (K : PySem.W.Frag) (mg : Str → Option Value) (base : Heap) : Prop := Def P w K mg base CX0 1 "_law_is_name" ["_law_thing"] (spP K (fun d : D => [d]) Bsc fun d => .v (.bl (isName d)))
abbrev spWrong (K : PySem.W.Frag) : Sp := spP K (fun d : D => [d]) Wd wrongD
theorem d_wrong (T : Tp P K mg) {f : Addr} (D0 : TopD K mg "_law_wrong" "_law_wrong" s_law_wrong ["_law_thing"] f) (d__law_is_name : DefLName P w K mg base) : Def P w K mg base CX0 2 "_law_wrong" ["_law_thing"] (spWrong K) :=
  def_of D0 fun fd F => by
    refine F.ok sc_law_wrong (fun vs H Q E h => ?_) (fun cdv A outer s H vs Q E hr h => ?_)
    · obtain ⟨G, d, _, r, _⟩ := h
      rw [r.length]
      rfl
    · obtain ⟨G, d, sb, r, ⟨hb, hw⟩, q⟩ := h
      obtain ⟨x, rfl, rx⟩ := r.inv1
      have hr__law_is_name : Room 1 _ := hr
      refine ⟨_, (pss_cons (ps_if (pt_not (pt_val (pe_callB (kIs K) rfl T.n_isinstance PyProof.Rows.Boot.«isinstance» (pa_cons (pv 0) (pa_cons (pe_tup (pa_cons (pe_tyN rfl T.n_list PyProof.Rows.Boot.«list») (pa_cons (pe_tyN rfl T.n_tuple PyProof.Rows.Boot.«tuple») pa_nil))) pa_nil))))) (pss_one (ps_ret pe_int)) pss_nil)
      (pss_cons (ps_for PassesOwn.never rfl (kNum K rfl T.n_enumerate (pa_cons (pv 0) pa_nil)) (kgTup K (n := 2) (by rfl) (pgs_cons (pg_name (i := 1) sc_law_wrong.nd rfl (Or.inl rfl)) (pgs_cons (pg_name (i := 2) sc_law_wrong.nd rfl (Or.inl rfl)) pgs_nil))) (pss_one (ps_if (PW.pt (pw_or (pt_not (pt_val (pe_callD d__law_is_name hr__law_is_name pass0 (pa_cons (pv 2) pa_nil)))) (pw_or1 (pt_cmpR (kIn K) (pv 2) (pe_callTy (kToL K) rfl T.n_list PyProof.Rows.Boot.«list» (pa_cons (pe_slice (kSl K) (pv 0) po_none (po_some (pv 1))) pa_nil)) (by rfl))))) (pss_one (ps_ret (pv 1))) pss_nil)))
      (pss_one (ps_ret (pe_ifExp (pt_cmpR op_lt (pe_callB (kLen K) rfl T.n_len PyProof.Rows.Boot.«len» (pa_cons (pv 0) pa_nil)) pe_int (nomark _)) (pe_callB (kLen K) rfl T.n_len PyProof.Rows.Boot.«len» (pa_cons (pv 0) pa_nil)) pe_non))))), ?_⟩
      have gr0 : Gr M0 G H G H := Gr.refl sb
      have q : ∀ e, wrongD d = e → ∀ y G' H', Gr M0 G H G' H' → R K G' y e → Q y H' := fun e he y G' H' g r => q y G' H' g (he ▸ r)
      cases hL : isLT d with
      | false =>
        refine q_when (b := true) gr0 (et_not (et_B (ev_bool (ev_cb (ea_cons (ev_var rfl rx) (ea_cons (ev_tup (ea_cons ev_ty (ea_cons ev_ty ea_nil)) (by decide)) ea_nil)) (isi_LT hb)) hL))) (fun _ G1 H1 g1 g2 => ?_) fun z => by cases z
        exact s_ret (K := K) g2 ev_int fun y G2 H2 g r => q _ (by unfold wrongD; rw [if_pos hL]) y G2 H2 g r
      | true =>
        have sq := sq_of hL
        obtain ⟨hbs, hlen⟩ := hw hL
        refine q_when (b := false) gr0 (et_not (et_B (ev_bool (ev_cb (ea_cons (ev_var rfl rx) (ea_cons (ev_tup (ea_cons ev_ty (ea_cons ev_ty ea_nil)) (by decide)) ea_nil)) (isi_LT hb)) hL))) (fun z => by cases z) fun _ G1 H1 g1 g2 => ?_
        generalize hds : seqOf d = ds at *
        have rx1 := rx.mono g1.g
        refine q_for (numbered ds) g2 (src_num sq (ea_cons (ev_var rfl rx1) ea_nil)) (fun i σ' G' H' => (∃ x1 x2, σ' = [some x, x1, x2]) ∧ ∀ j, j < i → badAt ds j = false)
          (fun i σ' Ga Ha Gb Hb h _ => h) (fun G2 H2 g => ⟨⟨none, none, rfl⟩, fun j hj => by omega⟩) ?_ ?_
        · intro i dI σ1 G2 H2 y N hd ex2 g3 iv ry hN
          obtain ⟨⟨x1, x2, rfl⟩, h4⟩ := iv
          obtain ⟨e, he, rfl⟩ := numbered_inv hd
          obtain ⟨u, v, ru, rv, tg⟩ := tg_pair (σ := [some x, x1, x2]) (i := 1) (j := 2) ry
          refine tg H2 _ g3.s ?_
          have hi : i < ds.length := (List.getElem?_eq_some_iff.mp he).1
          have hbe : Bsc e := hbs e (List.mem_of_getElem? he)
          have rx2 := rx1.mono ex2
          obtain ⟨rfl, _⟩ := ru.v_inv
          have hbad : badAt ds i = (!isName e || memD e (ds.take i)) := by
            unfold badAt
            rw [he]
          have bad : badAt ds i = true → ∀ (D'' : Ends) G3 H3, D''.rt = Q → Gr M0 G H G3 H3 → tRet (tVar 1) D'' [some x, some (.int (i : Nat)), some v] H3 := fun hb D'' G3 H3 hD g =>
            s_ret (K := K) g (ev_var rfl .int) fun y G4 H4 g r => by
              rw [hD]
              refine q (.v (.int (i : Nat))) ?_ y G4 H4 g r
              unfold wrongD
              rw [hL, hds, firstBad_some h4 hb]
              rfl
          cases hN1 : isName e with
          | false =>
            exact s_when (b := true) g3 (et_orl (et_not (et_B (ev_bool (ev_call e (ea_cons (ev_var rfl rv) ea_nil) hbe) hN1)))) (fun _ G3 H3 _ g => bad (by rw [hbad, hN1]; rfl) _ G3 H3 rfl g) fun z => by cases z
          | true =>
            obtain ⟨z, rfl, hz⟩ := isName_str hN1
            obtain ⟨ss, hsl, hss, _⟩ := names_of h4 (Nat.le_of_lt hi)
            obtain ⟨c, sqc, evc⟩ := ev_cut (tl := tNoPart) (th := tPart (tVar 1)) (σ := [some x, some (.int (i : Nat)), some v]) (te := tVar 0) sq (ev_var rfl rx2) eo_none (eo_some (K := K) (i := (i : Nat)) (ev_var rfl .int))
            rw [cut_to, hss] at sqc
            have et : EvT (tTest (tOp (rInA K) (tVar 2) (tCB (rToL K) (tCons (tSl (rSlA' K) (tVar 0) tNoPart (tPart (tVar 1))) tNil)))) [some x, some (.int (i : Nat)), some v] G2 (memD (.v (.str z)) (ds.take i)) := by
              refine et_test (ev_bool (ev_op (ev_var rfl rv) (ev_cb (ea_cons evc ea_nil) (rc_toLQ sqc)) (rv_inQ (.inl rfl) rfl (by simp [flatV]))) ?_)
              rw [inV_str, hss, memD_strs]
            have e1 : badAt ds i = memD (.v (.str z)) (ds.take i) := by rw [hbad, hN1]; rfl
            refine s_when (b := badAt ds i) g3 (et_orr (et_not (et_B (ev_bool (ev_call (D.v (.str z)) (ea_cons (ev_var rfl rv) ea_nil) hbe) hN1))) (et_is et e1.symm)) (fun hb G3 H3 _ g => bad hb _ G3 H3 rfl g) fun hb G3 H3 gx g => ?_
            exact hN _ G3 H3 gx.g g ⟨⟨_, _, rfl⟩, fun j hj => by
              by_cases hj' : j < i
              · exact h4 j hj'
              · have : j = i := by omega
                rw [this]
                exact hb⟩
        · intro σ1 G2 H2 ex2 g3 iv
          obtain ⟨⟨x1, x2, rfl⟩, h4⟩ := iv
          rw [numbered_len] at h4
          have rx2 := rx1.mono ex2
          have hfb := firstBad_none h4
          have lt : EvT (tTest (tOp (rI0 fun i j => .bl (decide (i < j))) (tCB (rLen K) (tCons (tVar 0) tNil)) (tC (.int 2)))) [some x, x1, x2] G2 (decide (((ds.length : Nat) : Int) < 2)) := et_test (ev_op (ev_cb (ea_cons (ev_var rfl rx2) ea_nil) (rc_lenQ sq)) ev_int rv_lt)
          by_cases h2 : ds.length < 2
          · have e1 : decide (((ds.length : Nat) : Int) < 2) = true := decide_eq_true (by omega)
            rw [e1] at lt
            refine s_ret (K := K) g3 (ev_if lt (fun _ => ev_cb (ea_cons (ev_var rfl rx2) ea_nil) (rc_lenQ sq)) fun z => by cases z) fun y G3 H3 g r => q _ ?_ y G3 H3 g r
            unfold wrongD
            rw [hL, hds, hfb]
            exact if_pos h2
          · have e1 : decide (((ds.length : Nat) : Int) < 2) = false := decide_eq_false (by omega)
            rw [e1] at lt
            refine s_ret (K := K) g3 (ev_if lt (fun z => by cases z) fun _ => ev_non) fun y G3 H3 g r => q _ ?_ y G3 H3 g r
            unfold wrongD
            rw [hL, hds, hfb]
            exact if_neg h2
/-! ### the same -/
def Leaf : V → Prop
  | .non => True
  | .bl _ => True
  | .int _ => True
  | .str z => z.length ≤ 100000
  | _ => False
def Dat : Nat → D → Prop
  | _, .v y => Leaf y
  | n + 1, .l ds => ds.length ≤ 1000 ∧ ∀ e ∈ ds, Dat n e
  | n + 1, .t ds => ds.length ≤ 1000 ∧ ∀ e ∈ ds, Dat n e
  | _, _ => False
theorem Dat.bsc {n : Nat} {d : D} (h : Dat n d) : Bsc d := by
  cases d with
  | v y => cases n <;> (cases y <;> first | exact h | exact True.intro)
  | l ds => exact True.intro
  | t ds => exact True.intro
  | d ds => exact True.intro
  | dt ds => exact True.intro
  | _ => cases n <;> exact h
def spSame (K : PySem.W.Frag) : Nat → Sp
  | 0 => spNo
  | n + 1 => spP K (fun d : D => [d, d]) (Dat n) fun _ => .v (.bl true)
abbrev DefSame (P : Program) (w : PySem.World) (K : PySem.W.Frag) (mg : Str → Option Value) (base : Heap) (n : Nat) : Prop := Def P w K mg base CX0 n "_law_same" ["_law_found", "_law_due"] (spSame K n)
theorem isi_elist {K : PySem.W.Frag} {n : Nat} {d : D} (h : Dat n d) : ∃ b, RC K (rIsD K) [d, .x (.ty "list")] (.v (.bl b)) := by
  cases d with
  | v y => cases y <;> first | exact ⟨_, isi_1 (b := false) rfl (by decide +kernel)⟩ | exact ⟨_, isi_1 (b := true) rfl (by decide +kernel)⟩ | (cases n <;> exact h.elim)
  | l ds => first | exact ⟨_, isi_1 (b := false) rfl (by decide +kernel)⟩ | exact ⟨_, isi_1 (b := true) rfl (by decide +kernel)⟩
  | t ds => first | exact ⟨_, isi_1 (b := false) rfl (by decide +kernel)⟩ | exact ⟨_, isi_1 (b := true) rfl (by decide +kernel)⟩
  | _ => cases n <;> exact h.elim
theorem isi_etuple {K : PySem.W.Frag} {n : Nat} {d : D} (h : Dat n d) : ∃ b, RC K (rIsD K) [d, .x (.ty "tuple")] (.v (.bl b)) := by
  cases d with
  | v y => cases y <;> first | exact ⟨_, isi_1 (b := false) rfl (by decide +kernel)⟩ | exact ⟨_, isi_1 (b := true) rfl (by decide +kernel)⟩ | (cases n <;> exact h.elim)
  | l ds => first | exact ⟨_, isi_1 (b := false) rfl (by decide +kernel)⟩ | exact ⟨_, isi_1 (b := true) rfl (by decide +kernel)⟩
  | t ds => first | exact ⟨_, isi_1 (b := false) rfl (by decide +kernel)⟩ | exact ⟨_, isi_1 (b := true) rfl (by decide +kernel)⟩
  | _ => cases n <;> exact h.elim
theorem isi_ebool {K : PySem.W.Frag} {n : Nat} {d : D} (h : Dat n d) : ∃ b, RC K (rIsD K) [d, .x (.ty "bool")] (.v (.bl b)) := by
  cases d with
  | v y => cases y <;> first | exact ⟨_, isi_1 (b := false) rfl (by decide +kernel)⟩ | exact ⟨_, isi_1 (b := true) rfl (by decide +kernel)⟩ | (cases n <;> exact h.elim)
  | l ds => first | exact ⟨_, isi_1 (b := false) rfl (by decide +kernel)⟩ | exact ⟨_, isi_1 (b := true) rfl (by decide +kernel)⟩
  | t ds => first | exact ⟨_, isi_1 (b := false) rfl (by decide +kernel)⟩ | exact ⟨_, isi_1 (b := true) rfl (by decide +kernel)⟩
  | _ => cases n <;> exact h.elim
theorem isi_no {K : PySem.W.Frag} {n : Nat} {d : D} (h : Dat n d) : RC K (rIsD K) [d, .x (.ty "dict")] (.v (.bl false)) := by
  cases d with
  | v y => cases y <;> first | exact isi_1 (b := false) rfl (by decide +kernel) | (cases n <;> exact h.elim)
  | l ds => exact isi_1 (b := false) rfl (by decide +kernel)
  | t ds => exact isi_1 (b := false) rfl (by decide +kernel)
  | _ => cases n <;> exact h.elim
theorem rv_neB {K : PySem.W.Frag} {b : Bool} : RV K rNe (.v (.bl b)) (.v (.bl b)) (.v (.bl false)) := by
  have z := rv_ne (K := K) (x := .bl b) (y := .bl b) rfl
  rw [decide_eq_true rfl] at z
  exact z
theorem d_same (T : Tp P K mg) {f : Addr} (D0 : TopD K mg "_law_same" "_law_same" s_law_same ["_law_found", "_law_due"] f) : ∀ n, DefSame P w K mg base n
  | 0 => def_of D0 fun fd F => ok_no
  | n + 1 => def_of D0 fun fd F => by
    have d__law_same : DefSame P w K mg base n := d_same T D0 n
    refine F.ok sc_law_same (fun vs H Q E h => ?_) (fun cdv A outer s H vs Q E hr h => ?_)
    · obtain ⟨G, d, _, r, _⟩ := h
      rw [r.length]
      rfl
    · obtain ⟨G, d, sb, r, hd, q⟩ := h
      obtain ⟨x, y, rfl, rx, ry⟩ := r.inv2
      have hr__law_same : Room n _ := hr
      refine ⟨_, (pss_cons (ps_if (pt_val (pe_callB (kIs K) rfl T.n_isinstance PyProof.Rows.Boot.«isinstance» (pa_cons (pv 1) (pa_cons (pe_tyN rfl T.n_dict PyProof.Rows.Boot.«dict») pa_nil)))) pss_never pss_nil)
      (pss_cons (ps_if (pt_val (pe_callB (kIs K) rfl T.n_isinstance PyProof.Rows.Boot.«isinstance» (pa_cons (pv 1) (pa_cons (pe_tup (pa_cons (pe_tyN rfl T.n_list PyProof.Rows.Boot.«list») (pa_cons (pe_tyN rfl T.n_tuple PyProof.Rows.Boot.«tuple») pa_nil))) pa_nil)))) (pss_cons (ps_if (PW.pt (pw_or (pt_cmpR op_ne (pe_callB (kIs K) rfl T.n_isinstance PyProof.Rows.Boot.«isinstance» (pa_cons (pv 0) (pa_cons (pe_tyN rfl T.n_list PyProof.Rows.Boot.«list») pa_nil))) (pe_callB (kIs K) rfl T.n_isinstance PyProof.Rows.Boot.«isinstance» (pa_cons (pv 1) (pa_cons (pe_tyN rfl T.n_list PyProof.Rows.Boot.«list») pa_nil))) (nomark _)) (pw_or1 (pt_cmpR op_ne (pe_callB (kIs K) rfl T.n_isinstance PyProof.Rows.Boot.«isinstance» (pa_cons (pv 0) (pa_cons (pe_tyN rfl T.n_tuple PyProof.Rows.Boot.«tuple») pa_nil))) (pe_callB (kIs K) rfl T.n_isinstance PyProof.Rows.Boot.«isinstance» (pa_cons (pv 1) (pa_cons (pe_tyN rfl T.n_tuple PyProof.Rows.Boot.«tuple») pa_nil))) (nomark _))))) (pss_one (ps_ret pe_bl)) pss_nil)
      (pss_one (ps_ret (pe_and (pe_cmpR op_eq (pe_callB (kLen K) rfl T.n_len PyProof.Rows.Boot.«len» (pa_cons (pv 0) pa_nil)) (pe_callB (kLen K) rfl T.n_len PyProof.Rows.Boot.«len» (pa_cons (pv 1) pa_nil)) (nomark _)) (pe_one (pe_callB (kAll K) rfl T.n_all PyProof.Rows.Boot.«all» (pa_cons (pe_lc (own := [("_law_one", 2), ("_law_other", 3)]) (g := gTup K 2 (gCons (gName 2) (gCons (gName 3) gNil))) (tt := tYes) rfl sc_law_same.nd (kZip K rfl T.n_zip (pa_cons (pv 0) (pa_cons (pv 1) pa_nil))) (blkOk_by (N := ["_law_found", "_law_due", "_law_one", "_law_other"]) (sc := defScope s_law_same) (by decide +kernel)) (fun _ _ _ _ _ => (kgTup K (n := 2) (by rfl) (pgs_cons (pg_name (i := 2) sc_law_same.nd rfl (Or.inl rfl)) (pgs_cons (pg_name (i := 3) sc_law_same.nd rfl (Or.inl rfl)) pgs_nil)))) (fun _ _ _ _ _ => pts_nil) (fun _ _ _ _ _ => (pe_callD d__law_same hr__law_same pass0 (pa_cons (pv 2) (pa_cons (pv 3) pa_nil))))) pa_nil))))))) pss_nil)
      (pss_cons (ps_if (PW.pt (pw_or (pt_val (pe_callB (kIs K) rfl T.n_isinstance PyProof.Rows.Boot.«isinstance» (pa_cons (pv 0) (pa_cons (pe_tup (pa_cons (pe_tyN rfl T.n_dict PyProof.Rows.Boot.«dict») (pa_cons (pe_tyN rfl T.n_list PyProof.Rows.Boot.«list») (pa_cons (pe_tyN rfl T.n_tuple PyProof.Rows.Boot.«tuple») pa_nil)))) pa_nil)))) (pw_or1 (pt_cmpR op_ne (pe_callB (kIs K) rfl T.n_isinstance PyProof.Rows.Boot.«isinstance» (pa_cons (pv 0) (pa_cons (pe_tyN rfl T.n_bool PyProof.Rows.Boot.«bool») pa_nil))) (pe_callB (kIs K) rfl T.n_isinstance PyProof.Rows.Boot.«isinstance» (pa_cons (pv 1) (pa_cons (pe_tyN rfl T.n_bool PyProof.Rows.Boot.«bool») pa_nil))) (nomark _))))) (pss_one (ps_ret pe_bl)) pss_nil)
      (pss_one (ps_ret (pe_cmpR op_eq (pv 0) (pv 1) (nomark _))))))), ?_⟩
      have gr0 : Gr M0 G H G H := Gr.refl sb
      refine q_when (b := false) gr0 (et_B (ev_cb (ea_cons (ev_var rfl ry) (ea_cons ev_ty ea_nil)) (isi_no hd))) (fun z => by cases z) fun _ G1 H1 g1 g2 => ?_
      have rx1 := rx.mono g1.g
      have ry1 := ry.mono g1.g
      have eLT : EvT (tB (tCB (rIsD K) (tCons (tVar 1) (tCons (tTup (tCons (tC (.ty "list")) (tCons (tC (.ty "tuple")) tNil))) tNil)))) (start ["_law_found", "_law_due", "_law_one", "_law_other"] [x, y]) G1 (isLT d) := et_B (ev_cb (ea_cons (ev_var rfl ry1) (ea_cons (ev_tup (ea_cons ev_ty (ea_cons ev_ty ea_nil)) (by decide)) ea_nil)) (isi_LT hd.bsc))
      have ne : ∀ {G' : Hp} (c : String) {b : Bool}, Ex G1 G' → RC K (rIsD K) [d, .x (.ty c)] (.v (.bl b)) → EvT (tTest (tOp rNe (tCB (rIsD K) (tCons (tVar 0) (tCons (tC (.ty c)) tNil))) (tCB (rIsD K) (tCons (tVar 1) (tCons (tC (.ty c)) tNil))))) (start ["_law_found", "_law_due", "_law_one", "_law_other"] [x, y]) G' false := fun {G'} c {b} e h =>
        et_test (ev_op (ev_cb (ea_cons (ev_var rfl (rx1.mono e)) (ea_cons ev_ty ea_nil)) h) (ev_cb (ea_cons (ev_var rfl (ry1.mono e)) (ea_cons ev_ty ea_nil)) h) rv_neB)
      have q : ∀ y G' H', Gr M0 G H G' H' → R K G' y (.v (.bl true)) → Q y H' := q
      cases hL : isLT d with
      | true =>
        rw [hL] at eLT
        refine q_when (b := true) g2 eLT (fun _ G2 H2 g3 g4 => ?_) fun z => by cases z
        obtain ⟨b1, hb1⟩ := isi_elist (K := K) hd
        obtain ⟨b2, hb2⟩ := isi_etuple (K := K) hd
        refine q_when (b := false) g4 (et_orr (ne "list" g3.g hb1) (ne "tuple" g3.g hb2)) (fun z => by cases z) fun _ G3 H3 g5 g6 => ?_
        have e13 : Ex G1 G3 := g3.g.trans g5.g
        have rx3 := rx1.mono e13
        have ry3 := ry1.mono e13
        have sq := sq_of hL
        have fin : ∀ (nx : L2.St → Hp → Prop) (ds : List D), Sq d ds → ds.length ≤ 1000 → (∀ e ∈ ds, spSame K n = spP K (fun d : D => [d, d]) (Dat (n - 1)) (fun _ => .v (.bl true)) ∧ Dat (n - 1) e) → Src K (RZ.iZipA K (tCons (tVar 0) (tCons (tVar 1) tNil))) (start ["_law_found", "_law_due", "_law_one", "_law_other"] [x, y]) G3 (pairs ds ds) →
            tRet (tAndV (tOp rEq (tCB (rLen K) (tCons (tVar 0) tNil)) (tCB (rLen K) (tCons (tVar 1) tNil))) (tCB (rAll K) (tCons (tLc (RZ.iZipA K (tCons (tVar 0) (tCons (tVar 1) tNil))) (gTup K 2 (gCons (gName 2) (gCons (gName 3) gNil))) tYes (tCall (spSame K n) [] E0 (tCons (tVar 2) (tCons (tVar 3) tNil))) [2, 3]) tNil))) { nx := nx, rt := Q } (start ["_law_found", "_law_due", "_law_one", "_law_other"] [x, y]) H3 := fun nx ds sq hl hds src => by
          have el : Ev K (tOp rEq (tCB (rLen K) (tCons (tVar 0) tNil)) (tCB (rLen K) (tCons (tVar 1) tNil))) (start ["_law_found", "_law_due", "_law_one", "_law_other"] [x, y]) G3 (.v (.bl true)) :=
            ev_bool (ev_op (ev_cb (ea_cons (ev_var rfl rx3) ea_nil) (rc_lenQ sq)) (ev_cb (ea_cons (ev_var rfl ry3) ea_nil) (rc_lenQ sq)) (rv_eq rfl)) (decide_eq_true rfl)
          have e2 : pairs ds ds = ds.map fun e => D.t [e, e] := by
            unfold pairs
            rw [List.zipWith_self]
          rw [e2] at src
          refine s_ret (K := K) (d := .v (.bl true)) g6 (ev_andr el (ev_bool (ev_cb (ea_cons (ev_lcA ds (fun e => D.t [e, e]) (fun _ => .v (.bl true)) src (by omega) fun e he yy G4 ex4 ryy => ?_) ea_nil) (rc_all' (bs := ds.map fun _ => true) (by rw [List.map_map]; rfl))) (by rw [List.all_map]; simp))) fun yy G4 H4 g r => q yy G4 H4 g r
          obtain ⟨u, v, ru, rv, tg⟩ := tg_pair (σ := wipe (start ["_law_found", "_law_due", "_law_one", "_law_other"] [x, y]) [2, 3]) (i := 2) (j := 3) ryy
          obtain ⟨es, hde⟩ := hds e he
          refine ⟨_, tg, rfl, ?_⟩
          rw [es]
          exact ev_call e (ea_cons (ev_var rfl ru) (ea_cons (ev_var rfl rv) ea_nil)) hde
        cases n with
        | zero =>
          cases d with
          | v y => cases hL
          | _ => exact hd.elim
        | succ m =>
          cases d with
          | l ds => exact fin _ ds sq hd.1 (fun e he => ⟨rfl, hd.2 e he⟩) (src_zipL (ea_cons (ev_var rfl rx3) (ea_cons (ev_var rfl ry3) ea_nil)))
          | t ds => exact fin _ ds sq hd.1 (fun e he => ⟨rfl, hd.2 e he⟩) (src_zipT (ea_cons (ev_var rfl rx3) (ea_cons (ev_var rfl ry3) ea_nil)))
          | v y => cases hL
          | _ => exact hd.elim
      | false =>
        rw [hL] at eLT
        refine q_when (b := false) g2 eLT (fun z => by cases z) fun _ G2 H2 g3 g4 => ?_
        obtain ⟨b3, hb3⟩ := isi_ebool (K := K) hd
        obtain ⟨z, rfl, hz⟩ : ∃ z, d = .v z ∧ Leaf z := by
          cases d with
          | v z => exact ⟨z, rfl, by cases n <;> exact hd⟩
          | l ds => cases hL
          | t ds => cases hL
          | _ => cases n <;> exact hd.elim
        have e0 : RC K (rIsD K) [.v z, .t [.x (.ty "dict"), .x (.ty "list"), .x (.ty "tuple")]] (.v (.bl false)) := by
          cases z <;> first | exact isi_N ["dict", "list", "tuple"] (b := false) rfl (by decide +kernel) | exact hz.elim
        refine q_when (b := false) g4 (et_orr (et_B (ev_cb (ea_cons (ev_var rfl (rx1.mono g3.g)) (ea_cons (ev_tup (ea_cons ev_ty (ea_cons ev_ty (ea_cons ev_ty ea_nil))) (by decide)) ea_nil)) e0)) (ne "bool" g3.g hb3)) (fun z => by cases z) fun _ G3 H3 g5 g6 => ?_
        have e13 : Ex G1 G3 := g3.g.trans g5.g
        have hsc : scal z z = true := by cases z <;> first | rfl | exact hz.elim
        refine s_ret (K := K) (d := .v (.bl true)) g6 (ev_bool (ev_op (ev_var rfl (rx1.mono e13)) (ev_var rfl (ry1.mono e13)) (rv_eq hsc)) (decide_eq_true rfl)) fun yy G4 H4 g r => q yy G4 H4 g r
end
end RW

namespace RW
open PySem PySem.Spec L2
section
variable {P : Program} {w : PySem.World} {K : PySem.W.Frag} {mg : Str → Option Value} {base : Heap}
/-! ### met -/
def metD (d : D) : D := match wrongD d with
  | .v .non => .t [.v (.str "told"), .l (seqOf d)]
  | e => .t [.v (.str "wrong"), e]
abbrev spMet (K : PySem.W.Frag) : Sp := spP K (fun d : D => [d]) Wd metD
abbrev spPath (K : PySem.W.Frag) (CP CB : Addr) : Sp := spInit K CP (fun d : D => [d]) Wd (pathRes CB)
def InitP (T : Tp P K mg) (w : PySem.World) (base : Heap) : Prop := ∃ fd, FnOk P w K mg base (L2.CX P w) 3 T.aI fd ["self", "walkers"] (spPath K T.CP T.CB) ∧ Binds K fd ["self", "walkers"] [] ∧ KBn K fd ["self", "walkers"] 1 ["walkers"] (fun us ws => us ++ ws) (fun us ws => us ++ ws)
def MethW (T : Tp P K mg) (w : PySem.World) (base : Heap) : Prop := ∃ fd, FnOk P w K mg base CX0 1 T.aW fd ["self"] (spWalkersN K T.CP) ∧ Binds K fd ["self"] []
theorem res_cases (T : Tp P K mg) {d : D} (hb : Bsc d) : (∃ n, pathRes T.CB d = .inr (T.CB, idx n) ∧ wrongD d = .v (.int (n : Nat))) ∨ (∃ ss, pathRes T.CB d = .inl (pathF (strD ss)) ∧ wrongD d = .v .non ∧ seqOf d = strD ss ∧ ss.Nodup ∧ (∀ z ∈ ss, nameOk z = true) ∧ 2 ≤ ss.length) := by
  unfold pathRes wrongD
  cases hL : isLT d with
  | false => exact .inl ⟨0, rfl, rfl⟩
  | true =>
    cases hf : firstBad (seqOf d) with
    | some i => exact .inl ⟨i, rfl, rfl⟩
    | none =>
      by_cases h2 : (seqOf d).length < 2
      · exact .inl ⟨(seqOf d).length, if_pos h2, if_pos h2⟩
      · refine .inr ?_
        have h4 : ∀ j, j < (seqOf d).length → badAt (seqOf d) j = false := fun j hj => by
          unfold firstBad at hf
          rw [List.find?_eq_none] at hf
          have := hf j (List.mem_range.mpr hj)
          simpa using this
        obtain ⟨ss, hsl, hss, hok⟩ := names_of h4 (Nat.le_refl _)
        rw [List.take_length] at hss
        refine ⟨ss, ?_, if_neg h2, hss, nodup_of h4 hss, hok, by omega⟩
        rw [← show seqOf d = strD ss from hss]
        exact if_neg h2
theorem d_met (T : Tp P K mg) {f : Addr} (D0 : TopD K mg "_law_met" "_law_met" s_law_met ["_law_thing"] f) (hI : InitP T w base) (hW : MethW T w base) : Def P w K mg base CX0 5 "_law_met" ["_law_thing"] (spMet K) :=
  def_of D0 fun fd F => by
    obtain ⟨fdI, FI, bI, _⟩ := hI
    obtain ⟨fdW, FWN, bW⟩ := hW
    have FW := ok_walkers T FWN
    refine F.ok sc_law_met (fun vs H Q E h => ?_) (fun cdv A outer s H vs Q E hr h => ?_)
    · obtain ⟨G, d, _, r, _⟩ := h
      rw [r.length]
      rfl
    · obtain ⟨G, d, sb, r, hd, q⟩ := h
      obtain ⟨x, rfl, rx⟩ := r.inv1
      have hr1 : Room 1 _ := hr.mono (by decide)
      refine ⟨_, pss_one (ps_try_as (i := 1) (tb := fun W => tRet (tTup (tCons (tC (.str "told")) (tCons (tMeth T.CP "walkers" (spWalkers K T.CP) [] E0 (tMakeS T.CP (spPath K T.CP T.CB) (WE W) (tCons (tVar 0) tNil)) tNil) tNil))))
        (ts := fun a cls d => tRet (tTup (tCons (tC (.str "wrong")) (tCons (tXf a cls d T.CB "index" (tVar 1)) tNil)))) (Wout := fun _ _ _ _ => False) rfl rfl sc_law_met.nd rfl rfl ⟨rfl, by decide, Or.inl T.bad_BadWalkers.gC⟩ takes0
        (fun W pn xe tk _ => pss_one (ps_ret (by exact (pe_tup (pa_cons pe_str (pa_cons (pe_meth0 (pe_makeS T.mk_Path FI hr T.g_Path bI (fun σ => passAt tk σ) (pa_cons (pv 0) pa_nil)) T.eqP.cl T.mt_walkers FW hr1 bW .nil pass0) pa_nil))))))
        (fun a oe cls d pn hz hf => pss_one (ps_ret (by exact (pe_tup (pa_cons pe_str (pa_cons (pe_xf ⟨T.bad_BadWalkers.ga, T.bad_BadWalkers.gg, T.bad_BadWalkers.exC, T.bad_BadWalkers.hdC⟩ T.bad_BadWalkers.noN hz hf (pv 1)) pa_nil))))))), ?_⟩
      have q : ∀ e, metD d = e → ∀ y G' H', Gr M0 G H G' H' → R K G' y e → Q y H' := fun e he y G' H' g r => q y G' H' g (he ▸ r)
      rcases res_cases T hd.1 with ⟨n, hp, hw⟩ | ⟨ss, hp, hw, hss, _⟩
      · have rz := rz_tup (rza_tail (K := K) (σ := start ["_law_thing", "e"] [x]) (G := G) (ev_str (i := "told")) (rza_head (tr := tNil) (rz_meth (C := T.CP) (m := "walkers") (sp := spWalkers K T.CP) (E' := E0) (ta := tNil) (rz_makeS (K := K) (C := T.CP) (ta := tCons (tVar 0) tNil) (args := fun d : D => [d]) (dom := Wd) (res := pathRes T.CB) (E := WE (wAs K (.ref T.CB) 1 (fun a cls d => tRet (tTup (tCons (tC (.str "wrong")) (tCons (tXf a cls d T.CB "index" (tVar 1)) tNil)))) (fun _ _ _ _ => False) { nx := fun _ H' => Q .non H', rt := Q })) (P := fun C' fs => C' = T.CB ∧ fs = [(("index" : Str), V.int (n : Nat))]) d (ea_cons (ev_var rfl rx) ea_nil) hd hp fun ws G' _ => ⟨rfl, rfl⟩))))
        refine rz G H Q (Ex.refl G) sb fun C' fs dx G2 H2 hP g hdx => ?_
        obtain ⟨rfl, rfl⟩ := hP
        refine ⟨true, T.exm, fun _ a ha => ?_, fun z => by cases z⟩
        refine ⟨.ref a, rfl, rfl, rfl, dx, _, .int (n : Nat), rfl, hdx, rfl, by show 2 ≤ sizeLine; decide, fun p hp => ?_⟩
        refine q (.t [.v (.str "wrong"), .v (.int (n : Nat))]) ?_ (.ref p) (upd G2 p (.tup [.str "wrong", .int (n : Nat)])) _ (g.trans (Gr.new g.s hp)) (R.tup upd_same (.cons .str (.cons .int .nil)))
        unfold metD
        rw [hw]
      · refine s_ret (Gr.refl (M := M0) sb) (ev_tup (ea_cons ev_str (ea_cons (ev_meth (fs := pathF (strD ss)) ss (ev_makeS d (ea_cons (ev_var rfl rx) ea_nil) hd hp) rfl ea_nil rfl True.intro) ea_nil)) (by show 2 ≤ 100000; decide)) fun y G1 H1 g r => q _ ?_ y G1 H1 g r
        unfold metD
        rw [hw, hss]
end
end RW

namespace RW
open PySem PySem.Spec L2
abbrev s_law_told_right : Stmt := top 21
theorem sc_law_told_right : FnScope ["_law_spring_here", "_law_names", "_law_handed", "_law_made", "_law_again", "_law_told", "_law_mate", "_law_turned", "_law_odd"] ["_law_spring_here", "_law_names"] (defScope s_law_told_right) := ⟨rfl, rfl, rfl, by decide +kernel, rfl, by decide +kernel, by decide +kernel⟩
-- slots: 0:_law_spring_here 1:_law_names 2:_law_handed 3:_law_made 4:_law_again 5:_law_told 6:_law_mate 7:_law_turned 8:_law_odd
section
variable {P : Program} {w : PySem.World} {K : PySem.W.Frag} {mg : Str → Option Value} {base : Heap}
theorem kEqO {X : Cx} (T : Tp P K mg) (F : FnR P w K mg base CX0 1 T.aE (spEqP K T.CP)) (hr : Room 1 X.A) (h1 : X.prog = P := by rfl) (h2 : X.w = w := by rfl) (h3 : X.K = K := by rfl) (h4 : X.mg = mg := by rfl) (h5 : X.base = base := by rfl) : OpR X (compareOp .Eq) (rEqO K T.CP (spEqP K T.CP) E0) := by
  subst h1 h2 h3 h4 h5
  exact op_eqO T.eqP F hr pass0
theorem kNeO {X : Cx} (T : Tp P K mg) (F : FnR P w K mg base CX0 1 T.aE (spEqP K T.CP)) (hr : Room 2 X.A) (h1 : X.prog = P := by rfl) (h2 : X.w = w := by rfl) (h3 : X.K = K := by rfl) (h4 : X.mg = mg := by rfl) (h5 : X.base = base := by rfl) : OpR X (compareOp .NotEq) (rNeO K T.CP (spEqP K T.CP) E0) := by
  subst h1 h2 h3 h4 h5
  exact op_neO T.eqP F hr pass0
theorem eqa_ty (T : Tp P K mg) : ∀ {e : EqA}, eqaOk e → ∃ t, tyD (eqaD T.CP e) = some t ∧ (∀ C fs, eqaD T.CP e = .o C fs → ClF K C) ∧ PySem.W.notFirst K T.CP t = true
  | .bs d, h => by
    have key : ∀ {n}, tyN d = some n → n ∈ ["NoneType", "bool", "int", "str", "function", "list", "tuple", "dict"] → ∃ t, tyD d = some t ∧ (∀ C fs, d = .o C fs → ClF K C) ∧ PySem.W.notFirst K T.CP t = true := fun {n} hn hm =>
      ⟨_, tyD_N hn, fun C fs e => (tyN_o hn C fs e).elim, T.nf n hm⟩
    show ∃ t, tyD d = some t ∧ (∀ C fs, d = .o C fs → ClF K C) ∧ PySem.W.notFirst K T.CP t = true
    cases d with
    | v y => cases y <;> first | exact key rfl (by decide) | exact False.elim h
    | l ds => exact key rfl (by decide)
    | t ds => exact key rfl (by decide)
    | d ds => exact key rfl (by decide)
    | dt ds => exact key rfl (by decide)
    | _ => exact False.elim h
  | .pt ts, h => ⟨.ref T.CP, rfl, fun C fs e => by
      cases e
      exact T.eqP.toClF, by simp [PySem.W.notFirst]⟩
theorem rv_eqO (T : Tp P K mg) {ss : List Str} {e : EqA} (hs : ∀ z ∈ ss, PyData.strOk z = true) (he : eqaOk e) : RV K (rEqO K T.CP (spEqP K T.CP) E0) (pathO T.CP ss) (eqaD T.CP e) (.v (.bl (eqaR ss e))) := fun G H x y Q s rx ry q => by
  obtain ⟨t, h1, h2, h3⟩ := eqa_ty T he
  refine ⟨G, _, _, t, s, rx, ry, h1, h2, h3, G, (ss, e), s, .cons rx (.cons ry .nil), ⟨hs, he⟩, fun z G2 H2 g r => ?_⟩
  obtain ⟨rfl, _⟩ := r.v_inv
  exact ⟨_, rfl, q _ G2 H2 g .bl⟩
theorem rv_neO (T : Tp P K mg) {ss : List Str} {e : EqA} (hs : ∀ z ∈ ss, PyData.strOk z = true) (he : eqaOk e) : RV K (rNeO K T.CP (spEqP K T.CP) E0) (pathO T.CP ss) (eqaD T.CP e) (.v (.bl (!eqaR ss e))) := fun G H x y Q s rx ry q => by
  obtain ⟨t, h1, h2, h3⟩ := eqa_ty T he
  refine ⟨G, _, _, t, s, rx, ry, h1, h2, h3, G, (ss, e), s, .cons rx (.cons ry .nil), ⟨hs, he⟩, fun z G2 H2 g r => ?_⟩
  obtain ⟨rfl, _⟩ := r.v_inv
  exact ⟨_, rfl, q _ G2 H2 g .bl⟩
/-! ### drawn names are names -/
theorem names20_ok : ∀ z ∈ names20, nameOk z = true := by
  have : names20.all nameOk = true := by decide +kernel
  exact fun z hz => List.all_eq_true.mp this z hz
theorem NamesOk.name {ss : List Str} (h : NamesOk ss) : ∀ z ∈ ss, nameOk z = true := fun z hz => names20_ok z (h.ok z hz)
theorem NamesOk.str {ss : List Str} (h : NamesOk ss) : ∀ z ∈ ss, PyData.strOk z = true := fun z hz => strOk_name (h.name z hz)
theorem strD_bsc {ss : List Str} (h : ∀ z ∈ ss, nameOk z = true) : ∀ e ∈ strD ss, Bsc e := fun e he => by
  unfold strD at he
  obtain ⟨v, hv, rfl⟩ := List.mem_map.mp he
  obtain ⟨z, hz, rfl⟩ := List.mem_map.mp hv
  have := len_name (h z hz)
  show z.length ≤ 100000
  omega
theorem strD_len {ss : List Str} : (strD ss).length = ss.length := by simp [strD]
theorem good_names {ss : List Str} (h1 : ss.Nodup) (h2 : ∀ z ∈ ss, nameOk z = true) : ∀ j, badAt (strD ss) j = false := fun j => by
  unfold badAt
  by_cases hj : j < ss.length
  · have e : (strD ss)[j]? = some (.v (.str ss[j])) := by simp [strD, hj]
    have e2 : (strD ss).take j = strD (ss.take j) := by unfold strD; rw [List.map_take, List.map_take]
    rw [e]
    show (!nameOk ss[j] || memD (.v (.str ss[j])) ((strD ss).take j)) = false
    rw [e2, h2 _ (List.getElem_mem hj)]
    show memD (.v (.str ss[j])) (((ss.take j).map V.str).map D.v) = false
    rw [memD_strs, decide_eq_false_iff_not]
    intro hm
    obtain ⟨i, hi, e3⟩ := List.mem_take_iff_getElem.mp hm
    have hij : i < j := by omega
    have := (List.pairwise_iff_getElem.mp h1) i j (by omega) hj hij
    exact this e3
  · have e : (strD ss)[j]? = none := by
      rw [List.getElem?_eq_none_iff, strD_len]
      omega
    rw [e]
theorem path_ok (T : Tp P K mg) {ss : List Str} {d : D} (hs : Sq d (strD ss)) (h1 : ss.Nodup) (h2 : ∀ z ∈ ss, nameOk z = true) (h3 : 2 ≤ ss.length) : pathRes T.CB d = .inl (pathF (strD ss)) := by
  have e : isLT d = true ∧ seqOf d = strD ss := by rcases hs with rfl | rfl <;> exact ⟨rfl, rfl⟩
  unfold pathRes
  rw [e.1, e.2, firstBad_none fun j _ => good_names h1 h2 j]
  have h : ¬ (strD ss).length < 2 := by
    rw [strD_len]
    omega
  exact if_neg h
theorem wd_ok {ss : List Str} {d : D} (hs : Sq d (strD ss)) (h2 : ∀ z ∈ ss, nameOk z = true) (h3 : ss.length ≤ 1000) : Wd d := by
  rcases hs with rfl | rfl <;> exact ⟨True.intro, fun _ => ⟨strD_bsc h2, by show (strD ss).length ≤ 1000; rw [strD_len]; exact h3⟩⟩
theorem strD_nok {ss : List Str} : ∀ d ∈ strD ss, NoK 0 d := fun e he => by
  unfold strD at he
  obtain ⟨v, hv, rfl⟩ := List.mem_map.mp he
  exact .v v
theorem path_nok {CP : Addr} {ss : List Str} : NoK 0 (pathO CP ss) := by
  refine .o (by decide) fun p hp => ?_
  unfold pathF at hp
  simp only [List.mem_cons, List.not_mem_nil, or_false] at hp
  rcases hp with rfl | rfl | rfl
  · exact .t strD_nok
  · exact .v _
  · exact .d fun q hq => by
      unfold rankOf at hq
      obtain ⟨_, _, rfl⟩ := List.mem_map.mp hq
      exact .v _
theorem dat_names {ss : List Str} (h2 : ∀ z ∈ ss, nameOk z = true) (h3 : ss.length ≤ 1000) : Dat 1 (.l (strD ss)) := ⟨by rw [strD_len]; exact h3, fun e he => by
  unfold strD at he
  obtain ⟨v, hv, rfl⟩ := List.mem_map.mp he
  obtain ⟨z, hz, rfl⟩ := List.mem_map.mp hv
  have := len_name (h2 z hz)
  show z.length ≤ 100000
  omega⟩
abbrev spTold (K : PySem.W.Frag) : Sp := spJ K (fun ss : List Str => [.l (strD ss)]) (fun ss => NamesOk ss ∧ 2 ≤ ss.length ∧ ss.length ≤ 20) (fun _ => 1) (fun _ d => d = .v (.bl true))
def MethE (T : Tp P K mg) (w : PySem.World) (base : Heap) : Prop := FnR P w K mg base CX0 1 T.aE (spEqP K T.CP)
abbrev DefPick (P : Program) (w : PySem.World) (K : PySem.W.Frag) (mg : Str → Option Value) (base : Heap) : Prop := Def P w K mg base CX0 2 "_law_pick" ["_law_spring_here", "_law_some"] (spPick K)
theorem d_told (T : Tp P K mg) {f : Addr} (D0 : TopD K mg "_law_told_right" "_law_told_right" s_law_told_right ["_law_spring_here", "_law_names"] f) (hI : InitP T w base) (hW : MethW T w base) (FE : MethE T w base)
    (d__law_pick : DefPick P w K mg base) (d__law_same : DefSame P w K mg base 2) : Def P w K mg base CX0 6 "_law_told_right" ["_law_spring_here", "_law_names"] (spTold K) :=
  def_of D0 fun fd F => by
    obtain ⟨fdI, i_Path, b_Path, kb_Path⟩ := hI
    obtain ⟨fdW, FW, bW⟩ := hW
    refine F.ok sc_law_told_right (fun vs H Q E h => ?_) (fun cdv A outer s H vs Q E hr h => ?_)
    · obtain ⟨G, x, a, n, ws, rfl, _, _, r, _⟩ := h
      rw [List.length_cons, r.length]
      rfl
    · obtain ⟨G, ss, a, n, ws, rfl, sb, sp, r, ⟨hss, hs2, hs20⟩, q⟩ := h
      obtain ⟨x, rfl, rx⟩ := r.inv1
      have hr1 : Room 1 _ := hr.mono (by decide)
      have hr2 : Room 2 _ := hr.mono (by decide)
      have hr__law_pick : Room 2 _ := hr.mono (by decide)
      have hr__law_same : Room 2 _ := hr.mono (by decide)
      have hr_Path : Room 4 _ := hr.mono (by decide)
      refine ⟨_, (pss_cons (ps_set (i := 2) sc_law_told_right.nd rfl (Or.inl rfl) (pe_callD d__law_pick hr__law_pick pass0 (pa_cons (pv 0) (pa_cons (pe_lst (pa_cons (pe_callTy (kToL K) rfl T.n_list PyProof.Rows.Boot.«list» (pa_cons (pv 1) pa_nil)) (pa_cons (pe_callTy (kToT K) rfl T.n_tuple PyProof.Rows.Boot.«tuple» (pa_cons (pv 1) pa_nil)) pa_nil))) pa_nil))))
      (pss_cons (ps_set (i := 3) sc_law_told_right.nd rfl (Or.inr rfl) (pe_make T.mk_Path i_Path hr_Path rfl T.g_Path b_Path .nil passL (pa_cons (pv 2) pa_nil)))
      (pss_cons (ps_if (pt_val (pe_callB (kIs K) rfl T.n_isinstance PyProof.Rows.Boot.«isinstance» (pa_cons (pv 2) (pa_cons (pe_tyN rfl T.n_list PyProof.Rows.Boot.«list») pa_nil)))) (pss_one (ps_expr (kApp K (pv 2) (pa_cons pe_str pa_nil)))) pss_nil)
      (pss_cons (ps_for PassesOwn.never rfl (pi_range1 rfl T.n_range (pa_cons pe_int pa_nil)) (pg_name (i := 4) sc_law_told_right.nd rfl (Or.inl rfl)) (pss_cons (ps_set (i := 5) sc_law_told_right.nd rfl (Or.inl rfl) (pe_meth0 (pv 3) T.eqP.cl T.mt_walkers FW hr1 bW .nil pass0))
      (pss_cons (ps_if (pt_not (pt_val (pe_callD d__law_same hr__law_same pass0 (pa_cons (pv 5) (pa_cons (pv 1) pa_nil))))) (pss_one (ps_ret pe_bl)) pss_nil)
      (pss_one (ps_expr (kApp K (pv 5) (pa_cons pe_str pa_nil)))))))
      (pss_cons (ps_par (i := 6) (j := 7) (by rfl) sc_law_told_right.nd rfl rfl (by decide) rfl rfl (pa_cons (pe_makeK0 T.mk_Path i_Path hr_Path rfl T.g_Path kb_Path passL (pk_cons (pe_callTy (kToT K) rfl T.n_tuple PyProof.Rows.Boot.«tuple» (pa_cons (pv 1) pa_nil)) pk_nil)) (pa_cons (pe_make T.mk_Path i_Path hr_Path rfl T.g_Path b_Path .nil passL (pa_cons (kRev K (pv 1)) pa_nil)) pa_nil)) (by rfl))
      (pss_cons (ps_if (PW.pt (pw_or (pt_not (pt_cmpR (kEqO T FE hr1) (pv 3) (pv 6) (nomark _))) (pw_or (pt_cmpR (kNeO T FE hr2) (pv 3) (pv 6) (nomark _)) (pw_or (pt_cmpR (kEqO T FE hr1) (pv 3) (pv 7) (nomark _)) (pw_or1 (pt_not (pt_cmpR (kNeO T FE hr2) (pv 3) (pv 7) (nomark _)))))))) (pss_one (ps_ret pe_bl)) pss_nil)
      (pss_one (ps_ret (pe_not (pe_callB (kAny K) rfl T.n_any PyProof.Rows.Boot.«any» (pa_cons (pe_lc (own := [("_law_odd", 8)]) (g := gName 8) (tt := tYes) rfl sc_law_told_right.nd (kTup K (pe_tup (pa_cons pe_non (pa_cons pe_int (pa_cons pe_str (pa_cons (pv 1) (pa_cons (pe_callTy (kToT K) rfl T.n_tuple PyProof.Rows.Boot.«tuple» (pa_cons (pv 1) pa_nil)) (pa_cons pe_dnewK (pa_cons pe_bl pa_nil))))))))) (blkOk_by (N := ["_law_spring_here", "_law_names", "_law_handed", "_law_made", "_law_again", "_law_told", "_law_mate", "_law_turned", "_law_odd"]) (sc := defScope s_law_told_right) (by decide +kernel)) (fun _ _ _ _ _ => (pg_name (i := 8) sc_law_told_right.nd rfl (Or.inl rfl))) (fun _ _ _ _ _ => pts_nil) (fun _ _ _ _ _ => (pe_or (pe_cmpR (kEqO T FE hr1) (pv 3) (pv 8) (nomark _)) (pe_one (pe_not (pe_cmpR (kNeO T FE hr2) (pv 3) (pv 8) (nomark _))))))) pa_nil))))))))))), ?_⟩
      obtain ⟨aN, xsN, rfl, haN, raN⟩ := rx.lst_inv
      obtain rfl := strD_vals raN
      have hnm := hss.name
      have hst := hss.str
      -- handed
      refine q_raw ?_
      refine ⟨.ref a, rfl, .ref aN, rfl, aN, _, rfl, .inl (sql_of sb haN), fun l1 hl1 => ?_⟩
      have gr1 : Gr M0 G H (upd G l1 (.lst (ss.map V.str))) (upd H l1 (.lst (ss.map V.str))) := Gr.new sb hl1
      have hG1 : G l1 = none := sb.none' hl1
      have haN1 := gr1.g _ _ haN
      refine ⟨.ref aN, rfl, aN, _, rfl, .inl ⟨sql_of gr1.s haN1, fun l2 hl2 => ?_⟩⟩
      have gr2 := gr1.trans (Gr.new (M := M0) (o := .tup (ss.map V.str)) gr1.s hl2)
      refine ⟨by show 2 ≤ sizeLine; decide, fun p hp => ?_⟩
      have gr3 := gr2.trans (Gr.new (M := M0) (o := .lst [.ref l1, .ref l2]) gr2.s hp)
      generalize upd (upd (upd H l1 (.lst (ss.map V.str))) l2 (.tup (ss.map V.str))) p (.lst [.ref l1, .ref l2]) = H3 at gr3 ⊢
      have e13 : (upd (upd (upd G l1 (.lst (ss.map V.str))) l2 (.tup (ss.map V.str))) p (.lst [.ref l1, .ref l2])) l1 = some (.lst (ss.map V.str)) := by
        rw [upd_ne (ne_of_none (show (upd (upd H l1 (.lst (ss.map V.str))) l2 (.tup (ss.map V.str))) l1 = some (.lst (ss.map V.str)) by rw [upd_ne (ne_of_none (show (upd H l1 (.lst (ss.map V.str))) l1 = some (.lst (ss.map V.str)) from upd_same) hl2), upd_same]) hp), upd_ne (ne_of_none (show (upd H l1 (.lst (ss.map V.str))) l1 = some (.lst (ss.map V.str)) from upd_same) hl2), upd_same]
      have e23 : (upd (upd (upd G l1 (.lst (ss.map V.str))) l2 (.tup (ss.map V.str))) p (.lst [.ref l1, .ref l2])) l2 = some (.tup (ss.map V.str)) := by
        rw [upd_ne (ne_of_none (show (upd (upd H l1 (.lst (ss.map V.str))) l2 (.tup (ss.map V.str))) l2 = some (.tup (ss.map V.str)) from upd_same) hp), upd_same]
      have ep3 : (upd (upd (upd G l1 (.lst (ss.map V.str))) l2 (.tup (ss.map V.str))) p (.lst [.ref l1, .ref l2])) p = some (.lst [.ref l1, .ref l2]) := upd_same
      generalize upd (upd (upd G l1 (.lst (ss.map V.str))) l2 (.tup (ss.map V.str))) p (.lst [.ref l1, .ref l2]) = G3 at gr3 e13 e23 ep3 ⊢
      have sp3 : SpAt a (n + 1) G3 H3 := (Wsp K a).stab _ _ _ _ _ sp gr3
      have hal : a ≠ l1 := by
        obtain ⟨_, c, m, t, h, _⟩ := sp
        exact ne_of_none h hl1
      refine ⟨G3, a, n, p, [.ref l1, .ref l2], rfl, gr3.s, sp3, ep3, by simp, by show 2 ≤ 1000; decide, fun r y G4 H4 hy g4 sp4 => ?_⟩
      have gr4 : Gr (fun b => b = a) G H G4 H4 := gr3.up.trans g4
      have hy2 : ∃ dh, Sq dh (strD ss) ∧ R K G4 y dh ∧ ((dh = .l (strD ss) ∧ y = .ref l1) ∨ dh = .t (strD ss)) := by
        have r0 : RA K G4 (ss.map V.str) (strD ss) := raN.mono gr4.g
        match r, hy with
        | 0, h => cases h; exact ⟨_, .inl rfl, R.lst (g4.g _ _ e13) r0, .inl ⟨rfl, rfl⟩⟩
        | 1, h => cases h; exact ⟨_, .inr rfl, R.tup (g4.g _ _ e23) r0, .inr rfl⟩
        | r + 2, h => simp at h
      obtain ⟨dh, sqh, rh, hcase⟩ := hy2
      have wdh := wd_ok sqh hnm (by omega)
      have poh := path_ok T sqh hss.nd hnm hs2
      -- made
      show tSeq (tAsg (tMake _ _ _ _ _) _) _ _ _ _
      refine q_asg gr4 (ev_make dh (ea_cons (ev_var rfl rh) ea_nil) wdh poh) fun m G5 H5 g5 gr5 rm => ?_
      have rm : R K G5 m (pathO T.CP ss) := rm
      have sp5 := (Wsp K a).stab _ _ _ _ _ sp4 g5
      have isl : RC K (rIsD K) [dh, .x (.ty "list")] (.v (.bl (isL dh))) := by
        rcases sqh with rfl | rfl
        · exact isi_1 (b := true) rfl (by decide +kernel)
        · exact isi_1 (b := false) rfl (by decide +kernel)
      refine q_whenC (fun H6 => ∃ G6, Gr (fun b => b = a) G H G6 H6 ∧ SpAt a n G6 H6 ∧ R K G6 m (pathO T.CP ss)) gr5 (et_B (ev_cb (ea_cons (ev_var rfl (rh.mono g5.g)) (ea_cons ev_ty ea_nil)) isl)) (fun hb G6 H6 D'' hn g6 gr6 => ?_) (fun hb G6 H6 g6 gr6 => ⟨G6, gr6, (Wsp K a).stab _ _ _ _ _ sp5 g6, rm.mono g6.g⟩) ?_
      · rcases hcase with ⟨rfl, rfl⟩ | rfl
        · have hl6 : G6 l1 = some (.lst (ss.map V.str)) := g6.g _ _ (g5.g _ _ (g4.g _ _ e13))
          have hH6 := g6.s.lst hl6
          refine ⟨.ref l1, rfl, .inl ⟨rfl, _, .inl (.inl hH6)⟩, l1, _, .str "late", rfl, rfl, hH6, size_lt (by rw [List.length_map]; omega), hn _ ⟨RW.off G6 l1, (gr6.off hG1).over hl1 off_self, ?_, (rm.mono g6.g).off (p := 0) hl6 True.intro path_nok⟩⟩
          obtain ⟨k1, c, mm, t, k2, k3⟩ := (Wsp K a).stab _ _ _ _ _ sp5 g6
          exact ⟨by rw [off_ne hal]; exact k1, c, mm, t, by rw [upd_ne hal]; exact k2, k3⟩
        · cases hb
      rintro H6 ⟨G6, gr6, sp6, rm6⟩
      have rN6 := rx.mono gr6.g
      refine q_for ((List.range (2 : Int).toNat).map fun i => D.v (.int (i : Nat))) gr6 (src_rng1 (K := K) (ea_cons ev_int ea_nil) (by decide) (by decide)) (fun i σ' G' H' => (∃ x4 x5, σ' = [some (.ref a), some (.ref aN), some y, some m, x4, x5, none, none, none]) ∧ SpAt a n G' H')
        (fun i σ' Ga Ha Gb Hb ⟨h1, h2⟩ g => ⟨h1, (Wsp K a).stab _ _ _ _ _ h2 g⟩) (fun G7 H7 g => ⟨⟨none, none, rfl⟩, (Wsp K a).stab _ _ _ _ _ sp6 g⟩) ?_ ?_
      · rintro i dI σ1 G7 H7 yI N hd ex7 gr7 ⟨⟨x4, x5, rfl⟩, sp7⟩ rI hN
        have rm7 := rm6.mono ex7
        obtain ⟨am, dxm, xsm, rfl, ham, hkm, ram⟩ := rm7.o_inv
        show tSeq (tAsg (tMeth _ _ _ _ _ _ _) _) _ _ _ _
        refine q_raw ?_
        refine ⟨.ref am, rfl, am, dxm, xsm, rfl, gr7.s.ins ham, keys_none hkm rfl, G7, ss, gr7.s, .cons rm7 .nil, True.intro, fun l ys G8 H8 g8 hl hln hlh ra => ?_⟩
        obtain rfl := strD_vals ra
        have gr8 := gr7.trans g8.up
        have sp8 := (Wsp K a).stab _ _ _ _ _ sp7 g8
        have hal' : a ≠ l := by
          obtain ⟨_, c, mm, t, h, _⟩ := sp7
          exact ne_of_none h hl
        have rN8 : R K (upd G8 l (.lst (ss.map V.str))) (.ref aN) (.l (strD ss)) := (rx.mono gr8.g).mono (Ex.new hln)
        have rT8 : R K (upd G8 l (.lst (ss.map V.str))) (.ref l) (.l (strD ss)) := R.lst upd_same (ra.mono (Ex.new hln))
        show tSeq (tIfS _ _ _) _ _ _ _
        refine q_whenT (b := false) gr8 hln hlh (et_not (a := true) (et_B (ev_call (D.l (strD ss)) (ea_cons (ev_var rfl rT8) (ea_cons (ev_var rfl rN8) ea_nil)) (dat_names hnm (by omega))))) (fun z => by cases z) fun _ G9 H9 g9 gr9 => ?_
        have hl9 := g9.ex _ _ hlh
        have hl9n := g9.n _ _ hlh hln
        have sp9 := (Wsp K a).stab _ _ _ _ _ sp8 g9
        refine ⟨.ref l, rfl, .inl ⟨rfl, _, .inl (.inl hl9)⟩, l, _, .str "late", rfl, rfl, hl9, size_lt (by rw [List.length_map]; omega), ?_⟩
        have h0l : H l = none := gr7.none0 hl
        refine hN _ G9 _ (g8.g.trans g9.g) (gr9.over h0l hl9n) ⟨⟨_, _, rfl⟩, ?_⟩
        obtain ⟨k1, c, mm, t, k2, k3⟩ := sp9
        exact ⟨k1, c, mm, t, by rw [upd_ne hal']; exact k2, k3⟩
      · rintro σ1 G7 H7 ex7 gr7 ⟨⟨x4, x5, rfl⟩, sp7⟩
        have rN7 := rN6.mono ex7
        have rm7 := rm6.mono ex7
        have hrev : (strD ss).reverse = strD ss.reverse := by unfold strD; rw [List.map_reverse, List.map_reverse]
        have pt1 := path_ok T (.inr rfl) hss.nd hnm hs2
        have hrn : ss.reverse.Nodup := by
          unfold List.Nodup
          rw [List.pairwise_reverse]
          exact hss.nd.imp Ne.symm
        have hrm : ∀ z ∈ ss.reverse, nameOk z = true := fun z hz => hnm z (List.mem_reverse.mp hz)
        have pt2 := path_ok T (d := .l (strD ss.reverse)) (.inl rfl) hrn hrm (by rw [List.length_reverse]; exact hs2)
        have er : EvA K (tCons (tRevL K (tVar 1)) tNil) [some (.ref a), some (.ref aN), some y, some m, x4, x5, none, none, none] G7 [.l (strD ss.reverse)] := ea_cons (ev_is (ev_rev (ev_var rfl rN7)) (congrArg D.l hrev)) ea_nil
        refine q_par gr7 (ea_cons (ev_makeK0 (D.t (strD ss)) (fun _ _ _ => rfl) (ea_cons (ev_cb (ea_cons (ev_var rfl rN7) ea_nil) rc_toT_L) ea_nil) rfl (wd_ok (.inr rfl) hnm (by omega)) pt1) (ea_cons (ev_make (D.l (strD ss.reverse)) er (wd_ok (.inl rfl) hrm (by rw [List.length_reverse]; omega)) pt2) ea_nil)) fun m2 m3 G8 H8 g8 gr8 r2 r3 => ?_
        have r2 : R K G8 m2 (pathO T.CP ss) := r2
        have r3 : R K G8 m3 (pathO T.CP ss.reverse) := r3
        have rm8 := rm7.mono g8.g
        have sp8 := (Wsp K a).stab _ _ _ _ _ sp7 g8
        have hne : ss ≠ ss.reverse := fun z => by
          have h0 : ss[0]'(by omega) = ss[ss.length - 1]'(by omega) := by
            have := List.getElem_reverse (l := ss) (i := 0) (h := by rw [List.length_reverse]; omega)
            rw [← List.getElem_of_eq z (by omega)] at this
            simpa using this
          have := (List.pairwise_iff_getElem.mp hss.nd) 0 (ss.length - 1) (by omega) (by omega) (by omega)
          exact this h0
        have hst' : ∀ z ∈ ss.reverse, PyData.strOk z = true := fun z hz => hst z (List.mem_reverse.mp hz)
        refine q_when (b := false) gr8 (et_orr (et_not (et_test (ev_bool (ev_op (ev_var rfl rm8) (ev_var rfl r2) (rv_eqO T (e := .pt ss) hst hst)) (decide_eq_true rfl)))) (et_orr (et_test (ev_bool (ev_op (ev_var rfl rm8) (ev_var rfl r2) (rv_neO T (e := .pt ss) hst hst)) (congrArg not (decide_eq_true rfl))))
          (et_orr (et_test (ev_bool (ev_op (ev_var rfl rm8) (ev_var rfl r3) (rv_eqO T (e := .pt ss.reverse) hst hst')) (decide_eq_false hne))) (et_not (et_test (ev_bool (ev_op (ev_var rfl rm8) (ev_var rfl r3) (rv_neO T (e := .pt ss.reverse) hst hst')) (congrArg not (decide_eq_false hne)))))))) (fun z => by cases z) fun _ G9 H9 g9 gr9 => ?_
        have sp9 := (Wsp K a).stab _ _ _ _ _ sp8 g9
        have rm9 := rm8.mono g9.g
        have rN9 : R K G9 (.ref aN) (.l (strD ss)) := rx.mono gr9.g
        let L : List EqA := [.bs (.v .non), .bs (.v (.int 5)), .bs (.v (.str "ab")), .bs (.l (strD ss)), .bs (.t (strD ss)), .bs (.d []), .bs (.v (.bl true))]
        have hL : ∀ e ∈ L, eqaOk e ∧ eqaR ss e = false := fun e he => by
          simp only [L, List.mem_cons, List.not_mem_nil, or_false] at he
          rcases he with rfl | rfl | rfl | rfl | rfl | rfl | rfl
          · exact ⟨True.intro, rfl⟩
          · exact ⟨True.intro, rfl⟩
          · exact ⟨by show 2 ≤ 100000; decide, rfl⟩
          · exact ⟨True.intro, rfl⟩
          · exact ⟨True.intro, rfl⟩
          · exact ⟨True.intro, rfl⟩
          · exact ⟨True.intro, rfl⟩
        refine s_retJ (W := Wsp K a) (k := 0) (n := n) gr9 sp9 (ej_of (ev_notV (a := false) (ev_bool (ev_cb (ea_cons (ev_lcA L (eqaD T.CP) (fun _ => .v (.bl false)) (src_tup (ev_tup (ea_cons ev_non (ea_cons ev_int (ea_cons ev_str (ea_cons (ev_var rfl rN9) (ea_cons (ev_cb (ea_cons (ev_var rfl rN9) ea_nil) rc_toT_L) (ea_cons ev_dnew (ea_cons ev_bl ea_nil))))))) (by show 7 ≤ 100000; decide))) (by show 7 < 100000; decide) fun e he yy G10 ex10 ry => ?_) ea_nil) (rc_any' (bs := L.map fun _ => false) (by rw [List.map_map]; rfl))) rfl))) fun yy d G10 H10 g j p r => q yy d G10 H10 g j p r
        obtain ⟨h1, h2⟩ := hL e he
        have rm10 := rm9.mono ex10
        refine ⟨_, tg_name, rfl, ?_⟩
        exact ev_orr (ev_bool (ev_op (ev_var rfl rm10) (ev_var rfl ry) (rv_eqO T hst h1)) h2) (ev_notV (a := true) (ev_bool (ev_op (ev_var rfl rm10) (ev_var rfl ry) (rv_neO T hst h1)) (congrArg not h2)))
end
end RW

namespace RW
open PySem PySem.Spec L2
abbrev s_law_bent_right : Stmt := top 22
theorem sc_law_bent_right : FnScope ["_law_spring_here", "_law_names", "_law_odds", "_law_odd", "_law_at", "_law_thing", "_law_due", "_law_want"] ["_law_spring_here", "_law_names"] (defScope s_law_bent_right) := ⟨rfl, rfl, rfl, by decide +kernel, rfl, by decide +kernel, by decide +kernel⟩
-- slots: 0:_law_spring_here 1:_law_names 2:_law_odds 3:_law_odd 4:_law_at 5:_law_thing 6:_law_due 7:_law_want
section
variable {P : Program} {w : PySem.World} {K : PySem.W.Frag} {mg : Str → Option Value} {base : Heap}
abbrev spBent (K : PySem.W.Frag) : Sp := spJ K (fun ss : List Str => [.l (strD ss)]) (fun ss => NamesOk ss ∧ 2 ≤ ss.length ∧ ss.length ≤ 19) (fun _ => 90) (fun _ d => d = .v (.bl true))
def odds16 (z : Str) : List D := [.v .non, .v (.int 5), .v (.int 0), .v (.bl true), .v (.str ""), .v (.str "A"), .v (.str "1a"), .v (.str "a_b"), .v (.str "ninesigns"), .v (.str "a b"), .v (.str "a\n"), .l [], .d [], .l [.v (.str "a")], .t [.v (.str "b")], .v (.str z)]
def odds18 (z y : Str) : List D := odds16 z ++ [.v (.str y), .v (.str "new")]
theorem odds_bsc {z y : Str} (hz : z.length ≤ 100000) (hy : y.length ≤ 100000) : ∀ e ∈ odds18 z y, Bsc e := fun e he => by
  simp only [odds18, odds16, List.cons_append, List.nil_append, List.mem_cons, List.not_mem_nil, or_false] at he
  rcases he with rfl | rfl | rfl | rfl | rfl | rfl | rfl | rfl | rfl | rfl | rfl | rfl | rfl | rfl | rfl | rfl | rfl | rfl
  all_goals first | exact True.intro | exact hz | exact hy | (show _ ≤ 100000; decide)
theorem dat_met (T : Tp P K mg) {d : D} (hd : Wd d) : Dat 2 (metD d) := by
  unfold metD
  rcases res_cases T hd.1 with ⟨n, _, hw⟩ | ⟨ss, _, hw, hs, _, hn, h2⟩
  · rw [hw]
    refine ⟨by show 2 ≤ 1000; decide, fun e he => ?_⟩
    simp only [List.mem_cons, List.not_mem_nil, or_false] at he
    rcases he with rfl | rfl
    · show (5 : Nat) ≤ 100000
      decide
    · exact True.intro
  · rw [hw]
    refine ⟨by show 2 ≤ 1000; decide, fun e he => ?_⟩
    simp only [List.mem_cons, List.not_mem_nil, or_false] at he
    rcases he with rfl | rfl
    · show (4 : Nat) ≤ 100000
      decide
    · rw [hs]
      have hl : isLT d = true := by
        cases h : isLT d with
        | true => rfl
        | false =>
          unfold wrongD at hw
          rw [if_pos h] at hw
          cases hw
      have := (hd.2 hl).2
      rw [hs, strD_len] at this
      exact dat_names hn this
theorem met_seq {d : D} {ds : List D} (h : Sq d ds) : metD d = metD (.l ds) := by
  rcases h with rfl | rfl <;> rfl
abbrev DefWrong (P : Program) (w : PySem.World) (K : PySem.W.Frag) (mg : Str → Option Value) (base : Heap) : Prop := Def P w K mg base CX0 2 "_law_wrong" ["_law_thing"] (spWrong K)
abbrev DefMet (P : Program) (w : PySem.World) (K : PySem.W.Frag) (mg : Str → Option Value) (base : Heap) : Prop := Def P w K mg base CX0 5 "_law_met" ["_law_thing"] (spMet K)
theorem d_bent (T : Tp P K mg) {f : Addr} (D0 : TopD K mg "_law_bent_right" "_law_bent_right" s_law_bent_right ["_law_spring_here", "_law_names"] f) (d__law_draw : DefDraw P w K mg base)
    (d__law_pick : DefPick P w K mg base) (d__law_wrong : DefWrong P w K mg base) (d__law_met : DefMet P w K mg base) (d__law_same : DefSame P w K mg base 3) : Def P w K mg base CX0 6 "_law_bent_right" ["_law_spring_here", "_law_names"] (spBent K) :=
  def_of D0 fun fd F => by
    refine F.ok sc_law_bent_right (fun vs H Q E h => ?_) (fun cdv A outer s H vs Q E hr h => ?_)
    · obtain ⟨G, x, a, n, ws, rfl, _, _, r, _⟩ := h
      rw [List.length_cons, r.length]
      rfl
    · obtain ⟨G, ss, a, n, ws, rfl, sb, sp, r, ⟨hss, hs2, hs19⟩, q⟩ := h
      obtain ⟨x, rfl, rx⟩ := r.inv1
      have hr__law_draw : Room 1 _ := hr.mono (by decide)
      have hr__law_pick : Room 2 _ := hr.mono (by decide)
      have hr__law_wrong : Room 2 _ := hr.mono (by decide)
      have hr__law_same : Room 3 _ := hr.mono (by decide)
      have hr__law_met : Room 5 _ := hr
      refine ⟨_, (pss_cons (ps_set (i := 2) sc_law_bent_right.nd rfl (Or.inl rfl) (pe_lst (pa_cons pe_non (pa_cons pe_int (pa_cons pe_int (pa_cons pe_bl (pa_cons pe_str (pa_cons pe_str (pa_cons pe_str (pa_cons pe_str (pa_cons pe_str (pa_cons pe_str (pa_cons pe_str (pa_cons (pe_lst pa_nil) (pa_cons pe_dnewK (pa_cons (pe_lst (pa_cons pe_str pa_nil)) (pa_cons (pe_tup (pa_cons pe_str pa_nil)) (pa_cons (pe_ix (kIx K) (pv 1) pe_int (fun _ _ => rfl)) pa_nil))))))))))))))))))
      (pss_cons (ps_for PassesOwn.never rfl (kList K (pe_op (kAdd K) (pv 2) (pe_lst (pa_cons (pe_ix (kIx K) (pv 1) (pe_un un_neg pe_int) (fun _ _ => rfl)) (pa_cons pe_str pa_nil))))) (pg_name (i := 3) sc_law_bent_right.nd rfl (Or.inl rfl)) (pss_cons (ps_set (i := 4) sc_law_bent_right.nd rfl (Or.inl rfl) (pe_callD d__law_draw hr__law_draw pass0 (pa_cons (pv 0) (pa_cons (pe_op (kAdd K) (pe_callB (kLen K) rfl T.n_len PyProof.Rows.Boot.«len» (pa_cons (pv 1) pa_nil)) pe_int) pa_nil))))
      (pss_one (ps_for PassesOwn.never rfl (kTup K (pe_tup (pa_cons (pe_op (kAdd K) (pe_op (kAdd K) (pe_slice (kSl K) (pv 1) po_none (po_some (pv 4))) (pe_lst (pa_cons (pv 3) pa_nil))) (pe_slice (kSl K) (pv 1) (po_some (pv 4)) po_none)) (pa_cons (pe_op (kAdd K) (pe_op (kAdd K) (pe_slice (kSl K) (pv 1) po_none (po_some (pv 4))) (pe_lst (pa_cons (pv 3) pa_nil))) (pe_slice (kSl K) (pv 1) (po_some (pe_op (kAdd K) (pv 4) pe_int)) po_none)) (pa_cons (pe_lst (pa_cons (pv 3) (pa_cons (pv 3) pa_nil))) (pa_cons (pe_lst (pa_cons (pv 3) pa_nil)) pa_nil)))))) (pg_name (i := 5) sc_law_bent_right.nd rfl (Or.inl rfl)) (pss_cons (ps_set (i := 6) sc_law_bent_right.nd rfl (Or.inl rfl) (pe_callD d__law_wrong hr__law_wrong pass0 (pa_cons (pv 5) pa_nil)))
      (pss_cons (ps_set (i := 7) sc_law_bent_right.nd rfl (Or.inl rfl) (pe_ifExp (pt_cmpR op_isN' (pv 6) pe_non (nomark _)) (pe_tup (pa_cons pe_str (pa_cons (pv 5) pa_nil))) (pe_tup (pa_cons pe_str (pa_cons (pv 6) pa_nil)))))
      (pss_one (ps_if (pt_not (pt_val (pe_callD d__law_same hr__law_same pass0 (pa_cons (pe_callD d__law_met hr__law_met pass0 (pa_cons (pe_callD d__law_pick hr__law_pick pass0 (pa_cons (pv 0) (pa_cons (pe_lst (pa_cons (pe_callTy (kToL K) rfl T.n_list PyProof.Rows.Boot.«list» (pa_cons (pv 5) pa_nil)) (pa_cons (pe_callTy (kToT K) rfl T.n_tuple PyProof.Rows.Boot.«tuple» (pa_cons (pv 5) pa_nil)) pa_nil))) pa_nil))) pa_nil)) (pa_cons (pv 7) pa_nil))))) (pss_one (ps_ret pe_bl)) pss_nil))))))))
      (pss_one (ps_ret pe_bl)))), ?_⟩
      have gr0 : Gr (fun b => b = a) G H G H := Gr.refl sb
      have hnm := hss.name
      have h0 : 0 < ss.length := by omega
      have hf : L2.atI (strD ss) 0 = some (.v (.str ss[0])) := atI_nat (j := 0) (by simp [strD, h0])
      obtain ⟨lst, hlst, hl⟩ : ∃ z, L2.atI (strD ss) (-1) = some (.v (.str z)) ∧ z ∈ ss := by
        have hne : ss ≠ [] := fun z => by subst z; simp at h0
        refine ⟨ss.getLast hne, ?_, List.getLast_mem hne⟩
        have e : strD ss = strD ss.dropLast ++ [.v (.str (ss.getLast hne))] := by
          conv => lhs; rw [← List.dropLast_concat_getLast hne]
          simp [strD]
        rw [e]
        exact atI_last _ _
      have lz : ss[0].length ≤ 100000 := by have := len_name (hnm _ (List.getElem_mem h0)); omega
      have ly : lst.length ≤ 100000 := by have := len_name (hnm _ hl); omega
      have hbo := odds_bsc lz ly
      refine q_asg gr0 (d := .l (odds16 ss[0])) (ev_lst (ea_cons ev_non (ea_cons ev_int (ea_cons ev_int (ea_cons ev_bl (ea_cons ev_str (ea_cons ev_str (ea_cons ev_str (ea_cons ev_str (ea_cons ev_str (ea_cons ev_str (ea_cons ev_str (ea_cons (ev_lst ea_nil (by decide)) (ea_cons ev_dnew (ea_cons (ev_lst (ea_cons ev_str ea_nil) (by decide)) (ea_cons (ev_tup (ea_cons ev_str ea_nil) (by decide)) (ea_cons (ev_op (ev_var rfl rx) ev_int (rv_ix1 (rv_ixL hf))) ea_nil)))))))))))))))) (by show 16 ≤ 100000; decide)) fun yo G1 H1 g1 gr1 ro => ?_
      have rx1 := rx.mono g1.g
      have sp1 := (Wsp K a).stab _ _ _ _ _ sp g1
      refine q_for (odds18 ss[0] lst) gr1 (src_list (ev_op (ev_var rfl ro) (ev_lst (ea_cons (ev_op (ev_var rfl rx1) (ev_un ev_int ru_neg) (rv_ix1 (rv_ixL hlst))) (ea_cons ev_str ea_nil)) (by show 2 ≤ 100000; decide)) (rv_cat (by show 18 ≤ 100000; decide)))) (fun i σ' G' H' => (∃ x3 x4 x5 x6 x7, σ' = [some (.ref a), some x, some yo, x3, x4, x5, x6, x7]) ∧ SpAt a (n + 5 * (18 - i)) G' H')
        (fun i σ' Ga Ha Gb Hb ⟨h1, h2⟩ g => ⟨h1, (Wsp K a).stab _ _ _ _ _ h2 g⟩) (fun G2 H2 g => ⟨⟨none, none, none, none, none, rfl⟩, (Wsp K a).stab _ _ _ _ _ sp1 g⟩) ?_ ?_
      · rintro i e σ1 G2 H2 y N he ex2 gr2 ⟨⟨x3, x4, x5, x6, x7, rfl⟩, sp2⟩ ry hN
        have hi : i < 18 := (List.getElem?_eq_some_iff.mp he).1
        have hbe : Bsc e := hbo e (List.mem_of_getElem? he)
        have rx2 := rx1.mono ex2
        show tSeq (tAsg _ _) _ _ _ _
        refine q_asgJ (W := Wsp K a) (n := n + 5 * (17 - i) + 4) (k := 1) gr2 ((Wsp K a).le (by omega) sp2) (ej_draw (((strD ss).length : Nat) + 1) (by omega) (by rw [strD_len]; omega) rfl (ev_op (ev_cb (ea_cons (ev_var rfl rx2) ea_nil) rc_lenL) ev_int rv_add)) fun yat dat G3 H3 g3 gr3 sp3 hat rat => ?_
        obtain ⟨at', rfl, hat0, hat1⟩ := hat
        obtain ⟨rfl, _⟩ := rat.v_inv
        have rx3 := rx2.mono g3.g
        have ry3 := ry.mono g3.g
        obtain ⟨m, rfl⟩ : ∃ m : Nat, at' = (m : Int) := ⟨at'.toNat, by omega⟩
        have hm : m ≤ ss.length := by rw [strD_len] at hat1; omega
        let t1 : List D := ((strD ss).take m ++ [e]) ++ (strD ss).drop m
        let t2 : List D := ((strD ss).take m ++ [e]) ++ (strD ss).drop (m + 1)
        have hmem : ∀ t ∈ [t1, t2, [e, e], [e]], (∀ z ∈ t, Bsc z) ∧ t.length ≤ 1000 := fun t ht => by
          simp only [List.mem_cons, List.not_mem_nil, or_false] at ht
          have hb := strD_bsc hnm
          rcases ht with rfl | rfl | rfl | rfl
          · refine ⟨fun z hz => ?_, ?_⟩
            · simp only [t1, List.mem_append, List.mem_singleton] at hz
              rcases hz with (hz | rfl) | hz
              · exact hb z (List.mem_of_mem_take hz)
              · exact hbe
              · exact hb z (List.mem_of_mem_drop hz)
            · simp only [t1, List.length_append, List.length_take, List.length_drop, List.length_singleton, strD_len]
              omega
          · refine ⟨fun z hz => ?_, ?_⟩
            · simp only [t2, List.mem_append, List.mem_singleton] at hz
              rcases hz with (hz | rfl) | hz
              · exact hb z (List.mem_of_mem_take hz)
              · exact hbe
              · exact hb z (List.mem_of_mem_drop hz)
            · simp only [t2, List.length_append, List.length_take, List.length_drop, List.length_singleton, strD_len]
              omega
          · exact ⟨fun z hz => by
              simp only [List.mem_cons, List.not_mem_nil, or_false] at hz
              rcases hz with rfl | rfl <;> exact hbe, by show 2 ≤ 1000; decide⟩
          · exact ⟨fun z hz => by
              rw [List.mem_singleton] at hz
              exact hz ▸ hbe, by show 1 ≤ 1000; decide⟩
        have cut1 : Ev K (tSl (rSlA' K) (tVar 1) tNoPart (tPart (tVar 4))) [some (.ref a), some x, some yo, some y, some (.int m), x5, x6, x7] G3 (.l ((strD ss).take m)) := ev_is (ev_sl (ev_var rfl rx3) eo_none (eo_some (K := K) (i := (m : Nat)) (ev_var rfl .int)) rs_L) (by rw [cut_to])
        have cut2 : Ev K (tSl (rSlA' K) (tVar 1) (tPart (tVar 4)) tNoPart) [some (.ref a), some x, some yo, some y, some (.int m), x5, x6, x7] G3 (.l ((strD ss).drop m)) := ev_is (ev_sl (ev_var rfl rx3) (eo_some (K := K) (i := (m : Nat)) (ev_var rfl .int)) eo_none rs_L) (by rw [cut_from])
        have cut3 : Ev K (tSl (rSlA' K) (tVar 1) (tPart (tOp (rAdd K) (tVar 4) (tC (.int 1)))) tNoPart) [some (.ref a), some x, some yo, some y, some (.int m), x5, x6, x7] G3 (.l ((strD ss).drop (m + 1))) := ev_is (ev_sl (ev_var rfl rx3) (eo_some (K := K) (i := ((m + 1 : Nat) : Int)) (ev_is (ev_op (ev_var rfl .int) ev_int rv_add) (by rw [Int.natCast_add]; rfl))) eo_none rs_L) (by rw [cut_from])
        have one : Ev K (tLst (tCons (tVar 3) tNil)) [some (.ref a), some x, some yo, some y, some (.int m), x5, x6, x7] G3 (.l [e]) := ev_lst (ea_cons (ev_var rfl ry3) ea_nil) (by show 1 ≤ 100000; decide)
        have l1 : ((strD ss).take m).length + 1 ≤ 100000 := by rw [List.length_take, strD_len]; omega
        have l2 : ((strD ss).take m ++ [e]).length + ((strD ss).drop m).length ≤ 100000 := by
          simp only [List.length_append, List.length_take, List.length_drop, List.length_singleton, strD_len]
          omega
        have l3 : ((strD ss).take m ++ [e]).length + ((strD ss).drop (m + 1)).length ≤ 100000 := by
          simp only [List.length_append, List.length_take, List.length_drop, List.length_singleton, strD_len]
          omega
        refine s_for ([t1, t2, [e, e], [e]].map D.l) gr3 (src_tup (ev_tup (ea_cons (ev_op (ev_op cut1 one (rv_cat l1)) cut2 (rv_cat l2)) (ea_cons (ev_op (ev_op cut1 one (rv_cat l1)) cut3 (rv_cat l3)) (ea_cons (ev_lst (ea_cons (ev_var rfl ry3) (ea_cons (ev_var rfl ry3) ea_nil)) (by show 2 ≤ 100000; decide)) (ea_cons one ea_nil)))) (by show 4 ≤ 100000; decide)))
          (fun j σ' G' H' => (∃ x5 x6 x7, σ' = [some (.ref a), some x, some yo, some y, some (.int m), x5, x6, x7]) ∧ SpAt a (n + 5 * (17 - i) + (4 - j)) G' H')
          (fun j σ' Ga Ha Gb Hb ⟨h1, h2⟩ g => ⟨h1, (Wsp K a).stab _ _ _ _ _ h2 g⟩) (fun G4 H4 g => ⟨⟨x5, x6, x7, rfl⟩, (Wsp K a).stab _ _ _ _ _ sp3 g⟩) ?_ ?_
        · rintro j tD σ4 G4 H4 yt N2 ht ex4 gr4 ⟨⟨x5', x6', x7', rfl⟩, sp4⟩ rt hN2
          have hj : j < 4 := by
            have := (List.getElem?_eq_some_iff.mp ht).1
            simpa using this
          obtain ⟨es, hes, rfl⟩ : ∃ es ∈ [t1, t2, [e, e], [e]], tD = .l es := by
            obtain ⟨es, he1, he2⟩ := List.mem_map.mp (List.mem_of_getElem? ht)
            exact ⟨es, he1, he2.symm⟩
          obtain ⟨hb, hlen⟩ := hmem es hes
          have wd : Wd (.l es) := ⟨True.intro, fun _ => ⟨hb, hlen⟩⟩
          have wdt : Wd (.t es) := ⟨True.intro, fun _ => ⟨hb, hlen⟩⟩
          show tSeq (tAsg _ _) _ _ _ _
          refine q_asg gr4 (ev_call (D.l es) (ea_cons (ev_var rfl rt) ea_nil) wd) fun y6 G5 H5 g5 gr5 r6 => ?_
          have r6 : R K G5 y6 (wrongD (.l es)) := r6
          have rt5 := rt.mono g5.g
          have ew : Ev K (tIf (tTest (tOp rIsN (tVar 6) (tC .non))) (tTup (tCons (tC (.str "told")) (tCons (tVar 5) tNil))) (tTup (tCons (tC (.str "wrong")) (tCons (tVar 6) tNil)))) [some (.ref a), some x, some yo, some y, some (.int m), some yt, some y6, x7'] G5 (metD (.l es)) := by
            unfold metD
            rcases res_cases T wd.1 with ⟨k, _, hw⟩ | ⟨ts, _, hw, hs, _⟩
            · rw [hw] at r6 ⊢
              exact ev_if (b := false) (et_test (ev_bool (ev_op (ev_var rfl r6) ev_non rv_isN) (decide_eq_false (by intro z; cases z)))) (fun z => by cases z) fun _ => ev_tup (ea_cons ev_str (ea_cons (ev_var rfl r6) ea_nil)) (by show 2 ≤ 100000; decide)
            · rw [hw] at r6 ⊢
              exact ev_if (b := true) (et_test (ev_bool (ev_op (ev_var rfl r6) ev_non rv_isN) (decide_eq_true rfl))) (fun _ => ev_tup (ea_cons ev_str (ea_cons (ev_var rfl rt5) ea_nil)) (by show 2 ≤ 100000; decide)) fun z => by cases z
          refine q_asg gr5 ew fun y7 G6 H6 g6 gr6 r7 => ?_
          have rt6 := rt5.mono g6.g
          have sp6 := (Wsp K a).stab _ _ _ _ _ ((Wsp K a).stab _ _ _ _ _ sp4 g5) g6
          refine s_whenJ (W := Wsp K a) (n := n + 5 * (17 - i) + (4 - (j + 1))) (k := 1) (b := false) gr6 ((Wsp K a).le (by omega) sp6) (ejt_not (b := true) (ejt_B (ej_callP (P := fun ds => ds = [metD (.l es), metD (.l es)]) ?_ fun ds hds => ?_))) (fun z => by cases z) fun _ G7 H7 g7 gr7 sp7 => ?_
          · refine fun n' Ga Ha Qa ea sa ja qa => eja_head (W := Wsp K a) (k := 1) (P := fun d => d = metD (.l es)) (ej_callP (P := fun ds => ∃ d, ds = [d] ∧ (d = .l es ∨ d = .t es)) (fun n' Gb Hb Qb eb sb' jb qb => eja_head (W := Wsp K a) (k := 1) (ej_pick (ds := [.l es, .t es]) (by simp) (by show 2 ≤ 1000; decide) rfl (ev_lst (ea_cons (ev_cb (ea_cons (ev_var rfl rt6) ea_nil) rc_toL_L) (ea_cons (ev_cb (ea_cons (ev_var rfl rt6) ea_nil) rc_toT_L) ea_nil)) (by show 2 ≤ 100000; decide))) ea_nil n' Gb Hb Qb eb sb' jb fun ys ds G2 H2 g j p r => qb ys ds G2 H2 g j (by
                obtain ⟨d, rfl, hd⟩ := p
                exact ⟨d, rfl, by simpa using hd⟩) r) fun ds hds => ?_) (ea_cons (ev_var rfl r7) ea_nil) n' Ga Ha Qa ea sa ja fun ys ds G2 H2 g j p r => qa ys ds G2 H2 g j (by
                obtain ⟨d, rfl, rfl⟩ := p
                rfl) r
            obtain ⟨d, rfl, hd⟩ := hds
            refine ⟨d, rfl, ?_, ?_⟩
            · rcases hd with rfl | rfl
              · exact wd
              · exact wdt
            · exact met_seq hd
          · subst hds
            exact ⟨metD (.l es), rfl, dat_met T wd, rfl⟩
          · exact hN2 _ G7 H7 ((g5.g.trans g6.g).trans g7.g) gr7 ⟨⟨_, _, _, rfl⟩, sp7⟩
        · rintro σ4 G4 H4 ex4 gr4 ⟨⟨x5', x6', x7', rfl⟩, sp4⟩
          exact hN _ G4 H4 (g3.g.trans ex4) gr4 ⟨⟨_, _, _, _, _, rfl⟩, (Wsp K a).le (by show n + 5 * (18 - (i + 1)) ≤ n + 5 * (17 - i) + (4 - 4); omega) sp4⟩
      · rintro σ1 G2 H2 ex2 gr2 ⟨⟨x3, x4, x5, x6, x7, rfl⟩, sp2⟩
        exact s_retJ (W := Wsp K a) (k := 0) (n := n) (K := K) gr2 sp2 (ej_of ev_bl) fun yy d G10 H10 g j p r => q yy d G10 H10 g j p r
end
end RW

namespace RW
open PySem PySem.Spec L2
abbrev s_law : Stmt := top 23
theorem sc_law : FnScope ["_law_script", "_law_turn", "_law_spring_here", "_law_names", "_law_odd"] ["_law_script"] (defScope s_law) := ⟨rfl, rfl, rfl, by decide +kernel, rfl, by decide +kernel, by decide +kernel⟩
-- slots: 0:_law_script 1:_law_turn 2:_law_spring_here 3:_law_names 4:_law_odd
theorem Gr.shut2 {G H Gn Hn G' H' : Hp} {a : Addr} (g : Gr M0 G H Gn Hn) (ha : H a = none) (g' : Gr (fun b => b = a) Gn Hn G' H') : Gr M0 G H G' H' where
  g := g.g.trans g'.g
  h := fun b o _ e => g'.h b o (ne_of_none e ha) (g.ex b o e)
  s := g'.s
  n := fun b o e q => g'.n b o (g.ex b o e) (g.n b o e q)
  d := fun b o e => ⟨o, g'.h b o (ne_of_none e ha) (g.ex b o e)⟩
def spLaw (K : PySem.W.Frag) : Sp := fun vs H Q _ => ∃ (a : Addr) (ns : List Int), vs = [.ref a] ∧ Only H ∧ SqL K H a (ns.map V.int) ∧ ns.length ≤ 63 ∧ ∀ H', Q (.bl true) H'
theorem met_a1 : metD (.l [.v (.str "a")]) = .t [.v (.str "wrong"), .v (.int 1)] := by
  have h : firstBad [.v (.str "a")] = none := by decide +kernel
  have hw : wrongD (.l [.v (.str "a")]) = .v (.int 1) := by
    unfold wrongD
    show (match firstBad [.v (.str "a")] with
      | some i => D.v (.int (i : Nat))
      | none => if 1 < 2 then D.v (.int ((1 : Nat) : Int)) else .v .non) = _
    rw [h]
    rfl
  unfold metD
  rw [hw]
theorem met_a2 : metD (.t [.v (.str "a"), .v (.str "a")]) = .t [.v (.str "wrong"), .v (.int 1)] := by
  have h : firstBad [.v (.str "a"), .v (.str "a")] = some 1 := by decide +kernel
  have hw : wrongD (.t [.v (.str "a"), .v (.str "a")]) = .v (.int 1) := by
    unfold wrongD
    show (match firstBad [.v (.str "a"), .v (.str "a")] with
      | some i => D.v (.int (i : Nat))
      | none => if 2 < 2 then D.v (.int ((2 : Nat) : Int)) else .v .non) = _
    rw [h]
    rfl
  unfold metD
  rw [hw]
def oddsL (fD : Addr) : List D := [.v .non, .v (.int 5), .v (.str "ab"), .d [], .v (.bl true), .t [], .l [], .v (.ref fD), .d [(Sum.inr "a", .v (.str "b"))]]
theorem oddsL_ok (fD : Addr) : ∀ e ∈ oddsL fD, Wd e ∧ metD e = .t [.v (.str "wrong"), .v (.int 0)] := fun e he => by
  simp only [oddsL, List.mem_cons, List.not_mem_nil, or_false] at he
  rcases he with rfl | rfl | rfl | rfl | rfl | rfl | rfl | rfl | rfl
  · exact ⟨⟨True.intro, fun z => by cases z⟩, rfl⟩
  · exact ⟨⟨True.intro, fun z => by cases z⟩, rfl⟩
  · exact ⟨⟨by show 2 ≤ 100000; decide, fun z => by cases z⟩, rfl⟩
  · exact ⟨⟨True.intro, fun z => by cases z⟩, rfl⟩
  · exact ⟨⟨True.intro, fun z => by cases z⟩, rfl⟩
  · exact ⟨⟨True.intro, fun _ => ⟨(fun e he => by cases he), by show 0 ≤ 1000; decide⟩⟩, rfl⟩
  · exact ⟨⟨True.intro, fun _ => ⟨(fun e he => by cases he), by show 0 ≤ 1000; decide⟩⟩, rfl⟩
  · exact ⟨⟨True.intro, fun z => by cases z⟩, rfl⟩
  · exact ⟨⟨True.intro, fun z => by cases z⟩, rfl⟩
section
variable {P : Program} {w : PySem.World} {K : PySem.W.Frag} {mg : Str → Option Value} {base : Heap}
theorem ev_disp1 {σ : L2.St} {G : Hp} {k : Str} {z : Str} : Ev K (tDisp [(tC (.str k), tC (.str z))]) σ G (.d [(Sum.inr k, .v (.str z))]) := fun G1 H1 Q e s q p hp =>
  ⟨upd_same, [(Sum.inr k, .str z)], rfl, by show 1 ≤ 15; decide, by
    rw [upd_upd]
    exact q (.ref p) (upd G1 p (.dK [(Sum.inr k, .str z)])) _ (Gr.new s hp) (R.dict upd_same rfl (by simp) (.cons .str .nil))⟩
theorem ok_law (T : Tp P K mg) {f : Addr} {fd : FuncData} (F : Fun K "law" "law" s_law f fd) (hfD : FnK K T.fD)
    (d__law_spring : Def P w K mg base CX0 1 "_law_spring" ["_law_script", "_law_turn"] (spSpring K)) (d__law_w_names : Def P w K mg base CX0 3 "_law_w_names" ["_law_spring_here", "_law_least", "_law_most"] (spNames K))
    (d__law_told_right : Def P w K mg base CX0 6 "_law_told_right" ["_law_spring_here", "_law_names"] (spTold K)) (d__law_bent_right : Def P w K mg base CX0 6 "_law_bent_right" ["_law_spring_here", "_law_names"] (spBent K))
    (d__law_met : DefMet P w K mg base) (d__law_same : DefSame P w K mg base 4) : FnOk P w K mg base CX0 7 f fd ["_law_script"] (spLaw K) := by
  refine F.ok sc_law (fun vs H Q E h => ?_) (fun cdv A outer s H vs Q E hr h => ?_)
  · obtain ⟨a, ns, rfl, _⟩ := h
    rfl
  · obtain ⟨a, ns, rfl, hO, hS, hl, q⟩ := h
    have hr__law_spring : Room 1 _ := hr.mono (by decide)
    have hr__law_w_names : Room 3 _ := hr.mono (by decide)
    have hr__law_told_right : Room 6 _ := hr
    have hr__law_bent_right : Room 6 _ := hr
    have hr__law_met : Room 5 _ := hr.mono (by decide)
    have hr__law_same : Room 4 _ := hr.mono (by decide)
    refine ⟨_, (pss_cons (ps_for PassesOwn.never rfl (pi_range1 rfl T.n_range (pa_cons pe_int pa_nil)) (pg_name (i := 1) sc_law.nd rfl (Or.inl rfl)) (pss_cons (ps_set (i := 2) sc_law.nd rfl (Or.inl rfl) (pe_callD d__law_spring hr__law_spring pass0 (pa_cons (pv 0) (pa_cons (pv 1) pa_nil))))
      (pss_cons (ps_set (i := 3) sc_law.nd rfl (Or.inl rfl) (pe_callD d__law_w_names hr__law_w_names pass0 (pa_cons (pv 2) (pa_cons pe_int (pa_cons pe_int pa_nil)))))
      (pss_one (ps_if (PW.pt (pw_or (pt_not (pt_val (pe_callD d__law_told_right hr__law_told_right pass0 (pa_cons (pv 2) (pa_cons (pv 3) pa_nil))))) (pw_or1 (pt_not (pt_val (pe_callD d__law_bent_right hr__law_bent_right pass0 (pa_cons (pv 2) (pa_cons (pe_slice (kSl K) (pv 3) po_none (po_some pe_int)) pa_nil)))))))) (pss_one (ps_ret pe_bl)) pss_nil)))))
      (pss_cons (ps_for PassesOwn.never rfl (kTup K (pe_tup (pa_cons pe_non (pa_cons pe_int (pa_cons pe_str (pa_cons pe_dnewK (pa_cons pe_bl (pa_cons (pe_tup pa_nil) (pa_cons (pe_lst pa_nil) (pa_cons (pe_gref rfl T.m__law_draw) (pa_cons (pe_disp (pps_cons pe_str pe_str pps_nil) rfl rfl (by simp) (by show 1 ≤ 15; decide)) pa_nil))))))))))) (pg_name (i := 4) sc_law.nd rfl (Or.inl rfl)) (pss_one (ps_if (pt_not (pt_val (pe_callD d__law_same hr__law_same pass0 (pa_cons (pe_callD d__law_met hr__law_met pass0 (pa_cons (pv 4) pa_nil)) (pa_cons (pe_tup (pa_cons pe_str (pa_cons pe_int pa_nil))) pa_nil))))) (pss_one (ps_ret pe_bl)) pss_nil)))
      (pss_one (ps_ret (pe_callD d__law_same hr__law_same pass0 (pa_cons (pe_lst (pa_cons (pe_callD d__law_met hr__law_met pass0 (pa_cons (pe_lst (pa_cons pe_str pa_nil)) pa_nil)) (pa_cons (pe_callD d__law_met hr__law_met pass0 (pa_cons (pe_tup (pa_cons pe_str (pa_cons pe_str pa_nil))) pa_nil)) pa_nil))) (pa_cons (pe_lst (pa_cons (pe_tup (pa_cons pe_str (pa_cons pe_int pa_nil))) (pa_cons (pe_tup (pa_cons pe_str (pa_cons pe_int pa_nil))) pa_nil))) pa_nil))))))), ?_⟩
    have sb : Sub H H := fun b o e => .inl e
    have rS : R K H (.ref a) (.f (scrD ns)) := by
      refine .f (xs := ns.map V.int) ?_ (by simp [scrD]) fun i y d h1 h2 => ?_
      · rcases hS with (h | h) | h
        · rcases hO a with z | ⟨o, xs, z⟩
          · rw [z] at h; cases h
          · rw [z] at h; cases h
        · exact .inl h
        · exact .inr h
      · unfold scrD at h2
        rw [List.getElem?_map, h1] at h2
        cases h2
        rw [List.getElem?_map] at h1
        cases e : ns[i]? with
        | none => rw [e] at h1; cases h1
        | some n => rw [e] at h1; cases h1; exact .int
    have gr0 : Gr M0 H H H H := Gr.refl sb
    refine q_for ((List.range (3 : Int).toNat).map fun i => D.v (.int (i : Nat))) gr0 (src_rng1 (K := K) (ea_cons ev_int ea_nil) (by decide) (by decide)) (fun i σ' G' H' => ∃ x1 x2 x3, σ' = [some (.ref a), x1, x2, x3, none])
      (fun i σ' Ga Ha Gb Hb h g => h) (fun G1 H1 g => ⟨none, none, none, rfl⟩) ?_ ?_
    · rintro i dI σ1 G1 H1 yI N hd ex1 gr1 ⟨x1, x2, x3, rfl⟩ rI hN
      obtain ⟨hi, rfl⟩ : i < 3 ∧ dI = D.v (.int (i : Nat)) := by
        have h1 := (List.getElem?_eq_some_iff.mp hd).1
        have h2 : i < 3 := by simpa using h1
        refine ⟨h2, ?_⟩
        have : ((List.range (3 : Int).toNat).map fun i => D.v (.int (i : Nat)))[i]? = some (D.v (.int (i : Nat))) := by simp [h2]
        rw [this] at hd
        exact (Option.some.inj hd).symm
      obtain ⟨rfl, _⟩ := rI.v_inv
      have rS1 := rS.mono ex1
      refine q_raw ?_
      refine ⟨.ref a, rfl, .int (i : Nat), rfl, G1, ns, (i : Nat), gr1.s, .cons rS1 (.cons .int .nil), hl, by omega, by omega, fun sp c m G2 H2 g2 hsp hsG hsH hc hm0 hm1 => ?_⟩
      have j2 : SpAt sp (91 + 21) G2 H2 := ⟨hsG, c, m, 0, hsH, hc, hm0, hm1, Int.le_refl _, by decide⟩
      have gr2 : Gr (Wsp K sp).M G2 H2 G2 H2 := Gr.refl g2.s
      show tSeq (tAsg _ _) _ _ _ _
      refine q_asgJ (W := Wsp K sp) (n := 91) (k := 21) (P := fun d => ∃ ss, d = .l (strD ss) ∧ NamesOk ss ∧ 2 ≤ ss.length ∧ ss.length ≤ 20) gr2 j2 (ej_call (j := 0) (kk := 21) rfl (eja_of (ea_cons ev_int (ea_cons ev_int ea_nil))) fun ds e => ⟨((2, 20) : Nat × Nat), e, by decide, Nat.le_refl _, fun d h => h⟩) fun yn dn G3 H3 g3 gr3 j3 hn rn => ?_
      obtain ⟨ss, rfl, hss, h2, h20⟩ := hn
      have hss19 : NamesOk (ss.take 19) := ⟨hss.nd.sublist (List.take_sublist _ _), fun z hz => hss.ok z (List.mem_of_mem_take hz)⟩
      have e19 : (strD ss).take 19 = strD (ss.take 19) := by unfold strD; rw [List.map_take, List.map_take]
      refine s_whenJ (W := Wsp K sp) (n := 0) (k := 1 + 90) (b := false) gr3 j3 (ejt_orr (ejt_not (b := true) (ejt_B (ej_call (j := 0) (kk := 1) rfl (eja_of (ea_cons (ev_var rfl rn) ea_nil)) fun ds e => ⟨ss, e, ⟨hss, h2, h20⟩, Nat.le_refl _, fun d h => h⟩)))
        (ejt_not (b := true) (ejt_B (ej_call (j := 0) (kk := 90) rfl (eja_of (ea_cons (ev_is (ev_sl (ev_var rfl rn) eo_none (eo_some (K := K) (i := ((19 : Nat) : Int)) ev_int) rs_L) (congrArg D.l (cut_to.trans e19))) ea_nil)) fun ds e => ⟨ss.take 19, e, ⟨hss19, by rw [List.length_take]; omega, by rw [List.length_take]; omega⟩, Nat.le_refl _, fun d h => h⟩)))) (fun z => by cases z) fun _ G4 H4 g4 gr4 j4 => ?_
      exact hN _ G4 H4 (g2.g.trans gr4.g) (gr1.trans (Gr.shut2 g2 hsp gr4)) ⟨_, _, _, rfl⟩
    · rintro σ1 G1 H1 ex1 gr1 ⟨x1, x2, x3, rfl⟩
      have src : Src K (iTup K (tTup _)) [some (.ref a), x1, x2, x3, none] G1 (oddsL T.fD) := src_tup (ev_tup (ea_cons ev_non (ea_cons ev_int (ea_cons ev_str (ea_cons ev_dnew (ea_cons ev_bl (ea_cons (ev_tup ea_nil (by decide)) (ea_cons (ev_lst ea_nil (by decide)) (ea_cons (ev_c hfD) (ea_cons ev_disp1 ea_nil))))))))) (by show 9 ≤ 100000; decide))
      refine q_for (oddsL T.fD) gr1 src (fun i σ' G' H' => ∃ x4, σ' = [some (.ref a), x1, x2, x3, x4]) (fun i σ' Ga Ha Gb Hb h g => h) (fun G2 H2 g => ⟨none, rfl⟩) ?_ ?_
      · rintro i e σ2 G2 H2 y N he ex2 gr2 ⟨x4, rfl⟩ ry hN
        obtain ⟨wd, hm⟩ := oddsL_ok T.fD e (List.mem_of_getElem? he)
        have em := ev_call (K := K) (σ := [some (.ref a), x1, x2, x3, some y]) (ta := tCons (tVar 4) tNil) (args := fun d : D => [d]) (dom := Wd) (res := metD) (E := E0) e (ea_cons (ev_var rfl ry) ea_nil) wd
        rw [hm] at em
        have dat : Dat 3 (.t [.v (.str "wrong"), .v (.int 0)]) := ⟨by show 2 ≤ 1000; decide, fun z hz => by
          simp only [List.mem_cons, List.not_mem_nil, or_false] at hz
          rcases hz with rfl | rfl
          · show (5 : Nat) ≤ 100000
            decide
          · exact True.intro⟩
        refine s_when (b := false) gr2 (et_not (a := true) (et_B (ev_call (D.t [.v (.str "wrong"), .v (.int 0)]) (ea_cons em (ea_cons (ev_tup (ea_cons ev_str (ea_cons ev_int ea_nil)) (by show 2 ≤ 100000; decide)) ea_nil)) dat))) (fun z => by cases z) fun _ G3 H3 g3 gr3 => ?_
        exact hN _ G3 H3 g3.g gr3 ⟨_, rfl⟩
      · rintro σ2 G2 H2 ex2 gr2 ⟨x4, rfl⟩
        have wd1 : Wd (.l [.v (.str "a")]) := ⟨True.intro, fun _ => ⟨fun e he => by
          simp only [seqOf, List.mem_singleton] at he
          subst he
          show (1 : Nat) ≤ 100000
          decide, by show 1 ≤ 1000; decide⟩⟩
        have wd2 : Wd (.t [.v (.str "a"), .v (.str "a")]) := ⟨True.intro, fun _ => ⟨fun e he => by
          simp only [seqOf, List.mem_cons, List.not_mem_nil, or_false] at he
          rcases he with rfl | rfl <;> (show (1 : Nat) ≤ 100000; decide), by show 2 ≤ 1000; decide⟩⟩
        have m1 := ev_call (K := K) (σ := [some (.ref a), x1, x2, x3, x4]) (G := G2) (args := fun d : D => [d]) (dom := Wd) (res := metD) (E := E0) (D.l [.v (.str "a")]) (ea_cons (ev_lst (ea_cons ev_str ea_nil) (by show 1 ≤ 100000; decide)) ea_nil) wd1
        have m2 := ev_call (K := K) (σ := [some (.ref a), x1, x2, x3, x4]) (G := G2) (args := fun d : D => [d]) (dom := Wd) (res := metD) (E := E0) (D.t [.v (.str "a"), .v (.str "a")]) (ea_cons (ev_tup (ea_cons ev_str (ea_cons ev_str ea_nil)) (by show 2 ≤ 100000; decide)) ea_nil) wd2
        rw [met_a1] at m1
        rw [met_a2] at m2
        have dat1 : Dat 2 (.t [.v (.str "wrong"), .v (.int 1)]) := ⟨by show 2 ≤ 1000; decide, fun z hz => by
          simp only [List.mem_cons, List.not_mem_nil, or_false] at hz
          rcases hz with rfl | rfl
          · show (5 : Nat) ≤ 100000
            decide
          · exact True.intro⟩
        have dat : Dat 3 (.l [.t [.v (.str "wrong"), .v (.int 1)], .t [.v (.str "wrong"), .v (.int 1)]]) := ⟨by show 2 ≤ 1000; decide, fun z hz => by
          simp only [List.mem_cons, List.not_mem_nil, or_false] at hz
          rcases hz with rfl | rfl <;> exact dat1⟩
        have p1 : ∀ {σ : L2.St} {G : Hp}, Ev K (tTup (tCons (tC (.str "wrong")) (tCons (tC (.int 1)) tNil))) σ G (.t [.v (.str "wrong"), .v (.int 1)]) := fun {σ G} => ev_tup (ea_cons ev_str (ea_cons ev_int ea_nil)) (by show 2 ≤ 100000; decide)
        refine s_ret (K := K) (d := .v (.bl true)) gr2 (ev_call (D.l [.t [.v (.str "wrong"), .v (.int 1)], .t [.v (.str "wrong"), .v (.int 1)]]) (ea_cons (ev_lst (ea_cons m1 (ea_cons m2 ea_nil)) (by show 2 ≤ 100000; decide)) (ea_cons (ev_lst (ea_cons p1 (ea_cons p1 ea_nil)) (by show 2 ≤ 100000; decide)) ea_nil)) dat) fun y G3 H3 g r => ?_
        obtain ⟨rfl, _⟩ := r.v_inv
        exact q H3
end
end RW

namespace RW
open PySem PySem.Spec L2
/-- an error of the class at S is what «except S» names -/
theorem exm_self {K : PySem.W.Frag} {S : Addr} (h1 : PySem.W.subIn K (.ref S) (.type "BaseException") = some true) (h2 : PySem.W.isClsIn K S = true) (h3 : PySem.W.typeIn K (.ref S) = some (.type "type")) (h4 : PySem.W.subIn K (.ref S) (.ref S) = some true) :
    PySem.W.exmOne K (.ref S) (.ref S) = some true := by
  have e1 : (PySem.W.subIn K (.ref S) (.type "BaseException") == some true) = true := by rw [h1] <;> rfl
  have e2 : ((PySem.W.clsIn K S).isSome && PySem.W.typeIn K (.ref S) == some (.type "type")) = true := by
    have h2' : (PySem.W.clsIn K S).isSome = true := h2
    rw [h2', h3] <;> rfl
  show (if (PySem.W.subIn K (.ref S) (.type "BaseException") == some true) = true then (if ((PySem.W.clsIn K S).isSome && PySem.W.typeIn K (.ref S) == some (.type "type")) = true then PySem.W.subIn K (.ref S) (.ref S) else none) else none) = some true
  rw [if_pos e1, if_pos e2]
  exact h4
theorem kb_init {K : PySem.W.Frag} {fd : FuncData} (b : Binds K fd ["self", "walkers"] []) : True := True.intro
theorem all_mk {w : PySem.World} {K : PySem.W.Frag} {h : Heap} {mg : Str → Option Value} {fa : Addr} (X : K.In h) (G : h.Ns mainGlobals mg) (hfa : mg "law" = some (.ref fa))
    {f0 : Addr} {od0 an0 : Option Addr} {sl0 : Array (Option Value)} {oc0 kV0 dc0 pm0 cd0 ct0 : Value}
    {f1 : Addr} {od1 an1 : Option Addr} {sl1 : Array (Option Value)} {oc1 kV1 dc1 pm1 cd1 ct1 : Value}
    {f2 : Addr} {od2 an2 : Option Addr} {sl2 : Array (Option Value)} {oc2 kV2 dc2 pm2 cd2 ct2 : Value}
    {f3 : Addr} {od3 an3 : Option Addr} {sl3 : Array (Option Value)} {kV3 dc3 pm3 cd3 ct3 : Value}
    {f4 : Addr} {od4 an4 : Option Addr} {sl4 : Array (Option Value)} {oc4 kV4 dc4 pm4 cd4 ct4 : Value}
    {f5 : Addr} {od5 an5 : Option Addr} {sl5 : Array (Option Value)} {oc5 kV5 dc5 pm5 cd5 ct5 : Value}
    {f6 : Addr} {od6 an6 : Option Addr} {sl6 : Array (Option Value)} {oc6 kV6 dc6 pm6 cd6 ct6 : Value}
    {f7 : Addr} {od7 an7 : Option Addr} {sl7 : Array (Option Value)} {oc7 kV7 dc7 pm7 cd7 ct7 : Value}
    {f8 : Addr} {od8 an8 : Option Addr} {sl8 : Array (Option Value)} {oc8 kV8 dc8 pm8 cd8 ct8 : Value}
    {f9 : Addr} {od9 an9 : Option Addr} {sl9 : Array (Option Value)} {oc9 kV9 dc9 pm9 cd9 ct9 : Value}
    {f10 : Addr} {od10 an10 : Option Addr} {sl10 : Array (Option Value)} {oc10 kV10 dc10 pm10 cd10 ct10 : Value}
    {f11 : Addr} {od11 an11 : Option Addr} {sl11 : Array (Option Value)} {oc11 kV11 dc11 pm11 cd11 ct11 : Value}
    {f12 : Addr} {od12 an12 : Option Addr} {sl12 : Array (Option Value)} {oc12 kV12 dc12 pm12 cd12 ct12 : Value}
    {f13 : Addr} {od13 an13 : Option Addr} {sl13 : Array (Option Value)} {oc13 kV13 dc13 pm13 cd13 ct13 : Value}
    {CP : Addr}
    {fm0 : Addr} {odm0 anm0 : Option Addr} {slm0 : Array (Option Value)} {ocm0 kVm0 dcm0 pmm0 cdm0 ctm0 : Value}
    {fm1 : Addr} {odm1 anm1 : Option Addr} {slm1 : Array (Option Value)} {ocm1 kVm1 dcm1 pmm1 cdm1 ctm1 : Value}
    {fm2 : Addr} {odm2 anm2 : Option Addr} {slm2 : Array (Option Value)} {ocm2 kVm2 dcm2 pmm2 cdm2 ctm2 : Value}
    {tkL tkF : Tok}
    {CB CW fB cda cc : Addr} {nmB qB : Str} {NB : Addr} {bsB : List Value} {snB : List Str} {subB : List Value} {abB : Bool} {colB : Option Bool} {ddB : Option Addr} {q0B q1B q2B q3B q5B : Option Value} {ocB : Value} {odB : Option Addr} {dcB pmB : Value} {anB : Option Addr} {ctB cclB clB : Value} {cddB cldB : Option Addr} {oslB ccsB cslB : Array (Option Value)} {vsB : Array Value} {fileB : Str} {tfB : Tok} {p1 p2 q1 q2 q3 q4 q5 q6 q7 q8 q9 q0 : Pos}
    (x_a0 : PySem.W.nsIn K mainGlobals "is_list" = some (some (.ref f0)))
    (x_l0 : K.lookup f0 = some ⟨oc0, od0, .func (PySem.W.fnOf "is_list" "is_list" (defArgs s_is_list) (defBody s_is_list) (defScope s_is_list) .none kV0 dc0 pm0 an0 cd0 ct0), sl0⟩)
    (x_c0 : PySem.W.codeIn K cd0 "is_list" = true)
    (x_k0 : PySem.W.keepIn K (.ref f0) = true)
    (x_a1 : PySem.W.nsIn K mainGlobals "is_name" = some (some (.ref f1)))
    (x_l1 : K.lookup f1 = some ⟨oc1, od1, .func (PySem.W.fnOf "is_name" "is_name" (defArgs s_is_name) (defBody s_is_name) (defScope s_is_name) .none kV1 dc1 pm1 an1 cd1 ct1), sl1⟩)
    (x_c1 : PySem.W.codeIn K cd1 "is_name" = true)
    (x_k1 : PySem.W.keepIn K (.ref f1) = true)
    (x_a2 : PySem.W.nsIn K mainGlobals "_law_spring" = some (some (.ref f2)))
    (x_l2 : K.lookup f2 = some ⟨oc2, od2, .func (PySem.W.fnOf "_law_spring" "_law_spring" (defArgs s_law_spring) (defBody s_law_spring) (defScope s_law_spring) .none kV2 dc2 pm2 an2 cd2 ct2), sl2⟩)
    (x_c2 : PySem.W.codeIn K cd2 "_law_spring" = true)
    (x_k2 : PySem.W.keepIn K (.ref f2) = true)
    (x_a3 : PySem.W.nsIn K mainGlobals "_law_draw" = some (some (.ref f3)))
    (x_l3 : K.lookup f3 = some ⟨(.type "function"), od3, .func (PySem.W.fnOf "_law_draw" "_law_draw" (defArgs s_law_draw) (defBody s_law_draw) (defScope s_law_draw) .none kV3 dc3 pm3 an3 cd3 ct3), sl3⟩)
    (x_c3 : PySem.W.codeIn K cd3 "_law_draw" = true)
    (x_k3 : PySem.W.keepIn K (.ref f3) = true)
    (x_a4 : PySem.W.nsIn K mainGlobals "_law_pick" = some (some (.ref f4)))
    (x_l4 : K.lookup f4 = some ⟨oc4, od4, .func (PySem.W.fnOf "_law_pick" "_law_pick" (defArgs s_law_pick) (defBody s_law_pick) (defScope s_law_pick) .none kV4 dc4 pm4 an4 cd4 ct4), sl4⟩)
    (x_c4 : PySem.W.codeIn K cd4 "_law_pick" = true)
    (x_k4 : PySem.W.keepIn K (.ref f4) = true)
    (x_a5 : PySem.W.nsIn K mainGlobals "_law_mixed" = some (some (.ref f5)))
    (x_l5 : K.lookup f5 = some ⟨oc5, od5, .func (PySem.W.fnOf "_law_mixed" "_law_mixed" (defArgs s_law_mixed) (defBody s_law_mixed) (defScope s_law_mixed) .none kV5 dc5 pm5 an5 cd5 ct5), sl5⟩)
    (x_c5 : PySem.W.codeIn K cd5 "_law_mixed" = true)
    (x_k5 : PySem.W.keepIn K (.ref f5) = true)
    (x_a6 : PySem.W.nsIn K mainGlobals "_law_same" = some (some (.ref f6)))
    (x_l6 : K.lookup f6 = some ⟨oc6, od6, .func (PySem.W.fnOf "_law_same" "_law_same" (defArgs s_law_same) (defBody s_law_same) (defScope s_law_same) .none kV6 dc6 pm6 an6 cd6 ct6), sl6⟩)
    (x_c6 : PySem.W.codeIn K cd6 "_law_same" = true)
    (x_k6 : PySem.W.keepIn K (.ref f6) = true)
    (x_a7 : PySem.W.nsIn K mainGlobals "_law_w_names" = some (some (.ref f7)))
    (x_l7 : K.lookup f7 = some ⟨oc7, od7, .func (PySem.W.fnOf "_law_w_names" "_law_w_names" (defArgs s_law_w_names) (defBody s_law_w_names) (defScope s_law_w_names) .none kV7 dc7 pm7 an7 cd7 ct7), sl7⟩)
    (x_c7 : PySem.W.codeIn K cd7 "_law_w_names" = true)
    (x_k7 : PySem.W.keepIn K (.ref f7) = true)
    (x_a8 : PySem.W.nsIn K mainGlobals "_law_is_name" = some (some (.ref f8)))
    (x_l8 : K.lookup f8 = some ⟨oc8, od8, .func (PySem.W.fnOf "_law_is_name" "_law_is_name" (defArgs s_law_is_name) (defBody s_law_is_name) (defScope s_law_is_name) .none kV8 dc8 pm8 an8 cd8 ct8), sl8⟩)
    (x_c8 : PySem.W.codeIn K cd8 "_law_is_name" = true)
    (x_k8 : PySem.W.keepIn K (.ref f8) = true)
    (x_a9 : PySem.W.nsIn K mainGlobals "_law_wrong" = some (some (.ref f9)))
    (x_l9 : K.lookup f9 = some ⟨oc9, od9, .func (PySem.W.fnOf "_law_wrong" "_law_wrong" (defArgs s_law_wrong) (defBody s_law_wrong) (defScope s_law_wrong) .none kV9 dc9 pm9 an9 cd9 ct9), sl9⟩)
    (x_c9 : PySem.W.codeIn K cd9 "_law_wrong" = true)
    (x_k9 : PySem.W.keepIn K (.ref f9) = true)
    (x_a10 : PySem.W.nsIn K mainGlobals "_law_met" = some (some (.ref f10)))
    (x_l10 : K.lookup f10 = some ⟨oc10, od10, .func (PySem.W.fnOf "_law_met" "_law_met" (defArgs s_law_met) (defBody s_law_met) (defScope s_law_met) .none kV10 dc10 pm10 an10 cd10 ct10), sl10⟩)
    (x_c10 : PySem.W.codeIn K cd10 "_law_met" = true)
    (x_k10 : PySem.W.keepIn K (.ref f10) = true)
    (x_a11 : PySem.W.nsIn K mainGlobals "_law_told_right" = some (some (.ref f11)))
    (x_l11 : K.lookup f11 = some ⟨oc11, od11, .func (PySem.W.fnOf "_law_told_right" "_law_told_right" (defArgs s_law_told_right) (defBody s_law_told_right) (defScope s_law_told_right) .none kV11 dc11 pm11 an11 cd11 ct11), sl11⟩)
    (x_c11 : PySem.W.codeIn K cd11 "_law_told_right" = true)
    (x_k11 : PySem.W.keepIn K (.ref f11) = true)
    (x_a12 : PySem.W.nsIn K mainGlobals "_law_bent_right" = some (some (.ref f12)))
    (x_l12 : K.lookup f12 = some ⟨oc12, od12, .func (PySem.W.fnOf "_law_bent_right" "_law_bent_right" (defArgs s_law_bent_right) (defBody s_law_bent_right) (defScope s_law_bent_right) .none kV12 dc12 pm12 an12 cd12 ct12), sl12⟩)
    (x_c12 : PySem.W.codeIn K cd12 "_law_bent_right" = true)
    (x_k12 : PySem.W.keepIn K (.ref f12) = true)
    (x_a13 : PySem.W.nsIn K mainGlobals "law" = some (some (.ref f13)))
    (x_l13 : K.lookup f13 = some ⟨oc13, od13, .func (PySem.W.fnOf "law" "law" (defArgs s_law) (defBody s_law) (defScope s_law) .none kV13 dc13 pm13 an13 cd13 ct13), sl13⟩)
    (x_c13 : PySem.W.codeIn K cd13 "law" = true)
    (x_k13 : PySem.W.keepIn K (.ref f13) = true)
    (x_gP : PySem.W.nsIn K mainGlobals "Path" = some (some (.ref CP)))
    (x_am0 : PySem.W.findIn K (.ref CP) "__init__" = some (some (.ref fm0)))
    (x_lm0 : K.lookup fm0 = some ⟨ocm0, odm0, .func (PySem.W.fnOf "__init__" "Path.__init__" (defArgs s_Path_init) (defBody s_Path_init) (defScope s_Path_init) .none kVm0 dcm0 pmm0 anm0 cdm0 ctm0), slm0⟩)
    (x_cm0 : PySem.W.codeIn K cdm0 "Path.__init__" = true)
    (x_km0 : PySem.W.keepIn K (.ref fm0) = true)
    (x_im0 : PySem.W.isFn K (.ref fm0) = true)
    (x_am1 : PySem.W.findIn K (.ref CP) "walkers" = some (some (.ref fm1)))
    (x_lm1 : K.lookup fm1 = some ⟨ocm1, odm1, .func (PySem.W.fnOf "walkers" "Path.walkers" (defArgs s_Path_walkers) (defBody s_Path_walkers) (defScope s_Path_walkers) .none kVm1 dcm1 pmm1 anm1 cdm1 ctm1), slm1⟩)
    (x_cm1 : PySem.W.codeIn K cdm1 "Path.walkers" = true)
    (x_km1 : PySem.W.keepIn K (.ref fm1) = true)
    (x_im1 : PySem.W.isFn K (.ref fm1) = true)
    (x_am2 : PySem.W.findIn K (.ref CP) "__eq__" = some (some (.ref fm2)))
    (x_lm2 : K.lookup fm2 = some ⟨ocm2, odm2, .func (PySem.W.fnOf "__eq__" "Path.__eq__" (defArgs s_Path_eq) (defBody s_Path_eq) (defScope s_Path_eq) .none kVm2 dcm2 pmm2 anm2 cdm2 ctm2), slm2⟩)
    (x_cm2 : PySem.W.codeIn K cdm2 "Path.__eq__" = true)
    (x_km2 : PySem.W.keepIn K (.ref fm2) = true)
    (x_im2 : PySem.W.isFn K (.ref fm2) = true)
    (x_pg : PySem.W.plainGet K CP Str.empty = true)
    (x_hd : PySem.W.hasDictIn K CP = true)
    (x_po : PySem.W.plainOver K CP = true)
    (x_sa : PySem.W.findIn K (.ref CP) "__setattr__" = some (some (.builtin "object.__setattr__")))
    (x_ca : PySem.W.findIn K (.ref CP) "__class__" = some (some (.builtin "object.__class__")))
    (x_cg : PySem.W.specialIn K (.builtin "object.__class__") "__get__" = some (some (.builtin "getset_descriptor.__get__")))
    (x_ct : PySem.W.takesIn K (.builtin "object.__class__") = some true)
    (x_cm : PySem.W.mroIn K CP (.type "object") = some true)
    (x_ne : PySem.W.findIn K (.ref CP) "__ne__" = some (some (.builtin "object.__ne__")))
    (x_mk : PySem.W.makesIn K CP = true)
    (x_kC : PySem.W.keepIn K (.ref CP) = true)
    (x_no_names : PySem.W.findIn K (.ref CP) "names" = some none)
    (x_no_many : PySem.W.findIn K (.ref CP) "many" = some none)
    (x_no_ranks : PySem.W.findIn K (.ref CP) "ranks" = some none)
    (x_kp_NoneType : PySem.W.kitOne K (.type "NoneType") (.ref CP) = some false)
    (x_nf_NoneType : PySem.W.notFirst K CP (.type "NoneType") = true)
    (x_kp_bool : PySem.W.kitOne K (.type "bool") (.ref CP) = some false)
    (x_nf_bool : PySem.W.notFirst K CP (.type "bool") = true)
    (x_kp_int : PySem.W.kitOne K (.type "int") (.ref CP) = some false)
    (x_nf_int : PySem.W.notFirst K CP (.type "int") = true)
    (x_kp_str : PySem.W.kitOne K (.type "str") (.ref CP) = some false)
    (x_nf_str : PySem.W.notFirst K CP (.type "str") = true)
    (x_kp_function : PySem.W.kitOne K (.type "function") (.ref CP) = some false)
    (x_nf_function : PySem.W.notFirst K CP (.type "function") = true)
    (x_kp_list : PySem.W.kitOne K (.type "list") (.ref CP) = some false)
    (x_nf_list : PySem.W.notFirst K CP (.type "list") = true)
    (x_kp_tuple : PySem.W.kitOne K (.type "tuple") (.ref CP) = some false)
    (x_nf_tuple : PySem.W.notFirst K CP (.type "tuple") = true)
    (x_kp_dict : PySem.W.kitOne K (.type "dict") (.ref CP) = some false)
    (x_nf_dict : PySem.W.notFirst K CP (.type "dict") = true)
    (x_n_len : PySem.W.nsIn K mainGlobals "len" = some none)
    (x_n_isinstance : PySem.W.nsIn K mainGlobals "isinstance" = some none)
    (x_n_any : PySem.W.nsIn K mainGlobals "any" = some none)
    (x_n_all : PySem.W.nsIn K mainGlobals "all" = some none)
    (x_n_range : PySem.W.nsIn K mainGlobals "range" = some none)
    (x_n_enumerate : PySem.W.nsIn K mainGlobals "enumerate" = some none)
    (x_n_zip : PySem.W.nsIn K mainGlobals "zip" = some none)
    (x_n_list : PySem.W.nsIn K mainGlobals "list" = some none)
    (x_n_tuple : PySem.W.nsIn K mainGlobals "tuple" = some none)
    (x_n_dict : PySem.W.nsIn K mainGlobals "dict" = some none)
    (x_n_str : PySem.W.nsIn K mainGlobals "str" = some none)
    (x_n_int : PySem.W.nsIn K mainGlobals "int" = some none)
    (x_n_bool : PySem.W.nsIn K mainGlobals "bool" = some none)
    (x_n_super : PySem.W.nsIn K mainGlobals "super" = some none)
    (x_gL : PySem.W.nsIn K mainGlobals "LETTERS" = some (some (.str "abcdefghijklmnopqrstuvwxyz" tkL)))
    (x_gF : PySem.W.nsIn K mainGlobals "FIGURES" = some (some (.str "0123456789" tkF)))
    (x_bC : PySem.W.nsIn K mainGlobals "BadWalkers" = some (some (.ref CB)))
    (x_bL : K.lookup CB = some (excClassObj nmB qB CB NB bsB [.ref CW, .type "ValueError", .type "Exception", .type "BaseException", .type "object"] true snB subB abB colB ddB q0B q1B q2B q3B q5B "ValueError.__new__"))
    (x_bR : PySem.HandSPX.refsVE [.ref CW, .type "ValueError", .type "Exception", .type "BaseException", .type "object"] = true)
    (x_bsa : PySem.W.findIn K (.ref CB) "__setattr__" = some (some (.builtin "object.__setattr__")))
    (x_bga : PySem.W.findIn K (.ref CB) "__getattribute__" = some (some (.builtin "BaseException.__getattribute__")))
    (x_bgg : PySem.W.findIn K (.ref CB) "__getattr__" = some none)
    (x_bno : PySem.W.findIn K (.ref CB) "index" = some none)
    (x_bi : PySem.W.findIn K (.ref CB) "__init__" = some (some (.ref fB)))
    (x_bt : PySem.W.typeIn K (.ref fB) = some (.type "function"))
    (x_bk : PySem.W.keepIn K (.ref CB) = true)
    (x_be : PySem.W.subIn K (.ref CB) (.type "BaseException") = some true)
    (x_bty : PySem.W.typeIn K (.ref CB) = some (.type "type"))
    (x_bhd : PySem.W.hasDictIn K CB = true)
    (x_bic : PySem.W.isClsIn K CB = true)
    (x_bss : PySem.W.subIn K (.ref CB) (.ref CB) = some true)
    (x_bmr : PySem.W.mroIn K CB (.ref CB) = some true)
    (x_bsp : PySem.W.ks_superIn K CB CB "__init__" = some (some (.builtin "ValueError.__init__")))
    (x_bsv : PySem.W.subIn K (.ref CB) (.type "ValueError") = some true)
    (x_bop : PySem.W.nsIn K cStatics "thirdparty.any" = some none)
    (x_bl : K.lookup fB = some ⟨ocB, odB, .func (PySem.W.fnX "__init__" "BadWalkers.__init__" (PySem.RWX.badA "index" p1 p2) (PySem.RWX.badB "index" q1 q2 q3 q4 q5 q6 q7 q8 q9 q0) (PySem.RWX.badS "index") [(("__class__" : Str), cc)] .none .none dcB pmB anB (.ref cda) ctB), oslB⟩)
    (x_bc : PySem.W.codeIn K (.ref cda) "BadWalkers.__init__" = true)
    (x_bcd : K.lookup cda = some ⟨cclB, cddB, .fields vsB, ccsB⟩)
    (x_bvs : vsB[2]? = some (.str fileB tfB))
    (x_bfi : ((PySem.Challenge.rw_ringwalkers_k01_whole_paths.prog.main.file : Str) == fileB) = true)
    (x_bce : K.lookup cc = some ⟨clB, cldB, .cell (some (.ref CB)), cslB⟩)
    (x_bcall : PySem.RWX.BadCall "index" q1 q2 q3 q4 q5)
    : ∃ fd : FuncData, (∀ (s : Shared) (v : Value), BindsTo s fd ⟨[v], []⟩ [("_law_script", v)]) ∧ ∀ base : Heap, K.In base → base.Ns mainGlobals mg → FnOk PySem.Challenge.rw_ringwalkers_k01_whole_paths.prog w K mg base CX0 7 fa fd ["_law_script"] (spLaw K) := by
  have e := hfa.symm.trans (PySem.W.mg_of X G x_a13)
  cases e
  have bad : PySem.RWX.BadTxt PySem.Challenge.rw_ringwalkers_k01_whole_paths.prog K mg "BadWalkers" CB fB "index" :=
    { bd := fun _ _ _ _ _ _ _ _ _ _ _ _ _ _ _ _ _ _ _ _ _ => rfl, gC := PySem.W.mg_of X G x_bC, cls := ⟨_, _, _, _, _, _, _, _, _, _, _, _, _, _, _, x_bL, x_bR⟩, sa := x_bsa, ga := x_bga, gg := x_bgg, noN := x_bno, iC := x_bi, tC := x_bt, kC := x_bk, exC := x_be, tyC := x_bty, hdC := x_bhd,
      te := exm_self x_be x_bic x_bty x_bss, mr := x_bmr, sp := x_bsp, sv := x_bsv, op := x_bop, su := PySem.W.mg_none_of X G x_n_super, nmf := ⟨by decide, by decide, by decide, by decide⟩, top := by decide +kernel,
      fn := ⟨_, _, _, _, _, _, _, _, _, _, _, _, _, _, _, _, _, _, _, _, _, _, _, _, _, _, _, _, _, _, _, x_bl, x_bc, x_bcd, x_bvs, x_bfi, x_bce, x_bcall⟩ }
  have clp : Cls K CP := ⟨x_pg, x_hd, x_po, x_sa⟩
  obtain ⟨T, e1, e2, e3, e4⟩ : ∃ T : Tp PySem.Challenge.rw_ringwalkers_k01_whole_paths.prog K mg, fm0 = T.aI ∧ fm1 = T.aW ∧ fm2 = T.aE ∧ f3 = T.fD := ⟨
    { CP := CP, CB := CB, tkL := tkL, tkF := tkF, fB := fB, aI := fm0, aW := fm1, aE := fm2, fD := f3,
      n_len := PySem.W.mg_none_of X G x_n_len, n_isinstance := PySem.W.mg_none_of X G x_n_isinstance, n_any := PySem.W.mg_none_of X G x_n_any, n_all := PySem.W.mg_none_of X G x_n_all, n_range := PySem.W.mg_none_of X G x_n_range, n_enumerate := PySem.W.mg_none_of X G x_n_enumerate, n_zip := PySem.W.mg_none_of X G x_n_zip, n_list := PySem.W.mg_none_of X G x_n_list, n_tuple := PySem.W.mg_none_of X G x_n_tuple, n_dict := PySem.W.mg_none_of X G x_n_dict, n_str := PySem.W.mg_none_of X G x_n_str, n_int := PySem.W.mg_none_of X G x_n_int, n_bool := PySem.W.mg_none_of X G x_n_bool,
      g_LETTERS := PySem.W.mg_of X G x_gL, g_FIGURES := PySem.W.mg_of X G x_gF, g_Path := PySem.W.mg_of X G x_gP, bad_BadWalkers := bad,
      eqP := { cl := clp, ca := x_ca, cg := x_cg, ct := x_ct, cm := x_cm, eq := x_am2, fn := x_im2, ne := x_ne }, mk_Path := ⟨x_mk, x_am0, x_im0, x_kC⟩, no_names := x_no_names, no_many := x_no_many, no_ranks := x_no_ranks, mt_walkers := ⟨x_am1, x_im1, x_km1⟩,
      kp := fun n hn => by
        simp only [List.mem_cons, List.not_mem_nil, or_false] at hn
        rcases hn with rfl | rfl | rfl | rfl | rfl | rfl | rfl | rfl
        · exact x_kp_NoneType
        · exact x_kp_bool
        · exact x_kp_int
        · exact x_kp_str
        · exact x_kp_function
        · exact x_kp_list
        · exact x_kp_tuple
        · exact x_kp_dict,
      nf := fun n hn => by
        simp only [List.mem_cons, List.not_mem_nil, or_false] at hn
        rcases hn with rfl | rfl | rfl | rfl | rfl | rfl | rfl | rfl
        · exact x_nf_NoneType
        · exact x_nf_bool
        · exact x_nf_int
        · exact x_nf_str
        · exact x_nf_function
        · exact x_nf_list
        · exact x_nf_tuple
        · exact x_nf_dict,
      m__law_draw := PySem.W.mg_of X G x_a3, exm := exm_self x_be x_bic x_bty x_bss }, rfl, rfl, rfl, rfl⟩
  subst e1 e2 e3 e4
  have F0 := fun_mk (st := s_is_list) x_l0 x_c0 x_k0
  have b0 := F0.binds (ps := ["thing"]) fun _ _ _ _ _ _ us hl => match us, hl with | [_], _ => rfl
  have D0 : TopD K mg "is_list" "is_list" s_is_list ["thing"] f0 := ⟨_, PySem.W.mg_of X G x_a0, F0, b0⟩
  have F1 := fun_mk (st := s_is_name) x_l1 x_c1 x_k1
  have b1 := F1.binds (ps := ["thing"]) fun _ _ _ _ _ _ us hl => match us, hl with | [_], _ => rfl
  have D1 : TopD K mg "is_name" "is_name" s_is_name ["thing"] f1 := ⟨_, PySem.W.mg_of X G x_a1, F1, b1⟩
  have F2 := fun_mk (st := s_law_spring) x_l2 x_c2 x_k2
  have b2 := F2.binds (ps := ["_law_script", "_law_turn"]) fun _ _ _ _ _ _ us hl => match us, hl with | [_, _], _ => rfl
  have D2 : TopD K mg "_law_spring" "_law_spring" s_law_spring ["_law_script", "_law_turn"] f2 := ⟨_, PySem.W.mg_of X G x_a2, F2, b2⟩
  have F3 := fun_mk (st := s_law_draw) x_l3 x_c3 x_k3
  have b3 := F3.binds (ps := ["_law_spring_here", "_law_many"]) fun _ _ _ _ _ _ us hl => match us, hl with | [_, _], _ => rfl
  have D3 : TopD K mg "_law_draw" "_law_draw" s_law_draw ["_law_spring_here", "_law_many"] T.fD := ⟨_, PySem.W.mg_of X G x_a3, F3, b3⟩
  have F4 := fun_mk (st := s_law_pick) x_l4 x_c4 x_k4
  have b4 := F4.binds (ps := ["_law_spring_here", "_law_some"]) fun _ _ _ _ _ _ us hl => match us, hl with | [_, _], _ => rfl
  have D4 : TopD K mg "_law_pick" "_law_pick" s_law_pick ["_law_spring_here", "_law_some"] f4 := ⟨_, PySem.W.mg_of X G x_a4, F4, b4⟩
  have F5 := fun_mk (st := s_law_mixed) x_l5 x_c5 x_k5
  have b5 := F5.binds (ps := ["_law_spring_here", "_law_some"]) fun _ _ _ _ _ _ us hl => match us, hl with | [_, _], _ => rfl
  have D5 : TopD K mg "_law_mixed" "_law_mixed" s_law_mixed ["_law_spring_here", "_law_some"] f5 := ⟨_, PySem.W.mg_of X G x_a5, F5, b5⟩
  have F6 := fun_mk (st := s_law_same) x_l6 x_c6 x_k6
  have b6 := F6.binds (ps := ["_law_found", "_law_due"]) fun _ _ _ _ _ _ us hl => match us, hl with | [_, _], _ => rfl
  have D6 : TopD K mg "_law_same" "_law_same" s_law_same ["_law_found", "_law_due"] f6 := ⟨_, PySem.W.mg_of X G x_a6, F6, b6⟩
  have F7 := fun_mk (st := s_law_w_names) x_l7 x_c7 x_k7
  have b7 := F7.binds (ps := ["_law_spring_here", "_law_least", "_law_most"]) fun _ _ _ _ _ _ us hl => match us, hl with | [_, _, _], _ => rfl
  have D7 : TopD K mg "_law_w_names" "_law_w_names" s_law_w_names ["_law_spring_here", "_law_least", "_law_most"] f7 := ⟨_, PySem.W.mg_of X G x_a7, F7, b7⟩
  have F8 := fun_mk (st := s_law_is_name) x_l8 x_c8 x_k8
  have b8 := F8.binds (ps := ["_law_thing"]) fun _ _ _ _ _ _ us hl => match us, hl with | [_], _ => rfl
  have D8 : TopD K mg "_law_is_name" "_law_is_name" s_law_is_name ["_law_thing"] f8 := ⟨_, PySem.W.mg_of X G x_a8, F8, b8⟩
  have F9 := fun_mk (st := s_law_wrong) x_l9 x_c9 x_k9
  have b9 := F9.binds (ps := ["_law_thing"]) fun _ _ _ _ _ _ us hl => match us, hl with | [_], _ => rfl
  have D9 : TopD K mg "_law_wrong" "_law_wrong" s_law_wrong ["_law_thing"] f9 := ⟨_, PySem.W.mg_of X G x_a9, F9, b9⟩
  have F10 := fun_mk (st := s_law_met) x_l10 x_c10 x_k10
  have b10 := F10.binds (ps := ["_law_thing"]) fun _ _ _ _ _ _ us hl => match us, hl with | [_], _ => rfl
  have D10 : TopD K mg "_law_met" "_law_met" s_law_met ["_law_thing"] f10 := ⟨_, PySem.W.mg_of X G x_a10, F10, b10⟩
  have F11 := fun_mk (st := s_law_told_right) x_l11 x_c11 x_k11
  have b11 := F11.binds (ps := ["_law_spring_here", "_law_names"]) fun _ _ _ _ _ _ us hl => match us, hl with | [_, _], _ => rfl
  have D11 : TopD K mg "_law_told_right" "_law_told_right" s_law_told_right ["_law_spring_here", "_law_names"] f11 := ⟨_, PySem.W.mg_of X G x_a11, F11, b11⟩
  have F12 := fun_mk (st := s_law_bent_right) x_l12 x_c12 x_k12
  have b12 := F12.binds (ps := ["_law_spring_here", "_law_names"]) fun _ _ _ _ _ _ us hl => match us, hl with | [_, _], _ => rfl
  have D12 : TopD K mg "_law_bent_right" "_law_bent_right" s_law_bent_right ["_law_spring_here", "_law_names"] f12 := ⟨_, PySem.W.mg_of X G x_a12, F12, b12⟩
  have F13 := fun_mk (st := s_law) x_l13 x_c13 x_k13
  have Fm0 := fun_mk (st := s_Path_init) x_lm0 x_cm0 x_km0
  have bm0 := Fm0.binds (ps := ["self", "walkers"]) fun _ _ _ _ _ _ us hl => match us, hl with | [_, _], _ => rfl
  have Fm1 := fun_mk (st := s_Path_walkers) x_lm1 x_cm1 x_km1
  have bm1 := Fm1.binds (ps := ["self"]) fun _ _ _ _ _ _ us hl => match us, hl with | [_], _ => rfl
  have Fm2 := fun_mk (st := s_Path_eq) x_lm2 x_cm2 x_km2
  have bm2 := Fm2.binds (ps := ["self", "other"]) fun _ _ _ _ _ _ us hl => match us, hl with | [_, _], _ => rfl
  have hfD : FnK K T.fD := ⟨_, x_l3, rfl⟩
  refine ⟨PySem.W.fnOf "law" "law" (defArgs s_law) (defBody s_law) (defScope s_law) .none kV13 dc13 pm13 an13 cd13 ct13, fun s v => BindsTo.of_eq rfl, fun base hK hG => ?_⟩
  have hIsL : DefList PySem.Challenge.rw_ringwalkers_k01_whole_paths.prog w K mg base := d_is_list T D0
  have hIsN : DefName PySem.Challenge.rw_ringwalkers_k01_whole_paths.prog w K mg base := d_is_name T D1
  have hI : InitP T w base := ⟨_, ok_init T Fm0 hIsL hIsN, bm0, ⟨fun s us ws _ l1 l2 => match us, ws, l1, l2 with | [_], [_], _, _ => BindsTo.of_eq rfl, fun a b => a.append b⟩⟩
  have hW : MethW T w base := ⟨_, ok_walkersN T Fm1, bm1⟩
  have hE : MethE T w base := (FnOk.raw (ok_eq T Fm2) bm2 .nil).imp fun vs H Q E h => by rw [List.append_nil]; exact h
  have hDr : DefDraw PySem.Challenge.rw_ringwalkers_k01_whole_paths.prog w K mg base := d_draw T D3
  have hSp := d_spring (P := PySem.Challenge.rw_ringwalkers_k01_whole_paths.prog) (w := w) (base := base) T D2
  have hPk := d_pick (P := PySem.Challenge.rw_ringwalkers_k01_whole_paths.prog) (w := w) (base := base) T D4 hDr
  have hMx := d_mixed (P := PySem.Challenge.rw_ringwalkers_k01_whole_paths.prog) (w := w) (base := base) T D5 hDr
  have hNm := d_names (P := PySem.Challenge.rw_ringwalkers_k01_whole_paths.prog) (w := w) (base := base) T D7 hDr hMx
  have hLn := d_law_is_name (P := PySem.Challenge.rw_ringwalkers_k01_whole_paths.prog) (w := w) (base := base) T D8
  have hWr := d_wrong (P := PySem.Challenge.rw_ringwalkers_k01_whole_paths.prog) (w := w) (base := base) T D9 hLn
  have hMt := d_met (P := PySem.Challenge.rw_ringwalkers_k01_whole_paths.prog) (w := w) (base := base) T D10 hI hW
  have hTo := d_told (P := PySem.Challenge.rw_ringwalkers_k01_whole_paths.prog) (w := w) (base := base) T D11 hI hW hE hPk (d_same T D6 2)
  have hBe := d_bent (P := PySem.Challenge.rw_ringwalkers_k01_whole_paths.prog) (w := w) (base := base) T D12 hDr hPk hWr hMt (d_same T D6 3)
  exact ok_law T F13 hfD hSp hNm hTo hBe hMt (d_same T D6 4)
end RW

open PySem PySem.W PyProof.Rows
set_option maxRecDepth 100000 in
set_option maxHeartbeats 0 in
theorem PySem.Challenge.cw_ringwalkers_k01_whole_paths_holds : PySem.Challenge.rw_ringwalkers_k01_whole_paths.Holds := by
  w_on; o_law; k_head; (case hw => w_witness2)
  k_fill
  refine L2.walk_of (l := PySem.Challenge.rw_ringwalkers_k01_whole_paths) (n := 63) (k := 7) (x := "_law_script") (CX := fun _ => L2.CX0) (sp := fun w => RW.spLaw _) rfl (by decide) rfl ⟨rfl, by decide, by decide⟩ (fun w h Y => PySem.W.kIn_of Y) ?F (fun _ _ a ns hl hO hS => ⟨a, ns, rfl, hO, hS, hl, fun _ => rfl⟩) (fun _ _ _ _ _ h => h)
  case F =>
    intro w mg fa h KX G hmg
    refine' RW.all_mk KX G hmg ?a0 ?l0 ?c0 ?k0 ?a1 ?l1 ?c1 ?k1 ?a2 ?l2 ?c2 ?k2 ?a3 ?l3 ?c3 ?k3 ?a4 ?l4 ?c4 ?k4 ?a5 ?l5 ?c5 ?k5 ?a6 ?l6 ?c6 ?k6 ?a7 ?l7 ?c7 ?k7 ?a8 ?l8 ?c8 ?k8 ?a9 ?l9 ?c9 ?k9 ?a10 ?l10 ?c10 ?k10 ?a11 ?l11 ?c11 ?k11 ?a12 ?l12 ?c12 ?k12 ?a13 ?l13 ?c13 ?k13 ?gP ?am0 ?lm0 ?cm0 ?km0 ?im0 ?am1 ?lm1 ?cm1 ?km1 ?im1 ?am2 ?lm2 ?cm2 ?km2 ?im2 ?pg ?hd ?po ?sa ?ca ?cg ?ct ?cm ?ne ?mk ?kC ?no_names ?no_many ?no_ranks ?kp_NoneType ?nf_NoneType ?kp_bool ?nf_bool ?kp_int ?nf_int ?kp_str ?nf_str ?kp_function ?nf_function ?kp_list ?nf_list ?kp_tuple ?nf_tuple ?kp_dict ?nf_dict ?n_len ?n_isinstance ?n_any ?n_all ?n_range ?n_enumerate ?n_zip ?n_list ?n_tuple ?n_dict ?n_str ?n_int ?n_bool ?n_super ?gL ?gF ?bC ?bL ?bR ?bsa ?bga ?bgg ?bno ?bi ?bt ?bk ?be ?bty ?bhd ?bic ?bss ?bmr ?bsp ?bsv ?bop ?bl ?bc ?bcd ?bvs ?bfi ?bce ?bcall
    (case a0 => k_is)
    (case l0 => k_is)
    (case c0 => k_is)
    (case k0 => k_is)
    (case a1 => k_is)
    (case l1 => k_is)
    (case c1 => k_is)
    (case k1 => k_is)
    (case a2 => k_is)
    (case l2 => k_is)
    (case c2 => k_is)
    (case k2 => k_is)
    (case a3 => k_is)
    (case l3 => k_is)
    (case c3 => k_is)
    (case k3 => k_is)
    (case a4 => k_is)
    (case l4 => k_is)
    (case c4 => k_is)
    (case k4 => k_is)
    (case a5 => k_is)
    (case l5 => k_is)
    (case c5 => k_is)
    (case k5 => k_is)
    (case a6 => k_is)
    (case l6 => k_is)
    (case c6 => k_is)
    (case k6 => k_is)
    (case a7 => k_is)
    (case l7 => k_is)
    (case c7 => k_is)
    (case k7 => k_is)
    (case a8 => k_is)
    (case l8 => k_is)
    (case c8 => k_is)
    (case k8 => k_is)
    (case a9 => k_is)
    (case l9 => k_is)
    (case c9 => k_is)
    (case k9 => k_is)
    (case a10 => k_is)
    (case l10 => k_is)
    (case c10 => k_is)
    (case k10 => k_is)
    (case a11 => k_is)
    (case l11 => k_is)
    (case c11 => k_is)
    (case k11 => k_is)
    (case a12 => k_is)
    (case l12 => k_is)
    (case c12 => k_is)
    (case k12 => k_is)
    (case a13 => k_is)
    (case l13 => k_is)
    (case c13 => k_is)
    (case k13 => k_is)
    (case gP => k_is)
    (case am0 => k_is)
    (case lm0 => k_is)
    (case cm0 => k_is)
    (case km0 => k_is)
    (case im0 => k_is)
    (case am1 => k_is)
    (case lm1 => k_is)
    (case cm1 => k_is)
    (case km1 => k_is)
    (case im1 => k_is)
    (case am2 => k_is)
    (case lm2 => k_is)
    (case cm2 => k_is)
    (case km2 => k_is)
    (case im2 => k_is)
    (case pg => k_is)
    (case hd => k_is)
    (case po => k_is)
    (case sa => k_is)
    (case ca => k_is)
    (case cg => k_is)
    (case ct => k_is)
    (case cm => k_is)
    (case ne => k_is)
    (case mk => k_is)
    (case kC => k_is)
    (case no_names => k_is)
    (case no_many => k_is)
    (case no_ranks => k_is)
    (case kp_NoneType => kit_is)
    (case nf_NoneType => k_is)
    (case kp_bool => kit_is)
    (case nf_bool => k_is)
    (case kp_int => kit_is)
    (case nf_int => k_is)
    (case kp_str => kit_is)
    (case nf_str => k_is)
    (case kp_function => kit_is)
    (case nf_function => k_is)
    (case kp_list => kit_is)
    (case nf_list => k_is)
    (case kp_tuple => kit_is)
    (case nf_tuple => k_is)
    (case kp_dict => kit_is)
    (case nf_dict => k_is)
    (case n_len => k_is)
    (case n_isinstance => k_is)
    (case n_any => k_is)
    (case n_all => k_is)
    (case n_range => k_is)
    (case n_enumerate => k_is)
    (case n_zip => k_is)
    (case n_list => k_is)
    (case n_tuple => k_is)
    (case n_dict => k_is)
    (case n_str => k_is)
    (case n_int => k_is)
    (case n_bool => k_is)
    (case n_super => k_is)
    (case gL => k_is)
    (case gF => k_is)
    (case bC => k_is)
    (case bL => k_is)
    (case bR => first | rfl | decide +kernel)
    (case bsa => k_is)
    (case bga => k_is)
    (case bgg => k_is)
    (case bno => k_is)
    (case bi => k_is)
    (case bt => k_is)
    (case bk => k_is)
    (case be => k_is)
    (case bty => k_is)
    (case bhd => k_is)
    (case bic => k_is)
    (case bss => first | k_is | rfl)
    (case bmr => first | k_is | rfl)
    (case bsp => ks_is)
    (case bsv => k_is)
    (case bop => k_is)
    (case bl => k_is)
    (case bc => k_is)
    (case bcd => k_is)
    (case bvs => rfl)
    (case bfi => decide +kernel)
    (case bce => k_is)
    (case bcall => exact ⟨_, fun _ => rfl⟩)

