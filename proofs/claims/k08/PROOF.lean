import PyProof.Rows.All
import Wide.All
import OpenK.AllK
import Wide.FinOn
import HandS.ForMost
import HandS.Exc
import HandS.ExcOwn
import HandS.WordsExc
import HandS.More
import HandS.Conv
import HandS.Walk
import HandS.DictComp
import HandS.IsInst
import KE.SortData
import KE.DataMinMax
import HandS.HeadHook1
import HandS.HeadHook2
import HandS.Style
import HandS.NoneIn
import KE.KStateDown
import HandS.Ends
import HandS.HeadEnd
import HandS.Words
import HandS.Defaults
import HandS.Head0
import HandS.Head1
import HandS.Head2
import PySem.Challenge.RW_readhouse_k08_known_words_and_rings
set_option Elab.async false
set_option linter.all false
set_option maxRecDepth 100000
set_option maxHeartbeats 4000000
namespace Z
open PySem PySem.Spec PyProof.Rows L2

def dicO : HO → Bool
  | .dK _ => true
  | .dT _ => true
  | _ => false
/-- all of G stands in G' -/
def Le (G G' : Hp) : Prop := ∀ a o, G a = some o → G' a = some o
theorem Le.refl (G : Hp) : Le G G := fun _ _ h => h
theorem Le.trans {G G1 G2 : Hp} (a : Le G G1) (b : Le G1 G2) : Le G G2 := fun x o h => b x o (a x o h)
/-- G stands in H, dicts perhaps locked -/
def In (G H : Hp) : Prop := ∀ a o, G a = some o → H a = some o ∨ (dicO o = true ∧ ∃ ob, H a = some (.frz ob o))
theorem In.le {G G1 H : Hp} (a : Le G G1) (b : In G1 H) : In G H := fun x o h => b x o (a x o h)
theorem In.ge {G H H1 : Hp} (a : In G H) (b : Le H H1) : In G H1 := fun x o h => by
  rcases a x o h with e | ⟨d, ob, e⟩
  · exact .inl (b x _ e)
  · exact .inr ⟨d, ob, b x _ e⟩
theorem In.ne {G H : Hp} (i : In G H) {a : Addr} {o : HO} (h : G a = some o) : H a ≠ none := by
  rcases i a o h with e | ⟨_, ob, e⟩ <;> rw [e] <;> intro q <;> cases q
theorem In.no {G H : Hp} (i : In G H) {a : Addr} (h : H a = none) : G a = none := by
  cases q : G a with
  | none => rfl
  | some o => exact absurd h (i.ne q)
theorem In.ex {G H : Hp} (i : In G H) {a : Addr} {o : HO} (h : G a = some o) (hd : dicO o = false) : H a = some o := by
  rcases i a o h with e | ⟨d, _⟩
  · exact e
  · rw [hd] at d; cases d
theorem In.rd {G H : Hp} (i : In G H) {a : Addr} {o : HO} (h : G a = some o) : Rd H a o := by
  rcases i a o h with e | ⟨_, e⟩
  · exact .inl e
  · exact .inr e
theorem Le.no {G H : Hp} (i : Le G H) {a : Addr} (h : H a = none) : G a = none := by
  cases q : G a with
  | none => rfl
  | some o => rw [i a o q] at h; cases h
/-- a step that lays new things alone -/
structure Up (G H G2 H2 : Hp) : Prop where
  g : Le G G2
  i : In G2 H2
  h : Le H H2
  n : ∀ a o, G2 a = some o → G a = some o ∨ H a = none
theorem Up.refl {G H : Hp} (i : In G H) : Up G H G H := ⟨Le.refl _, i, Le.refl _, fun _ _ e => .inl e⟩
theorem Up.trans {G H G2 H2 G3 H3 : Hp} (u : Up G H G2 H2) (w : Up G2 H2 G3 H3) : Up G H G3 H3 :=
  ⟨u.g.trans w.g, w.i, u.h.trans w.h, fun a o e => by
    rcases w.n a o e with q | q
    · exact u.n a o q
    · exact .inr (u.h.no q)⟩
theorem Up.new {G H : Hp} {p : Addr} {o : HO} (i : In G H) (hp : H p = none) : Up G H (upd G p o) (upd H p o) := by
  refine ⟨fun a u e => ?_, fun a u e => ?_, fun a u e => ?_, fun a u e => ?_⟩
  · have ne : a ≠ p := fun z => by subst z; rw [i.no hp] at e; cases e
    rw [upd_ne ne]; exact e
  · by_cases ha : a = p
    · subst ha; rw [upd_same] at e ⊢; exact .inl e
    · rw [upd_ne ha] at e ⊢; exact i a u e
  · have ne : a ≠ p := fun z => by subst z; rw [hp] at e; cases e
    rw [upd_ne ne]; exact e
  · by_cases ha : a = p
    · subst ha; exact .inr hp
    · rw [upd_ne ha] at e; exact .inl e
/-- a new thing that is not looked at -/
theorem Up.hid {G H : Hp} {p : Addr} {o : HO} (i : In G H) (hp : H p = none) : Up G H G (upd H p o) := by
  have l : Le H (upd H p o) := fun a u e => by
    have ne : a ≠ p := fun z => by subst z; rw [hp] at e; cases e
    rw [upd_ne ne]; exact e
  exact ⟨Le.refl _, i.ge l, l, fun _ _ e => .inl e⟩
/-- what is hidden stays hidden -/
theorem Up.hide {G H G2 H2 : Hp} (u : Up G H G2 H2) {m : Addr} (h : H m ≠ none) (hg : G m = none) : G2 m = none := by
  cases q : G2 m with
  | none => rfl
  | some o =>
    rcases u.n m o q with e | e
    · rw [hg] at e; cases e
    · exact absurd e h
theorem In.mut {G H : Hp} (i : In G H) {m : Addr} {o : HO} (hg : G m = none) : In G (upd H m o) := fun a u e => by
  have ne : a ≠ m := fun z => by subst z; rw [hg] at e; cases e
  rw [upd_ne ne]; exact i a u e

/-! ### what a value tells -/
def kD : Key → PyData
  | .inl i => .int i
  | .inr x => .str x
mutual
inductive Rp (K : PySem.W.Frag) (G : Hp) : V → PyData → Prop
  | non : Rp K G .non .none
  | bl (b : Bool) : Rp K G (.bl b) (.bool b)
  | int (i : Int) : Rp K G (.int i) (.int i)
  | str (x : Str) : Rp K G (.str x) (.str x)
  | lst {a : Addr} {xs : List V} {ds : List PyData} : G a = some (.lst xs) → RpA K G xs ds → Rp K G (.ref a) (.list ds)
  | tup {a : Addr} {xs : List V} {ds : List PyData} : SqT K G a xs → RpA K G xs ds → Rp K G (.ref a) (.tuple ds)
  | dic {a : Addr} {kvs : List (Key × V)} {ds : List (PyData × PyData)} : G a = some (.dK kvs) → RpD K G kvs ds → Rp K G (.ref a) (.dict ds)
inductive RpA (K : PySem.W.Frag) (G : Hp) : List V → List PyData → Prop
  | nil : RpA K G [] []
  | cons {v : V} {vs : List V} {d : PyData} {ds : List PyData} : Rp K G v d → RpA K G vs ds → RpA K G (v :: vs) (d :: ds)
inductive RpD (K : PySem.W.Frag) (G : Hp) : List (Key × V) → List (PyData × PyData) → Prop
  | nil : RpD K G [] []
  | cons {k : Key} {v : V} {vs : List (Key × V)} {d : PyData} {ds : List (PyData × PyData)} : Rp K G v d → RpD K G vs ds → RpD K G ((k, v) :: vs) ((kD k, d) :: ds)
end
theorem le_t {K : PySem.W.Frag} {G G' : Hp} {a : Addr} {xs : List V} (e : Le G G') (h : SqT K G a xs) : SqT K G' a xs := by
  rcases h with h | h
  · rcases h with h | ⟨o, h⟩
    · exact .inl (.inl (e _ _ h))
    · exact .inl (.inr ⟨o, e _ _ h⟩)
  · exact .inr h
section
variable {K : PySem.W.Frag} {G G' : Hp}
mutual
theorem Rp.mono (l : Le G G') : ∀ {v : V} {d : PyData}, Rp K G v d → Rp K G' v d
  | _, _, .non => .non
  | _, _, .bl b => .bl b
  | _, _, .int i => .int i
  | _, _, .str x => .str x
  | _, _, .lst h a => .lst (l _ _ h) (RpA.mono l a)
  | _, _, .tup h a => .tup (le_t l h) (RpA.mono l a)
  | _, _, .dic h a => .dic (l _ _ h) (RpD.mono l a)
theorem RpA.mono (l : Le G G') : ∀ {v : List V} {d : List PyData}, RpA K G v d → RpA K G' v d
  | _, _, .nil => .nil
  | _, _, .cons h a => .cons (Rp.mono l h) (RpA.mono l a)
theorem RpD.mono (l : Le G G') : ∀ {v : List (Key × V)} {d : List (PyData × PyData)}, RpD K G v d → RpD K G' v d
  | _, _, .nil => .nil
  | _, _, .cons h a => .cons (Rp.mono l h) (RpD.mono l a)
end
end
end Z

namespace Z
open PySem PySem.Spec PyProof.Rows L2

/-- what is wanted of an evaluation's end -/
abbrev Ret (K : PySem.W.Frag) (G H : Hp) (Q : VK) (d : PyData) : Prop := ∀ v G2 H2, Up G H G2 H2 → Rp K G2 v d → Q v H2
def EvP (t : TE) (σ : L2.St) (G : Hp) (P : Hp → V → Prop) : Prop :=
  ∀ G1 H1, Le G G1 → In G1 H1 → ∀ Q : VK, (∀ v G2 H2, Up G1 H1 G2 H2 → P G2 v → Q v H2) → t σ H1 Q
abbrev Ev (K : PySem.W.Frag) (t : TE) (σ : L2.St) (G : Hp) (d : PyData) : Prop := EvP t σ G fun G v => Rp K G v d
def EvT (t : TT) (σ : L2.St) (G : Hp) (b : Bool) : Prop :=
  ∀ G1 H1, Le G G1 → In G1 H1 → ∀ Q : Bool → Hp → Prop, (∀ G2 H2, Up G1 H1 G2 H2 → Q b H2) → t σ H1 Q
def EvA (K : PySem.W.Frag) (t : TA) (σ : L2.St) (G : Hp) (ds : List PyData) : Prop :=
  ∀ G1 H1, Le G G1 → In G1 H1 → ∀ Q : List V → Hp → Prop, (∀ vs G2 H2, Up G1 H1 G2 H2 → RpA K G2 vs ds → Q vs H2) → t σ H1 Q
def EvO (t : TO) (σ : L2.St) (G : Hp) (o : Option Int) : Prop :=
  ∀ G1 H1, Le G G1 → In G1 H1 → ∀ Q : Option Int → Hp → Prop, (∀ G2 H2, Up G1 H1 G2 H2 → Q o H2) → t σ H1 Q
/-- operators, calls, methods by data -/
def OpV (K : PySem.W.Frag) (r : R2) (a b d : PyData) : Prop := ∀ G H x y, In G H → Rp K G x a → Rp K G y b → ∀ Q, Ret K G H Q d → r x y H Q
def UnV (K : PySem.W.Frag) (r : V → Hp → VK → Prop) (a d : PyData) : Prop := ∀ G H x, In G H → Rp K G x a → ∀ Q, Ret K G H Q d → r x H Q
def CaV (K : PySem.W.Frag) (r : List V → Hp → VK → Prop) (ds : List PyData) (d : PyData) : Prop := ∀ G H vs, In G H → RpA K G vs ds → ∀ Q, Ret K G H Q d → r vs H Q
def MtV (K : PySem.W.Frag) (r : V → List V → Hp → VK → Prop) (a : PyData) (ds : List PyData) (d : PyData) : Prop := ∀ G H x vs, In G H → Rp K G x a → RpA K G vs ds → ∀ Q, Ret K G H Q d → r x vs H Q
section
variable {K : PySem.W.Frag} {σ : L2.St} {G G' : Hp} {ta tb te tc : TE} {t u : TT} {a b c d : PyData} {r r' : R2} {P : Hp → V → Prop}
theorem EvP.mono (e : Le G G') (h : EvP te σ G P) : EvP te σ G' P := fun G1 H1 l i Q q => h G1 H1 (e.trans l) i Q q
theorem EvT.mono {k : Bool} (e : Le G G') (h : EvT t σ G k) : EvT t σ G' k := fun G1 H1 l i Q q => h G1 H1 (e.trans l) i Q q
theorem EvP.imp {P' : Hp → V → Prop} (h : EvP te σ G P) (f : ∀ G v, P G v → P' G v) : EvP te σ G P' := fun G1 H1 l i Q q => h G1 H1 l i Q fun v G2 H2 w p => q v G2 H2 w (f _ _ p)
theorem ev_var {i : Nat} {v : V} (h : σ[i]? = some (some v)) (p : Rp K G v d) : Ev K (tVar i) σ G d := fun G1 H1 l i Q q => ⟨v, h, q v G1 H1 (Up.refl i) (p.mono l)⟩
theorem ev_int {i : Int} : Ev K (tC (.int i)) σ G (.int i) := fun G1 H1 l i Q q => q _ G1 H1 (Up.refl i) (.int _)
theorem ev_str {x : Str} : Ev K (tC (.str x)) σ G (.str x) := fun G1 H1 l i Q q => q _ G1 H1 (Up.refl i) (.str _)
theorem ev_bl {x : Bool} : Ev K (tC (.bl x)) σ G (.bool x) := fun G1 H1 l i Q q => q _ G1 H1 (Up.refl i) (.bl _)
theorem ev_non : Ev K (tC .non) σ G .none := fun G1 H1 l i Q q => q _ G1 H1 (Up.refl i) .non
theorem ev_op (ha : Ev K ta σ G a) (hb : Ev K tb σ G b) (hr : OpV K r a b d) : Ev K (tOp r ta tb) σ G d := fun G1 H1 l i Q q =>
  ha G1 H1 l i _ fun x G2 H2 u2 p2 => hb G2 H2 (l.trans u2.g) u2.i _ fun y G3 H3 u3 p3 =>
    hr G3 H3 x y u3.i (p2.mono u3.g) p3 Q fun v G4 H4 u4 p4 => q v G4 H4 ((u2.trans u3).trans u4) p4
theorem ev_un {r : V → Hp → VK → Prop} (ha : Ev K ta σ G a) (hr : UnV K r a d) : Ev K (tUn r ta) σ G d := fun G1 H1 l i Q q =>
  ha G1 H1 l i _ fun x G2 H2 u2 p2 => hr G2 H2 x u2.i p2 Q fun v G4 H4 u4 p4 => q v G4 H4 (u2.trans u4) p4
theorem ea_nil : EvA K tNil σ G [] := fun G1 H1 l i Q q => q [] G1 H1 (Up.refl i) .nil
theorem ea_cons {tr : TA} {ds : List PyData} (ha : Ev K ta σ G a) (hr : EvA K tr σ G ds) : EvA K (tCons ta tr) σ G (a :: ds) := fun G1 H1 l i Q q =>
  ha G1 H1 l i _ fun x G2 H2 u2 p2 => hr G2 H2 (l.trans u2.g) u2.i _ fun vs G3 H3 u3 p3 => q (x :: vs) G3 H3 (u2.trans u3) (.cons (p2.mono u3.g) p3)
theorem ev_cb {r : List V → Hp → VK → Prop} {tr : TA} {ds : List PyData} (ha : EvA K tr σ G ds) (hr : CaV K r ds d) : Ev K (tCB r tr) σ G d := fun G1 H1 l i Q q =>
  ha G1 H1 l i _ fun vs G2 H2 u2 p2 => hr G2 H2 vs u2.i p2 Q fun v G4 H4 u4 p4 => q v G4 H4 (u2.trans u4) p4
/-- a call by a promise -/
def SpV (K : PySem.W.Frag) (sp : Sp) (E : XK) (ds : List PyData) (d : PyData) : Prop := ∀ G H vs, In G H → RpA K G vs ds → ∀ Q, Ret K G H Q d → sp vs H Q E
theorem ev_call {sp : Sp} {E : XK} {tr : TA} {ds : List PyData} (ha : EvA K tr σ G ds) (hr : SpV K sp E ds d) : Ev K (tCall sp [] E tr) σ G d := fun G1 H1 l i Q q =>
  ha G1 H1 l i _ fun vs G2 H2 u2 p2 => by
    show sp (vs ++ []) H2 Q E
    rw [List.append_nil]
    exact hr G2 H2 vs u2.i p2 Q fun v G4 H4 u4 p4 => q v G4 H4 (u2.trans u4) p4
theorem ev_bm {r : V → List V → Hp → VK → Prop} {T : String} {tr : TA} {ds : List PyData} (ho : Ev K te σ G a) (ht : ∀ G H x, In G H → Rp K G x a → tyV K T x H) (ha : EvA K tr σ G ds) (hr : MtV K r a ds d) : Ev K (tBM K T r te tr) σ G d := fun G1 H1 l i Q q =>
  ho G1 H1 l i _ fun x G2 H2 u2 p2 => ⟨ht G2 H2 x u2.i p2, ha G2 H2 (l.trans u2.g) u2.i _ fun vs G3 H3 u3 p3 => hr G3 H3 x vs u3.i (p2.mono u3.g) p3 Q fun v G4 H4 u4 p4 => q v G4 H4 ((u2.trans u3).trans u4) p4⟩
theorem ev_bm0 {r : V → List V → Hp → VK → Prop} {T : String} (ho : Ev K te σ G a) (ht : ∀ G H x, In G H → Rp K G x a → tyV K T x H) (hr : MtV K r a [] d) : Ev K (tBM0 K T r te) σ G d := fun G1 H1 l i Q q =>
  ho G1 H1 l i _ fun x G2 H2 u2 p2 => ⟨ht G2 H2 x u2.i p2, hr G2 H2 x [] u2.i p2 .nil Q fun v G4 H4 u4 p4 => q v G4 H4 (u2.trans u4) p4⟩
/-! tests -/
theorem rp_bool {v : V} {k : Bool} (h : Rp K G v (.bool k)) : v = .bl k := by cases h; rfl
theorem et_test {k : Bool} (h : Ev K te σ G (.bool k)) : EvT (tTest te) σ G k := fun G1 H1 l i Q q => h G1 H1 l i _ fun v G2 H2 u2 p2 => ⟨k, rp_bool p2, q G2 H2 u2⟩
theorem et_B {k : Bool} (h : Ev K te σ G (.bool k)) : EvT (tB te) σ G k := fun G1 H1 l i Q q => h G1 H1 l i _ fun v G2 H2 u2 p2 => ⟨k, rp_bool p2, q G2 H2 u2⟩
theorem et_and {k m : Bool} (h1 : EvT t σ G k) (h2 : k = true → EvT u σ G m) : EvT (tAnd t u) σ G (k && m) := fun G1 H1 l i Q q => h1 G1 H1 l i _ fun G2 H2 u2 => by
  cases k with
  | true =>
    show u σ H2 Q
    exact h2 rfl G2 H2 (l.trans u2.g) u2.i Q fun G3 H3 u3 => q G3 H3 (u2.trans u3)
  | false =>
    show Q false H2
    exact q G2 H2 u2
theorem et_or {k m : Bool} (h1 : EvT t σ G k) (h2 : k = false → EvT u σ G m) : EvT (tOr t u) σ G (k || m) := fun G1 H1 l i Q q => h1 G1 H1 l i _ fun G2 H2 u2 => by
  cases k with
  | true =>
    show Q true H2
    exact q G2 H2 u2
  | false =>
    show u σ H2 Q
    exact h2 rfl G2 H2 (l.trans u2.g) u2.i Q fun G3 H3 u3 => q G3 H3 (u2.trans u3)
theorem et_not {k : Bool} (h : EvT t σ G k) : EvT (tNot t) σ G (!k) := fun G1 H1 l i Q q => h G1 H1 l i _ fun G2 H2 u2 => q G2 H2 u2
theorem ev_and {k : Bool} (h1 : Ev K ta σ G (.bool k)) (h2 : k = true → Ev K tb σ G b) (h3 : k = false → b = .bool false) : Ev K (tAndV ta tb) σ G b := fun G1 H1 l i Q q => h1 G1 H1 l i _ fun v G2 H2 u2 p2 => by
  refine ⟨k, rp_bool p2, ?_⟩
  cases k with
  | true =>
    show tb σ H2 Q
    exact h2 rfl G2 H2 (l.trans u2.g) u2.i Q fun v G3 H3 u3 p3 => q v G3 H3 (u2.trans u3) p3
  | false =>
    show Q (.bl false) H2
    refine q _ G2 H2 u2 ?_
    rw [h3 rfl]
    exact .bl _
theorem ev_andB {k m : Bool} (h1 : Ev K ta σ G (.bool k)) (h2 : k = true → Ev K tb σ G (.bool m)) : Ev K (tAndV ta tb) σ G (.bool (k && m)) :=
  ev_and h1 (fun e => by subst e; exact h2 rfl) (fun e => by subst e; rfl)
theorem ev_orB {k m : Bool} (h1 : Ev K ta σ G (.bool k)) (h2 : k = false → Ev K tb σ G (.bool m)) : Ev K (tOrV ta tb) σ G (.bool (k || m)) := fun G1 H1 l i Q q => h1 G1 H1 l i _ fun v G2 H2 u2 p2 => by
  refine ⟨k, rp_bool p2, ?_⟩
  cases k with
  | true =>
    show Q (.bl true) H2
    exact q _ G2 H2 u2 (.bl _)
  | false =>
    show tb σ H2 Q
    exact h2 rfl G2 H2 (l.trans u2.g) u2.i Q fun v G3 H3 u3 p3 => q v G3 H3 (u2.trans u3) p3
theorem ev_notB {k : Bool} (h : Ev K ta σ G (.bool k)) : Ev K (tNotV ta) σ G (.bool (!k)) := fun G1 H1 l i Q q => h G1 H1 l i _ fun v G2 H2 u2 p2 => ⟨k, rp_bool p2, q _ G2 H2 u2 (.bl _)⟩
theorem ev_if {k : Bool} (h1 : EvT t σ G k) (h2 : k = true → Ev K ta σ G a) (h3 : k = false → Ev K tb σ G b) : Ev K (tIf t ta tb) σ G (if k then a else b) := fun G1 H1 l i Q q => h1 G1 H1 l i _ fun G2 H2 u2 => by
  cases k with
  | true =>
    show ta σ H2 Q
    exact h2 rfl G2 H2 (l.trans u2.g) u2.i Q fun v G3 H3 u3 p3 => q v G3 H3 (u2.trans u3) p3
  | false =>
    show tb σ H2 Q
    exact h3 rfl G2 H2 (l.trans u2.g) u2.i Q fun v G3 H3 u3 p3 => q v G3 H3 (u2.trans u3) p3
theorem ev_chain {k : Bool} {m : Bool} (ha : Ev K ta σ G a) (hb : Ev K tb σ G b) (hc : k = true → Ev K tc σ G c) (hr : OpV K r a b (.bool k)) (hr' : k = true → OpV K r' b c (.bool m)) : Ev K (tChain r r' ta tb tc) σ G (.bool (k && m)) := fun G1 H1 l i Q q =>
  ha G1 H1 l i _ fun x G2 H2 u2 p2 => hb G2 H2 (l.trans u2.g) u2.i _ fun y G3 H3 u3 p3 => hr G3 H3 x y u3.i (p2.mono u3.g) p3 _ fun z G4 H4 u4 p4 => by
    refine ⟨k, rp_bool p4, ?_⟩
    have u24 := (u2.trans u3).trans u4
    cases k with
    | true =>
      show tc σ H4 fun w' H4 => r' y w' H4 Q
      exact hc rfl G4 H4 (l.trans u24.g) u24.i _ fun w G5 H5 u5 p5 => hr' rfl G5 H5 y w u5.i (p3.mono (u4.g.trans u5.g)) p5 Q fun v G6 H6 u6 p6 => q v G6 H6 ((u24.trans u5).trans u6) p6
    | false =>
      show Q (.bl false) H4
      exact q _ G4 H4 u24 (.bl _)
/-! displays -/
theorem RpA.len : ∀ {vs : List V} {ds : List PyData}, RpA K G vs ds → vs.length = ds.length
  | _, _, .nil => rfl
  | _, _, .cons _ a => by rw [List.length_cons, List.length_cons, RpA.len a]
theorem ev_lst {tr : TA} {ds : List PyData} (ha : EvA K tr σ G ds) (hl : ds.length ≤ 100000) : Ev K (tLst tr) σ G (.list ds) := fun G1 H1 l i Q q => ha G1 H1 l i _ fun vs G2 H2 u2 p2 => by
  refine ⟨by rw [p2.len]; exact Nat.le_trans hl (by decide), fun p hp => ?_⟩
  have u3 := Up.new (o := .lst vs) u2.i hp
  exact q _ _ _ (u2.trans u3) (.lst upd_same (p2.mono u3.g))
theorem ev_tup {tr : TA} {ds : List PyData} (ha : EvA K tr σ G ds) (hl : ds.length ≤ 100000) : Ev K (tTup tr) σ G (.tuple ds) := fun G1 H1 l i Q q => ha G1 H1 l i _ fun vs G2 H2 u2 p2 => by
  refine ⟨by rw [p2.len]; exact Nat.le_trans hl (by decide), fun p hp => ?_⟩
  have u3 := Up.new (o := .tup vs) u2.i hp
  exact q _ _ _ (u2.trans u3) (.tup (.inl (.inl upd_same)) (p2.mono u3.g))
end
end Z

namespace Z
open PySem PySem.Spec PyProof.Rows L2

/-! ### what is walked -/
/-- J gives these things, one by one, whatever is laid meanwhile -/
def WkD (K : PySem.W.Frag) (J : It) (G : Hp) (ds : List PyData) : Prop := ∀ G' H', Le G G' → In G' H' →
  J.stop ds.length H' ∧ ∀ (i : Nat) d, ds[i]? = some d → J.go i H' ∧ ∀ x H2, J.yld i H' x H2 → ∃ G2, Up G' H' G2 H2 ∧ Rp K G2 x d
def EvI (K : PySem.W.Frag) (wi : TI) (σ : L2.St) (G : Hp) (ds : List PyData) : Prop :=
  ∀ G1 H1, Le G G1 → In G1 H1 → ∀ R : It → Hp → Prop, (∀ J G2 H2, Up G1 H1 G2 H2 → WkD K J G2 ds → R J H2) → wi σ H1 R
/-- a target takes a thing of data d: behind it B of the slots -/
def Bnd (K : PySem.W.Frag) (g : TG) (σ : L2.St) (d : PyData) (B : L2.St → Hp → Prop) : Prop := ∀ G H x, In G H → Rp K G x d → ∀ Q, (∀ σ2, B σ2 G → Q σ2 H) → g x σ H Q
section
variable {K : PySem.W.Frag} {σ : L2.St} {G G' : Hp} {ta tb te tc : TE} {t u tt : TT} {a b c d : PyData} {wi : TI} {g : TG}
theorem RpA.get : ∀ {vs : List V} {ds : List PyData} {i : Nat} {d : PyData}, RpA K G vs ds → ds[i]? = some d → ∃ v, vs[i]? = some v ∧ Rp K G v d
  | _, _, _, _, .nil, e => by simp at e
  | _, _, 0, _, .cons h _, e => by simp at e; subst e; exact ⟨_, rfl, h⟩
  | _, _, i + 1, _, .cons _ a, e => by
    obtain ⟨v, h1, h2⟩ := RpA.get (i := i) a (by simpa using e)
    exact ⟨v, by simpa using h1, h2⟩
theorem WkD.mono {J : It} {ds : List PyData} (l : Le G G') (w : WkD K J G ds) : WkD K J G' ds := fun G1 H1 l1 i => w G1 H1 (l.trans l1) i
theorem wk_list {p : Addr} {xs : List V} {ds : List PyData} (h : G p = some (.lst xs)) (r : RpA K G xs ds) : WkD K (Itl K p) G ds := fun G' H' l i => by
  have e : SqL K H' p xs := .inl (.inl (i.ex (l _ _ h) rfl))
  have W := walk_list (K := K) (a := p) (xs := xs)
  refine ⟨by rw [← r.len]; exact W.stops H' e, fun j d hd => ?_⟩
  obtain ⟨v, h1, h2⟩ := r.get hd
  have hj : j < xs.length := (List.getElem?_eq_some_iff.mp h1).1
  refine ⟨W.goes j H' hj e, fun x H2 y => ?_⟩
  obtain ⟨e1, e2⟩ := W.yields j H' x H2 hj e y
  rw [h1] at e2
  cases e2
  subst e1
  exact ⟨G', Up.refl i, h2.mono l⟩
theorem wk_tup {p : Addr} {xs : List V} {ds : List PyData} (h : SqT K G p xs) (r : RpA K G xs ds) : WkD K (Itt K p) G ds := fun G' H' l i => by
  have e : SqT K H' p xs := by
    rcases le_t l h with q | q
    · rcases q with q | ⟨o, q⟩
      · exact .inl (.inl (i.ex q rfl))
      · exact .inl (.inr ⟨o, i.ex q rfl⟩)
    · exact .inr q
  have W := walk_tup (K := K) (a := p) (xs := xs)
  refine ⟨by rw [← r.len]; exact W.stops H' e, fun j d hd => ?_⟩
  obtain ⟨v, h1, h2⟩ := r.get hd
  have hj : j < xs.length := (List.getElem?_eq_some_iff.mp h1).1
  refine ⟨W.goes j H' hj e, fun x H2 y => ?_⟩
  obtain ⟨e1, e2⟩ := W.yields j H' x H2 hj e y
  rw [h1] at e2
  cases e2
  subst e1
  exact ⟨G', Up.refl i, h2.mono l⟩
/-- lo, lo + 1, .. -/
def rng (lo : Int) (n : Nat) : List Int := (List.range n).map fun (i : Nat) => lo + (i : Int)
theorem rng_len (lo : Int) (n : Nat) : (rng lo n).length = n := by simp [rng]
theorem wk_range {lo : Int} {n : Nat} : WkD K (Itr lo n) G ((rng lo n).map .int) := fun G' H' l i => by
  have W := walk_range (lo := lo) (n := n)
  refine ⟨by rw [List.length_map, rng_len]; exact W.stops H' trivial, fun j d hd => ?_⟩
  have hj : j < n := by
    have := (List.getElem?_eq_some_iff.mp hd).1
    simpa [rng_len] using this
  refine ⟨W.goes j H' hj trivial, fun x H2 y => ?_⟩
  obtain ⟨e1, e2⟩ := W.yields j H' x H2 hj trivial y
  subst e1 e2
  have : d = .int (lo + (j : Int)) := by
    simp [rng, hj] at hd
    exact hd.symm
  subst this
  exact ⟨G', Up.refl i, .int _⟩
def S (l : List Nat) : Str := ⟨l.toArray⟩
theorem S_cps (l : List Nat) : (S l).cps.toList = l := by simp [S]
theorem S_eta (x : Str) : S x.cps.toList = x := by cases x; simp [S]
theorem S_inj {a b : List Nat} (h : S a = S b) : a = b := by
  have := congrArg (fun x : Str => x.cps.toList) h
  simpa [S] using this
theorem wk_str {l : List Nat} : WkD K (Its (S l)) G (l.map fun c => .str (S [c])) := fun G' H' le i => by
  have W := walk_str (z := S l)
  have hs : (S l).cps.size = l.length := by simp [S]
  refine ⟨by rw [List.length_map, ← hs]; exact W.stops H' trivial, fun j d hd => ?_⟩
  have hj : j < (S l).cps.size := by
    have := (List.getElem?_eq_some_iff.mp hd).1
    rw [hs]
    simpa using this
  refine ⟨W.goes j H' hj trivial, fun x H2 y => ?_⟩
  obtain ⟨e1, c, e2, e3⟩ := W.yields j H' x H2 hj trivial y
  subst e1 e3
  have hc : l[j]? = some c := by
    rw [← S_cps l]
    simpa using e2
  have : d = .str (S [c]) := by
    rw [List.getElem?_map, hc] at hd
    exact (Option.some.inj hd).symm
  subst this
  exact ⟨G', Up.refl i, .str _⟩
/-! ### how a walked thing begins -/
theorem rp_ref {v : V} {ds : List PyData} (h : Rp K G v (.list ds)) : ∃ p xs, v = .ref p ∧ G p = some (.lst xs) ∧ RpA K G xs ds := by
  cases h with | lst h a => exact ⟨_, _, rfl, h, a⟩
theorem rp_tup {v : V} {ds : List PyData} (h : Rp K G v (.tuple ds)) : ∃ p xs, v = .ref p ∧ SqT K G p xs ∧ RpA K G xs ds := by
  cases h with | tup h a => exact ⟨_, _, rfl, h, a⟩
theorem rp_int {v : V} {i : Int} (h : Rp K G v (.int i)) : v = .int i := by cases h; rfl
theorem rp_str {v : V} {i : Str} (h : Rp K G v (.str i)) : v = .str i := by cases h; rfl
theorem rp_non {v : V} (h : Rp K G v .none) : v = .non := by cases h; rfl
theorem rpa_nil {vs : List V} (h : RpA K G vs []) : vs = [] := by cases h; rfl
theorem rpa_cons {vs : List V} {ds : List PyData} (h : RpA K G vs (d :: ds)) : ∃ v ws, vs = v :: ws ∧ Rp K G v d ∧ RpA K G ws ds := by
  cases h with | cons h a => exact ⟨_, _, rfl, h, a⟩
theorem rpa_ints : ∀ {vs : List V} {ns : List Int}, RpA K G vs (ns.map .int) → vs = ns.map .int
  | vs, [], h => rpa_nil h
  | vs, n :: ns, h => by
    obtain ⟨v, ws, rfl, h1, h2⟩ := rpa_cons h
    rw [rp_int h1, rpa_ints h2]; rfl
theorem rpa_strs : ∀ {vs : List V} {ns : List Str}, RpA K G vs (ns.map .str) → vs = ns.map .str
  | vs, [], h => rpa_nil h
  | vs, n :: ns, h => by
    obtain ⟨v, ws, rfl, h1, h2⟩ := rpa_cons h
    rw [rp_str h1, rpa_strs h2]; rfl
theorem rpa_bools : ∀ {vs : List V} {ns : List Bool}, RpA K G vs (ns.map .bool) → vs = ns.map .bl
  | vs, [], h => rpa_nil h
  | vs, n :: ns, h => by
    obtain ⟨v, ws, rfl, h1, h2⟩ := rpa_cons h
    rw [rp_bool h1, rpa_bools h2]; rfl
theorem ints_rpa : ∀ ns : List Int, RpA K G (ns.map V.int) (ns.map .int)
  | [] => .nil
  | n :: ns => .cons (.int n) (ints_rpa ns)
theorem strs_rpa : ∀ ns : List Str, RpA K G (ns.map V.str) (ns.map .str)
  | [] => .nil
  | n :: ns => .cons (.str n) (strs_rpa ns)
theorem ei_list {ds : List PyData} (h : Ev K te σ G (.list ds)) : EvI K (iList K te) σ G ds := fun G1 H1 l i R q => h G1 H1 l i _ fun v G2 H2 u2 p2 => by
  obtain ⟨p, xs, rfl, h1, h2⟩ := rp_ref p2
  exact ⟨p, rfl, ⟨xs, .inl (.inl (u2.i.ex h1 rfl))⟩, q _ G2 H2 u2 (wk_list h1 h2)⟩
theorem ei_str {l : List Nat} (h : Ev K te σ G (.str (S l))) : EvI K (iStr te) σ G (l.map fun c => .str (S [c])) := fun G1 H1 le i R q => h G1 H1 le i _ fun v G2 H2 u2 p2 => by
  exact ⟨S l, rp_str p2, q _ G2 H2 u2 wk_str⟩
theorem ei_rng1 {tr : TA} {j : Int} (h : EvA K tr σ G [.int j]) (h1 : -(2 ^ 62) ≤ j) (h2 : j < 2 ^ 62) : EvI K (iRng1 tr) σ G ((rng 0 j.toNat).map .int) := fun G1 H1 l i R q => h G1 H1 l i _ fun vs G2 H2 u2 p2 => by
  obtain ⟨v, ws, rfl, p3, p4⟩ := rpa_cons p2
  rw [rp_int p3, rpa_nil p4]
  exact ⟨j, rfl, h1, h2, q _ G2 H2 u2 wk_range⟩
theorem ei_rng2 {tr : TA} {k j : Int} (h : EvA K tr σ G [.int k, .int j]) (h1 : -(2 ^ 62) ≤ k) (h2 : k < 2 ^ 62) (h3 : -(2 ^ 62) ≤ j) (h4 : j < 2 ^ 62) : EvI K (iRng2 tr) σ G ((rng k (j - k).toNat).map .int) := fun G1 H1 l i R q => h G1 H1 l i _ fun vs G2 H2 u2 p2 => by
  obtain ⟨v, ws, rfl, p3, p4⟩ := rpa_cons p2
  obtain ⟨v', ws', rfl, p5, p6⟩ := rpa_cons p4
  rw [rp_int p3, rp_int p5, rpa_nil p6]
  exact ⟨k, j, rfl, ⟨h1, h2, h3, h4⟩, q _ G2 H2 u2 wk_range⟩
/-- enumerate(xs): numbers and things -/
def enumD (ds : List PyData) : List PyData := ds.zipIdx.map fun p => .tuple [.int (p.2 : Int), p.1]
theorem enumD_get {ds : List PyData} {i : Nat} {d : PyData} (h : (enumD ds)[i]? = some d) : ∃ e, ds[i]? = some e ∧ d = .tuple [.int (i : Int), e] := by
  unfold enumD at h
  rw [List.getElem?_map, List.getElem?_zipIdx] at h
  cases q : ds[i]? with
  | none => rw [q] at h; cases h
  | some e =>
    rw [q] at h
    refine ⟨e, rfl, ?_⟩
    simpa using h.symm
theorem ei_enum {tr : TA} {ds : List PyData} (h : EvA K tr σ G [.list ds]) : EvI K (iEnum K tr) σ G (enumD ds) := fun G1 H1 l i R q => h G1 H1 l i _ fun vs G2 H2 u2 p2 => by
  obtain ⟨v, ws, rfl, p3, p4⟩ := rpa_cons p2
  rw [rpa_nil p4]
  obtain ⟨p, xs, rfl, h1, h2⟩ := rp_ref p3
  refine ⟨p, xs, rfl, .inl (.inl (u2.i.ex h1 rfl)), q _ G2 H2 u2 fun G' H' l' i' => ?_⟩
  have e : SqL K H' p xs := .inl (.inl (i'.ex (l' _ _ h1) rfl))
  have W := walk_enum (K := K) (a := p) (xs := xs)
  refine ⟨by have := W.stops H' e; rw [h2.len] at this; simpa [enumD] using this, fun j d hd => ?_⟩
  obtain ⟨f, hf, rfl⟩ := enumD_get hd
  obtain ⟨v, g1, g2⟩ := h2.get hf
  have hj : j < xs.length := (List.getElem?_eq_some_iff.mp g1).1
  refine ⟨W.goes j H' hj e, fun x H2 y => ?_⟩
  obtain ⟨T, x1, x2, rfl, hT, rfl, e1, e2⟩ := W.yields j H' x H2 hj e y
  cases e1
  have e2 : xs[j]? = some x2 := e2
  rw [g1] at e2
  cases e2
  have u3 := Up.new (o := .tup [V.int (j : Int), v]) i' hT
  exact ⟨_, u3, .tup (.inl (.inl upd_same)) (.cons (.int _) (.cons (g2.mono (l'.trans u3.g)) .nil))⟩
/-! ### targets -/
theorem bnd_name {k : Nat} : Bnd K (gName k) σ d fun σ2 G => ∃ x, σ2 = σ.set k (some x) ∧ Rp K G x d := fun G H x i p Q q => q _ ⟨x, rfl, p⟩
theorem wipe1 {k : Nat} {x : Option V} : wipe ((wipe σ [k]).set k x) [k] = wipe σ [k] := by
  show (((σ.set k none).set k x).set k none) = σ.set k none
  rw [List.set_set, List.set_set]
theorem wipe1s {k : Nat} {x : Option V} : (wipe σ [k]).set k x = σ.set k x := by
  show (σ.set k none).set k x = σ.set k x
  rw [List.set_set]
/-- a comprehension: the things that pass, each turned -/
theorem lc_new {α : Type} {D : α → PyData} {xs : List α} {p : α → Bool} {f : α → PyData} {vs : List Nat} {B : α → L2.St → Hp → Prop} (hi : EvI K wi σ G (xs.map D)) (hb : ∀ z ∈ xs, Bnd K g (wipe σ vs) (D z) (B z))
    (hw : ∀ z ∈ xs, ∀ σ2 G, B z σ2 G → wipe σ2 vs = wipe σ vs)
    (ht : ∀ z ∈ xs, ∀ G1 σ2, Le G G1 → B z σ2 G1 → EvT tt σ2 G1 (p z)) (he : ∀ z ∈ xs, p z = true → ∀ G1 σ2, Le G G1 → B z σ2 G1 → Ev K te σ2 G1 (f z))
    (hBm : ∀ z σ2 G1 G2, Le G1 G2 → B z σ2 G1 → B z σ2 G2) (hl : xs.length ≤ 100000) {G1 H1 : Hp} (l : Le G G1) (i : In G1 H1) {Q : VK}
    (q : ∀ D' G3 H3 acc, H1 D' = none → G3 D' = none → Up G1 H1 G3 (fun b => if b = D' then none else H3 b) → In G3 H3 → H3 D' = some (.lst acc) → RpA K G3 acc ((xs.filter p).map f) → Q (.ref D') H3) : tLc wi g tt te vs σ H1 Q := hi G1 H1 l i _ fun J G2 H2 u2 w => by
  intro D' hD
  refine ⟨fun i m H => m = xs.length - i ∧ i ≤ xs.length ∧ ∃ G3, G3 D' = none ∧ Up G2 H2 G3 (fun b => if b = D' then none else H b) ∧ In G3 H ∧ ∃ acc, H D' = some (.lst acc) ∧ RpA K G3 acc (((xs.take i).filter p).map f), ⟨xs.length, by simp, Nat.zero_le _, G2, u2.i.no hD, ?_, ?_, [], upd_same, .nil⟩, ?_⟩
  · refine ⟨Le.refl _, fun b o e => ?_, fun b o e => ?_, fun _ _ e => .inl e⟩
    · have ne : b ≠ D' := fun z => by subst z; rw [u2.i.no hD] at e; cases e
      show (if b = D' then none else upd H2 D' (.lst []) b) = _ ∨ _ ∧ ∃ ob, (if b = D' then none else upd H2 D' (.lst []) b) = _
      rw [if_neg ne, upd_ne ne]
      exact u2.i b o e
    · have ne : b ≠ D' := fun z => by subst z; rw [hD] at e; cases e
      show (if b = D' then none else upd H2 D' (.lst []) b) = _
      rw [if_neg ne, upd_ne ne]
      exact e
  · exact u2.i.mut (u2.i.no hD)
  · rintro j m H ⟨rfl, hj, G3, hG3, u3, i3, acc, hacc, racc⟩
    obtain ⟨wstop, wgo⟩ := w G3 H u3.g i3
    by_cases hlt : j < xs.length
    · have hz : xs[j]? = some xs[j] := List.getElem?_eq_getElem hlt
      have hm : xs[j] ∈ xs := List.getElem_mem hlt
      obtain ⟨go, yl⟩ := wgo j (D xs[j]) (by rw [List.getElem?_map, hz]; rfl)
      refine .inr ⟨go, fun H' => j + 1 ≤ xs.length ∧ ∃ G3, G3 D' = none ∧ Up G2 H2 G3 (fun b => if b = D' then none else H' b) ∧ In G3 H' ∧ ∃ acc, H' D' = some (.lst acc) ∧ RpA K G3 acc (((xs.take (j + 1)).filter p).map f), fun H' x => ⟨xs.length - (j + 1), by omega, rfl, x.1, x.2⟩, fun x H4 y => ?_⟩
      obtain ⟨G4, u4, r4⟩ := yl x H4 y
      have hD4 : H4 D' = some (.lst acc) := u4.h _ _ hacc
      have hG4 : G4 D' = none := u4.hide (by rw [hacc]; intro z; cases z) hG3
      -- growing but for D'
      have grow : ∀ {Ga Ha Gb Hb : Hp}, Up G2 H2 Ga (fun b => if b = D' then none else Ha b) → Ga D' = none → Up Ga Ha Gb Hb → Gb D' = none → Up G2 H2 Gb (fun b => if b = D' then none else Hb b) := fun {Ga Ha Gb Hb} ua na ub nb => by
        refine ⟨ua.g.trans ub.g, fun b o e => ?_, fun b o e => ?_, fun b o e => ?_⟩
        · have ne : b ≠ D' := fun z => by subst z; rw [nb] at e; cases e
          show (if b = D' then none else Hb b) = _ ∨ _ ∧ ∃ ob, (if b = D' then none else Hb b) = _
          rw [if_neg ne]
          exact ub.i b o e
        · have h1 := ua.h b o e
          have ne : b ≠ D' := fun z => by subst z; rw [hD] at e; cases e
          have h1 : (if b = D' then none else Ha b) = some o := h1
          rw [if_neg ne] at h1
          show (if b = D' then none else Hb b) = _
          rw [if_neg ne]
          exact ub.h b o h1
        · have ne : b ≠ D' := fun z => by subst z; rw [nb] at e; cases e
          rcases ub.n b o e with q | q
          · exact ua.n b o q
          · refine .inr ?_
            cases h2 : H2 b with
            | none => rfl
            | some o2 =>
              have h1 : (if b = D' then none else Ha b) = some o2 := ua.h b o2 h2
              rw [if_neg ne, q] at h1
              cases h1
      have u24 := grow u3 hG3 u4 hG4
      have l4 : Le G G4 := l.trans (u2.g.trans u24.g)
      refine hb _ hm G4 H4 x u4.i r4 _ fun σ2 b2 => ⟨hw _ hm σ2 G4 b2, ?_⟩
      refine ht _ hm G4 σ2 l4 b2 G4 H4 (Le.refl _) u4.i _ fun G5 H5 u5 => ?_
      have hD5 := u5.h _ _ hD4
      have hG5 : G5 D' = none := u5.hide (by rw [hD4]; intro z; cases z) hG4
      have u25 := grow u24 hG4 u5 hG5
      have tk : (xs.take (j + 1)).filter p = (xs.take j).filter p ++ [xs[j]].filter p := by
        rw [List.take_succ_eq_append_getElem hlt, List.filter_append]
      cases hp : p xs[j] with
      | false =>
        show _ ∧ _
        refine ⟨hlt, G5, hG5, u25, u5.i, acc, hD5, ?_⟩
        rw [tk]
        have : [xs[j]].filter p = [] := by simp [hp]
        rw [this, List.append_nil]
        exact racc.mono (u4.g.trans u5.g)
      | true =>
        show te σ2 H5 _
        refine he _ hm hp G5 σ2 (l4.trans u5.g) (hBm _ _ _ _ u5.g b2) G5 H5 (Le.refl _) u5.i _ fun y G6 H6 u6 r6 => ?_
        have hD6 := u6.h _ _ hD5
        have hG6 : G6 D' = none := u6.hide (by rw [hD5]; intro z; cases z) hG5
        have u26 := grow u25 hG5 u6 hG6
        have hlen : acc.length ≤ xs.length := by
          rw [racc.len, List.length_map]
          exact Nat.le_trans (List.length_filter_le _ _) (by rw [List.length_take]; omega)
        refine ⟨acc, hD6, Nat.lt_of_le_of_lt (Nat.le_trans hlen hl) (by decide), hlt, G6, hG6, ?_, u6.i.mut hG6, acc ++ [y], upd_same, ?_⟩
        · refine ⟨u26.g, fun b o e => ?_, fun b o e => ?_, u26.n⟩
          · have ne : b ≠ D' := fun z => by subst z; rw [hG6] at e; cases e
            have := u26.i b o e
            show (if b = D' then none else upd H6 D' _ b) = _ ∨ _ ∧ ∃ ob, (if b = D' then none else upd H6 D' _ b) = _
            simp only [if_neg ne] at this
            rw [if_neg ne, upd_ne ne]
            exact this
          · have ne : b ≠ D' := fun z => by subst z; rw [hD] at e; cases e
            have := u26.h b o e
            simp only [if_neg ne] at this
            show (if b = D' then none else upd H6 D' _ b) = _
            rw [if_neg ne, upd_ne ne]
            exact this
        · rw [tk]
          have : [xs[j]].filter p = [xs[j]] := by simp [hp]
          rw [this, List.map_append]
          have ap : ∀ {v1 v2 : List V} {d1 d2 : List PyData}, RpA K G6 v1 d1 → RpA K G6 v2 d2 → RpA K G6 (v1 ++ v2) (d1 ++ d2) := by
            intro v1
            induction v1 with
            | nil => intro v2 d1 d2 h1 h2; cases h1; exact h2
            | cons v vs ih => intro v2 d1 d2 h1 h2; cases h1 with | cons h a => exact .cons h (ih a h2)
          exact ap (racc.mono ((u4.g.trans u5.g).trans u6.g)) (.cons r6 .nil)
    · have e : j = xs.length := by omega
      subst e
      refine .inl ⟨by simpa using wstop, ?_⟩
      rw [List.take_length] at racc
      refine q D' G3 H acc (u2.h.no hD) hG3 ?_ i3 hacc racc
      refine ⟨u2.g.trans u3.g, u3.i, fun b o e => u3.h b o (u2.h b o e), fun b o e => ?_⟩
      rcases u3.n b o e with z | z
      · exact u2.n b o z
      · exact .inr (u2.h.no z)
/-- what is new may be shown -/
theorem show_new {D' : Addr} {G1 H1 G3 H3 : Hp} {o : HO} (h1 : H1 D' = none) (h2 : G3 D' = none) (u : Up G1 H1 G3 (fun b => if b = D' then none else H3 b)) (i3 : In G3 H3) (e3 : H3 D' = some o) : Up G1 H1 (upd G3 D' o) H3 ∧ Le G3 (upd G3 D' o) := by
  have hnn : ∀ b o, G3 b = some o → b ≠ D' := fun b o e z => by subst z; rw [h2] at e; cases e
  have lg : Le G3 (upd G3 D' o) := fun b o e => by rw [upd_ne (hnn b o e)]; exact e
  refine ⟨⟨u.g.trans lg, fun b o e => ?_, fun b o e => ?_, fun b o e => ?_⟩, lg⟩
  · by_cases hb : b = D'
    · subst hb; rw [upd_same] at e; cases e; exact .inl e3
    · rw [upd_ne hb] at e; exact i3 b o e
  · have ne : b ≠ D' := fun z => by subst z; rw [h1] at e; cases e
    have := u.h b o e
    simp only [if_neg ne] at this
    exact this
  · by_cases hb : b = D'
    · subst hb; exact .inr h1
    · rw [upd_ne hb] at e
      exact u.n b o e
theorem ev_lc {α : Type} {D : α → PyData} {xs : List α} {p : α → Bool} {f : α → PyData} {vs : List Nat} {B : α → L2.St → Hp → Prop} (hi : EvI K wi σ G (xs.map D)) (hb : ∀ z ∈ xs, Bnd K g (wipe σ vs) (D z) (B z))
    (hw : ∀ z ∈ xs, ∀ σ2 G, B z σ2 G → wipe σ2 vs = wipe σ vs)
    (ht : ∀ z ∈ xs, ∀ G1 σ2, Le G G1 → B z σ2 G1 → EvT tt σ2 G1 (p z)) (he : ∀ z ∈ xs, p z = true → ∀ G1 σ2, Le G G1 → B z σ2 G1 → Ev K te σ2 G1 (f z))
    (hBm : ∀ z σ2 G1 G2, Le G1 G2 → B z σ2 G1 → B z σ2 G2) (hl : xs.length ≤ 100000) : Ev K (tLc wi g tt te vs) σ G (.list ((xs.filter p).map f)) := fun G1 H1 l i Q q =>
  lc_new hi hb hw ht he hBm hl l i fun D' G3 H3 acc h1 h2 u i3 e3 r3 => by
    obtain ⟨u4, l4⟩ := show_new h1 h2 u i3 e3
    exact q _ _ _ u4 (.lst upd_same (r3.mono l4))
end
end Z

namespace Z
open PySem PySem.Spec PyProof.Rows L2

/-! ### operators by data -/
section
variable {K : PySem.W.Frag} {σ : L2.St} {G H : Hp}
theorem opv_I0 {g : Int → Int → V} {D : Int → Int → PyData} (h : ∀ i j G, Rp K G (g i j) (D i j)) {i j : Int} : OpV K (rI0 g) (.int i) (.int j) (D i j) := fun G H x y hi px py Q q => by
  rw [rp_int px, rp_int py]
  exact ⟨i, j, rfl, rfl, q _ G H (Up.refl hi) (h i j G)⟩
theorem opv_I {C : Int → Int → Prop} {g : Int → Int → V} {D : Int → Int → PyData} (h : ∀ i j G, Rp K G (g i j) (D i j)) {i j : Int} (hc : C i j) : OpV K (rI C g) (.int i) (.int j) (D i j) := fun G H x y hi px py Q q => by
  rw [rp_int px, rp_int py]
  exact ⟨i, j, rfl, rfl, hc, q _ G H (Up.refl hi) (h i j G)⟩
theorem opv_add {i j : Int} : OpV K (rI0 fun i j => .int (i + j)) (.int i) (.int j) (.int (i + j)) := opv_I0 (D := fun i j => .int (i + j)) fun _ _ _ => .int _
theorem opv_sub {i j : Int} : OpV K (rI0 fun i j => .int (i - j)) (.int i) (.int j) (.int (i - j)) := opv_I0 (D := fun i j => .int (i - j)) fun _ _ _ => .int _
theorem opv_mul {i j : Int} (h : CMul i j) : OpV K (rI CMul fun i j => .int (i * j)) (.int i) (.int j) (.int (i * j)) := opv_I (D := fun i j => .int (i * j)) (fun _ _ _ => .int _) h
theorem opv_fdiv {i j : Int} (h : CDivN i j) : OpV K (rI CDivN fun i j => .int (i.fdiv j)) (.int i) (.int j) (.int (i.fdiv j)) := opv_I (D := fun i j => .int (i.fdiv j)) (fun _ _ _ => .int _) h
theorem opv_mod {i j : Int} (h : j ≠ 0) : OpV K (rI (fun _ j => j ≠ 0) fun i j => .int (i.fmod j)) (.int i) (.int j) (.int (i.fmod j)) := opv_I (C := fun _ j => j ≠ 0) (D := fun i j => .int (i.fmod j)) (fun _ _ _ => .int _) h
theorem opv_pow {i j : Int} (h : CPow i j) : OpV K (rI CPow fun i j => .int (i ^ j.toNat)) (.int i) (.int j) (.int (i ^ j.toNat)) := opv_I (D := fun i j => .int (i ^ j.toNat)) (fun _ _ _ => .int _) h
theorem opv_lt {i j : Int} : OpV K (rI0 fun i j => .bl (decide (i < j))) (.int i) (.int j) (.bool (decide (i < j))) := opv_I0 (D := fun i j => .bool (decide (i < j))) fun _ _ _ => .bl _
theorem opv_le {i j : Int} : OpV K (rI0 fun i j => .bl (decide (i ≤ j))) (.int i) (.int j) (.bool (decide (i ≤ j))) := opv_I0 (D := fun i j => .bool (decide (i ≤ j))) fun _ _ _ => .bl _
theorem opv_gt {i j : Int} : OpV K (rI0 fun i j => .bl (decide (j < i))) (.int i) (.int j) (.bool (decide (j < i))) := opv_I0 (D := fun i j => .bool (decide (j < i))) fun _ _ _ => .bl _
theorem opv_ge {i j : Int} : OpV K (rI0 fun i j => .bl (decide (j ≤ i))) (.int i) (.int j) (.bool (decide (j ≤ i))) := opv_I0 (D := fun i j => .bool (decide (j ≤ i))) fun _ _ _ => .bl _
theorem unv_neg {i : Int} : UnV K (rU fun i => .int (-i)) (.int i) (.int (-i)) := fun G H x hi px Q q => by
  rw [rp_int px]
  exact ⟨i, rfl, q _ G H (Up.refl hi) (.int _)⟩
/-- texts as lists of signs -/
def rAddS : R2 := fun x y H Q => ∃ i j, x = .str i ∧ y = .str j ∧ i.length + j.length ≤ sizeLine ∧ Q (.str (i ++ j)) H
theorem S_app (a b : List Nat) : S a ++ S b = S (a ++ b) := by
  show (⟨(S a).cps ++ (S b).cps⟩ : Str) = _
  simp [S]
theorem S_len (a : List Nat) : (S a).length = a.length := by
  show (S a).cps.size = _
  simp [S]
theorem opv_addS {a b : List Nat} (h : a.length + b.length ≤ 10000000) : OpV K rAddS (.str (S a)) (.str (S b)) (.str (S (a ++ b))) := fun G H x y hi px py Q q => by
  rw [rp_str px, rp_str py]
  refine ⟨S a, S b, rfl, rfl, by rw [S_len, S_len]; exact Nat.le_trans h (by decide), ?_⟩
  rw [S_app]
  exact q _ G H (Up.refl hi) (.str _)
theorem opv_cat {a b : List PyData} (h : a.length + b.length ≤ 1000000) : OpV K rCat (.list a) (.list b) (.list (a ++ b)) := fun G H x y hi px py Q q => by
  obtain ⟨p, xs, rfl, h1, h2⟩ := rp_ref px
  obtain ⟨p', ys, rfl, h3, h4⟩ := rp_ref py
  refine ⟨p, p', xs, ys, rfl, rfl, hi.ex h1 rfl, hi.ex h3 rfl, by rw [h2.len, h4.len]; exact Nat.le_trans h (by decide), fun r hr => ?_⟩
  have u := Up.new (o := .lst (xs ++ ys)) hi hr
  have ap : ∀ {v1 v2 : List V} {d1 d2 : List PyData}, RpA K G v1 d1 → RpA K G v2 d2 → RpA K G (v1 ++ v2) (d1 ++ d2) := by
    intro v1
    induction v1 with
    | nil => intro v2 d1 d2 h1 h2; cases h1; exact h2
    | cons v vs ih => intro v2 d1 d2 h1 h2; cases h1 with | cons h a => exact .cons h (ih a h2)
  exact q _ _ _ u (.lst upd_same ((ap h2 h4).mono u.g))
/-- == of plain things -/
def scalD : PyData → PyData → Bool
  | .int _, .int _ => true
  | .str _, .str _ => true
  | .bool _, .bool _ => true
  | .none, .none => true
  | .none, .int _ => true
  | .int _, .none => true
  | .none, .str _ => true
  | .str _, .none => true
  | _, _ => false
def eqS : PyData → PyData → Bool
  | .int i, .int j => decide (i = j)
  | .str i, .str j => decide (i = j)
  | .bool i, .bool j => decide (i = j)
  | .none, .none => true
  | _, _ => false
theorem opv_eq {a b : PyData} (h : scalD a b = true) : OpV K rEq a b (.bool (eqS a b)) := fun G H x y hi px py Q q => by
  have fin : ∀ k, k = eqS a b → Q (.bl k) H := fun k e => by subst e; exact q _ G H (Up.refl hi) (.bl _)
  cases px <;> cases py <;> first
    | (refine ⟨rfl, fin _ ?_⟩; simp [eqS]; done)
    | (exact absurd h (by simp [scalD]))
theorem opv_ne {a b : PyData} (h : scalD a b = true) : OpV K rNe a b (.bool (!eqS a b)) := fun G H x y hi px py Q q => by
  have fin : ∀ k, k = (!eqS a b) → Q (.bl k) H := fun k e => by subst e; exact q _ G H (Up.refl hi) (.bl _)
  cases px <;> cases py <;> first
    | (refine ⟨rfl, fin _ ?_⟩; simp [eqS]; done)
    | (exact absurd h (by simp [scalD]))
theorem eqS_int {i j : Int} : eqS (.int i) (.int j) = decide (i = j) := rfl
theorem eqS_str {a b : List Nat} : eqS (.str (S a)) (.str (S b)) = decide (a = b) := by
  unfold eqS
  by_cases h : a = b
  · subst h; simp
  · have : S a ≠ S b := fun e => h (S_inj e)
    simp [h, this]
/-! == of nested things -/
mutual
def dicF : PyData → Bool
  | .list xs => dicFs xs
  | .tuple xs => dicFs xs
  | .dict _ => false
  | _ => true
def dicFs : List PyData → Bool
  | [] => true
  | d :: ds => dicF d && dicFs ds
end
theorem in_t {a : Addr} {xs : List V} (i : In G H) (h : SqT K G a xs) : SqT K H a xs := by
  rcases h with q | q
  · rcases q with q | ⟨o, q⟩
    · exact .inl (.inl (i.ex q rfl))
    · exact .inl (.inr ⟨o, i.ex q rfl⟩)
  · exact .inr q
mutual
theorem Rp.dp (i : In G H) : ∀ {v : V} {d : PyData}, Rp K G v d → dicF d = true → Dp K H v d
  | _, _, .non, _ => .non
  | _, _, .bl b, _ => .bl b
  | _, _, .int j, _ => .int j
  | _, _, .str x, _ => .str x
  | _, _, .lst h a, e => .lst (.inl (.inl (i.ex h rfl))) (RpA.dp i a (by simpa [dicF] using e))
  | _, _, .tup h a, e => .tup (in_t i h) (RpA.dp i a (by simpa [dicF] using e))
  | _, _, .dic h a, e => by simp [dicF] at e
theorem RpA.dp (i : In G H) : ∀ {v : List V} {d : List PyData}, RpA K G v d → dicFs d = true → DpAll K H v d
  | _, _, .nil, _ => .nil
  | _, _, .cons h a, e => by
    simp only [dicFs, Bool.and_eq_true] at e
    exact .cons (Rp.dp i h e.1) (RpA.dp i a e.2)
end
mutual
theorem dicF_of_lay : ∀ d : PyData, d.canLay0 = true → dicF d = true
  | .none, _ => by simp [dicF]
  | .bool _, _ => by simp [dicF]
  | .int _, _ => by simp [dicF]
  | .str _, _ => by simp [dicF]
  | .list xs, h => by
    simp only [PyData.canLay0] at h
    simp only [dicF]
    exact dicFs_of_lay xs h
  | .tuple xs, h => by
    simp only [PyData.canLay0] at h
    simp only [dicF]
    exact dicFs_of_lay xs h
  | .dict _, h => by simp [PyData.canLay0] at h
theorem dicFs_of_lay : ∀ ds : List PyData, PyData.canLayAll0 ds = true → dicFs ds = true
  | [], _ => by simp [dicFs]
  | d :: ds, h => by
    simp only [PyData.canLayAll0, Bool.and_eq_true] at h
    simp only [dicFs, Bool.and_eq_true]
    exact ⟨dicF_of_lay d h.1, dicFs_of_lay ds h.2⟩
end
theorem opv_eqD {a b : PyData} (ha : SeqAt.shaped a = true) (hb : SeqAt.shaped b = true) : OpV K (rEqD K) a b (.bool (PyData.eqv a b)) := fun G H x y hi px py Q q =>
  ⟨a, b, px.dp hi (dicF_of_lay _ (SeqAt.canLay_of_shaped ha)), py.dp hi (dicF_of_lay _ (SeqAt.canLay_of_shaped hb)), ha, hb, q _ G H (Up.refl hi) (.bl _)⟩
theorem opv_neD {a b : PyData} (ha : SeqAt.shaped a = true) (hb : SeqAt.shaped b = true) : OpV K (rNeD K) a b (.bool (!PyData.eqv a b)) := fun G H x y hi px py Q q =>
  ⟨a, b, px.dp hi (dicF_of_lay _ (SeqAt.canLay_of_shaped ha)), py.dp hi (dicF_of_lay _ (SeqAt.canLay_of_shaped hb)), ha, hb, q _ G H (Up.refl hi) (.bl _)⟩
end
end Z

namespace Z
open PySem PySem.Spec PyProof.Rows L2
/-! ### rules of our own -/
section
variable {X : Cx}
/-- text * int -/
def rMulS : R2 := fun x y H Q => ∃ z n, x = .str z ∧ y = .int n ∧ MulOk z n ∧ Q (.str (Txt.mul z n)) H
theorem op_mulS : OpR X (binaryOp .Mult) rMulS := by
  intro pins s σ H x y v u Q I rx ry h
  obtain ⟨z, n, rfl, rfl, hok, q⟩ := h
  obtain ⟨t, rfl⟩ := rx
  obtain ⟨t', rfl⟩ := ry
  exact SB.mul hok fun t' k => ⟨.str _, H, I.tok _, ⟨_, rfl⟩, q⟩
/-- sorted of alike data -/
def sortD (ds : List PyData) : List PyData := ds.mergeSort (PySem.W.dataLe false fun d => d)
def rSortD (K : PySem.W.Frag) : List V → Hp → VK → Prop := fun vs H Q => ∃ (a : Addr) (xs : List V) (ds : List PyData), vs = [.ref a] ∧ SqL K H a xs ∧ DpAll K H xs ds ∧ PySem.W.AllAlike ds ∧ PySem.W.Sortable ds ∧ (∀ d ∈ ds, d.depth ≤ 64) ∧
  ∀ p (ys : List V), H p = none → (∀ (R : V → PyData → Prop), (∀ (i : Nat) x d, xs[i]? = some x → ds[i]? = some d → R x d) → ys.length = (sortD ds).length ∧ ∀ (i : Nat) y d, ys[i]? = some y → (sortD ds)[i]? = some d → R y d) → Q (.ref p) (upd H p (.lst ys))
theorem each_zip {R : Value → V × PyData → Prop} : ∀ {us : List Value} {xs : List V} {ds : List PyData}, us.length = xs.length → xs.length = ds.length → (∀ (i : Nat) u x d, us[i]? = some u → xs[i]? = some x → ds[i]? = some d → R u (x, d)) → PySem.W.EachIs R us (xs.zip ds)
  | [], [], [], _, _, _ => .nil
  | u :: us, x :: xs, d :: ds, h1, h2, h => .cons (h 0 u x d rfl rfl rfl) (each_zip (by simpa using h1) (by simpa using h2) fun i => h (i + 1))
  | [], _ :: _, _, h1, _, _ => by cases h1
  | _ :: _, [], _, h1, _, _ => by cases h1
  | [], [], _ :: _, _, h2, _ => by cases h2
  | _ :: _, _ :: _, [], _, h2, _ => by cases h2
theorem DpAll.len {K : PySem.W.Frag} {H : Hp} : ∀ {xs : List V} {ds : List PyData}, DpAll K H xs ds → xs.length = ds.length
  | _, _, .nil => rfl
  | _, _, .cons _ a => by rw [List.length_cons, List.length_cons, DpAll.len a]
theorem DpAll.get {K : PySem.W.Frag} {H : Hp} : ∀ {xs : List V} {ds : List PyData} {i : Nat} {x : V} {d : PyData}, DpAll K H xs ds → xs[i]? = some x → ds[i]? = some d → Dp K H x d
  | _, _, _, _, _, .nil, e, _ => by simp at e
  | _, _, 0, _, _, .cons h _, e, f => by simp at e f; subst e f; exact h
  | _, _, i + 1, _, _, .cons _ a, e, f => DpAll.get (i := i) a (by simpa using e) (by simpa using f)
theorem each_vals {us : List Value} {bs : List (V × PyData)} (h : PySem.W.EachIs (fun u (b : V × PyData) => RelV b.1 u) us bs) : Vals (bs.map (·.1)) us := by
  induction h with
  | nil => exact .nil
  | cons r _ ih => exact .cons r ih
theorem zip_snd : ∀ {xs : List V} {ds : List PyData}, xs.length = ds.length → (xs.zip ds).map (·.2) = ds
  | [], [], _ => rfl
  | x :: xs, d :: ds, h => by
    show d :: (xs.zip ds).map (·.2) = d :: ds
    rw [zip_snd (by simpa using h)]
  | [], _ :: _, h => by cases h
  | _ :: _, [], h => by cases h
theorem cr_sortD (hu : X.A.units + 100 < cLine) : CallR X (.builtin "sorted") (rSortD X.K) := by
  intro pins s σ H vs us Q I r h
  obtain ⟨a, xs, ds, rfl, hs, hd, hal, hk, hdep, q⟩ := h
  obtain ⟨its, rv, hl, hz⟩ := I.list hs
  rw [Vals.ref1 r]
  have e1 := rv.length
  have e2 := DpAll.len hd
  have hm : (xs.zip ds).map (·.2) = ds := zip_snd e2
  refine PySem.W.sorted_data (R := fun u (b : V × PyData) => RelV b.1 u) (enc := fun b : V × PyData => b.2) (bs := xs.zip ds) hl.isList (each_zip e1.symm e2 fun i u x d hu hx hd' => ?_) (each_zip e1.symm e2 fun i u x d hu hx hd' => ?_) ?_ ?_ ?_ ?_ fun out h1 h2 => ?_
  · obtain ⟨u', h1, h2⟩ := rv.get hx
    rw [hu] at h1; cases h1; exact h2
  · obtain ⟨u', h1, h2⟩ := rv.get hx
    rw [hu] at h1; cases h1
    exact Dp.reads I d x u (DpAll.get hd hx hd') h2
  · rw [hm]; exact hal
  · rw [hm]; exact hk
  · rw [List.length_zip]; omega
  · intro b hb
    have : b.2 ∈ ds := by rw [← hm]; exact List.mem_map.mpr ⟨b, hb, rfl⟩
    have := hdep _ this
    show X.A.units + 2 + b.2.depth < cLine
    omega
  · obtain ⟨ep, he'⟩ := PyProof.Rows.sortedAll_at s.heap its out.toArray
    have hv := each_vals h2
    have hlen : (((xs.zip ds).mergeSort (PySem.W.dataLe false fun b : V × PyData => b.2)).map (·.1)).length ≤ sizeLine := by
      rw [List.length_map, List.length_mergeSort, List.length_zip]; omega
    refine ⟨.ref _, upd H (s.heap.objs.size + 1) (.lst (((xs.zip ds).mergeSort (PySem.W.dataLe false fun b : V × PyData => b.2)).map (·.1))), I.laid (t' := s.toks) (fun _ _ => PyProof.Rows.sortedAll_old) (Nat.le_succ _) ⟨hlen, out, ep, hv, he'⟩, rfl, q _ _ (I.hok.fresh (Nat.le_succ _)) fun R hR => ?_⟩
    have es : sortD ds = ((xs.zip ds).mergeSort (PySem.W.dataLe false fun b : V × PyData => b.2)).map (·.2) := by
      unfold sortD
      have t := PySem.W.sort_maps (r := PySem.W.dataLe false fun b : V × PyData => b.2) (s := PySem.W.dataLe false fun d => d) (fun b : V × PyData => b.2) (l := xs.zip ds) (fun _ _ _ _ => rfl)
      rw [hm] at t
      exact t.symm
    rw [es]
    refine ⟨by simp, fun i y d hy hd' => ?_⟩
    rw [List.getElem?_map] at hy hd'
    cases hb : ((xs.zip ds).mergeSort (PySem.W.dataLe false fun b : V × PyData => b.2))[i]? with
    | none => rw [hb] at hy; cases hy
    | some b =>
      rw [hb] at hy hd'
      cases hy; cases hd'
      have hmem : b ∈ xs.zip ds := (List.mergeSort_perm _ _).mem_iff.mp (List.mem_of_getElem? hb)
      obtain ⟨j, hj⟩ := List.mem_iff_getElem?.mp hmem
      rw [List.getElem?_zip_eq_some] at hj
      exact hR j b.1 b.2 hj.1 hj.2
/-- min of a list of alike data -/
def rMinD (K : PySem.W.Frag) : List V → Hp → VK → Prop := fun vs H Q => ∃ (a : Addr) (xs : List V) (d : PyData) (ds : List PyData), vs = [.ref a] ∧ SqL K H a xs ∧ DpAll K H xs (d :: ds) ∧ PySem.W.AlikeAll (d :: ds) ∧ PyData.depthAll (d :: ds) ≤ 64 ∧
  ∀ (i : Nat) x, xs[i]? = some x → (d :: ds)[i]? = some (PySem.W.minD d ds) → Q x H
theorem cr_minD (hc : X.calm = true) (hu : X.A.units + 100 < cLine) : CallR X (.builtin "min") (rMinD X.K) := by
  intro pins s σ H vs us Q I r h
  obtain ⟨a, xs, d, ds, rfl, hs, hd, hal, hdep, q⟩ := h
  obtain ⟨its, rv, hl, hz⟩ := I.list hs
  rw [Vals.ref1 r]
  obtain ⟨as, hr⟩ := Dp.readsAll I (d :: ds) xs its hd rv
  refine PySem.W.min_list_data (I.ok.hd hc) hl.isList (by simpa using hr) hal (by show X.A.units + 1 + PyData.depthAll (d :: ds) < cLine; omega) fun i v h' tk bs hv hm hk => ?_
  have hv' : its[i]? = some v := by simpa using hv
  have hi : i < its.length := (List.getElem?_eq_some_iff.mp hv').1
  have e1 := rv.length
  have e2 := DpAll.len hd
  obtain ⟨x, hx⟩ : ∃ x, xs[i]? = some x := ⟨xs[i]'(by omega), List.getElem?_eq_getElem _⟩
  obtain ⟨e, he⟩ : ∃ e, (d :: ds)[i]? = some e := ⟨(d :: ds)[i]'(by omega), List.getElem?_eq_getElem _⟩
  obtain ⟨u, h1, h2⟩ := rv.get hx
  rw [hv'] at h1; cases h1
  obtain ⟨bs', hr'⟩ := Dp.reads I e x v (DpAll.get hd hx he) h2
  have ee := (PyProof.Rows.reads_det (h := s.heap) (h' := h') (fun b o hb _ => hk b o hb) hr' hm).1
  refine ⟨x, H, I.kept (t' := tk) hk, h2, q i x hx ?_⟩
  rw [he, ee]
end
/-! ### calls by data -/
section
variable {K : PySem.W.Frag} {σ : L2.St} {G H : Hp}
theorem rpa_of_get : ∀ {vs : List V} {ds : List PyData}, vs.length = ds.length → (∀ (i : Nat) v d, vs[i]? = some v → ds[i]? = some d → Rp K G v d) → RpA K G vs ds
  | [], [], _, _ => .nil
  | v :: vs, d :: ds, h, f => .cons (f 0 v d rfl rfl) (rpa_of_get (by simpa using h) fun i => f (i + 1))
  | [], _ :: _, h, _ => by cases h
  | _ :: _, [], h, _ => by cases h
theorem cav_sortD {ds : List PyData} (hal : PySem.W.AllAlike ds) (hk : PySem.W.Sortable ds) (hdep : ∀ d ∈ ds, d.depth ≤ 64) (hf : dicFs ds = true) : CaV K (rSortD K) [.list ds] (.list (sortD ds)) := fun G H vs hi pv Q q => by
  obtain ⟨v, ws, rfl, p1, p2⟩ := rpa_cons pv
  rw [rpa_nil p2]
  obtain ⟨p, xs, rfl, h1, h2⟩ := rp_ref p1
  refine ⟨p, xs, ds, rfl, .inl (.inl (hi.ex h1 rfl)), h2.dp hi hf, hal, hk, hdep, fun r ys hr hR => ?_⟩
  obtain ⟨hl, hg⟩ := hR (fun x d => Rp K G x d) fun i x d hx hd => by
    obtain ⟨v, e1, e2⟩ := h2.get hd
    rw [hx] at e1; cases e1; exact e2
  have u := Up.new (o := .lst ys) hi hr
  exact q _ _ _ u (.lst upd_same ((rpa_of_get hl hg).mono u.g))
theorem cav_minD {d : PyData} {ds : List PyData} (hal : PySem.W.AlikeAll (d :: ds)) (hdep : PyData.depthAll (d :: ds) ≤ 64) (hf : dicFs (d :: ds) = true) : CaV K (rMinD K) [.list (d :: ds)] (PySem.W.minD d ds) := fun G H vs hi pv Q q => by
  obtain ⟨v, ws, rfl, p1, p2⟩ := rpa_cons pv
  rw [rpa_nil p2]
  obtain ⟨p, xs, rfl, h1, h2⟩ := rp_ref p1
  refine ⟨p, xs, d, ds, rfl, .inl (.inl (hi.ex h1 rfl)), h2.dp hi hf, hal, hdep, fun i x hx he => ?_⟩
  obtain ⟨v, e1, e2⟩ := h2.get he
  rw [hx] at e1; cases e1
  exact q _ G H (Up.refl hi) e2
/-- len -/
def rLenU (K : PySem.W.Frag) : List V → Hp → VK → Prop := fun xs H Q => ∃ x n, xs = [x] ∧ LenV K x H n ∧ Q (.int n) H
theorem cav_lenS {l : List Nat} (h : l.length ≤ 10000000) : CaV K (rLenU K) [.str (S l)] (.int (l.length : Int)) := fun G H vs hi pv Q q => by
  obtain ⟨v, ws, rfl, p1, p2⟩ := rpa_cons pv
  rw [rpa_nil p2, rp_str p1]
  refine ⟨_, l.length, rfl, ⟨by rw [S_len]; exact Nat.le_trans h (by decide), (S_len l).symm⟩, q _ G H (Up.refl hi) (.int _)⟩
theorem cav_lenL {ds : List PyData} : CaV K (rLenU K) [.list ds] (.int (ds.length : Int)) := fun G H vs hi pv Q q => by
  obtain ⟨v, ws, rfl, p1, p2⟩ := rpa_cons pv
  rw [rpa_nil p2]
  obtain ⟨p, xs, rfl, h1, h2⟩ := rp_ref p1
  refine ⟨_, ds.length, rfl, .inl ⟨xs, .inl (.inl (hi.ex h1 rfl)), h2.len.symm⟩, q _ G H (Up.refl hi) (.int _)⟩
theorem cav_lenT {ds : List PyData} : CaV K (rLenU K) [.tuple ds] (.int (ds.length : Int)) := fun G H vs hi pv Q q => by
  obtain ⟨v, ws, rfl, p1, p2⟩ := rpa_cons pv
  rw [rpa_nil p2]
  obtain ⟨p, xs, rfl, h1, h2⟩ := rp_tup p1
  refine ⟨_, ds.length, rfl, .inr ⟨xs, in_t hi h1, h2.len.symm⟩, q _ G H (Up.refl hi) (.int _)⟩
def rAbs : List V → Hp → VK → Prop := fun xs H Q => ∃ i, xs = [.int i] ∧ Q (.int (if i < 0 then -i else i)) H
theorem cav_abs {i : Int} : CaV K rAbs [.int i] (.int (i.natAbs : Int)) := fun G H vs hi pv Q q => by
  obtain ⟨v, ws, rfl, p1, p2⟩ := rpa_cons pv
  rw [rpa_nil p2, rp_int p1]
  refine ⟨i, rfl, ?_⟩
  have e : (if i < 0 then -i else i) = (i.natAbs : Int) := by split <;> omega
  rw [e]
  exact q _ G H (Up.refl hi) (.int _)
def rMin2 : List V → Hp → VK → Prop := fun xs H Q => ∃ i j, xs = [.int i, .int j] ∧ Q (.int (if j < i then j else i)) H
def rMax2 : List V → Hp → VK → Prop := fun xs H Q => ∃ i j, xs = [.int i, .int j] ∧ Q (.int (if j > i then j else i)) H
theorem cav_min2 {i j : Int} : CaV K rMin2 [.int i, .int j] (.int (min i j)) := fun G H vs hi pv Q q => by
  obtain ⟨v, ws, rfl, p1, p2⟩ := rpa_cons pv
  obtain ⟨v', ws', rfl, p3, p4⟩ := rpa_cons p2
  rw [rpa_nil p4, rp_int p1, rp_int p3]
  refine ⟨i, j, rfl, ?_⟩
  have e : (if j < i then j else i) = min i j := by split <;> omega
  rw [e]
  exact q _ G H (Up.refl hi) (.int _)
theorem cav_max2 {i j : Int} : CaV K rMax2 [.int i, .int j] (.int (max i j)) := fun G H vs hi pv Q q => by
  obtain ⟨v, ws, rfl, p1, p2⟩ := rpa_cons pv
  obtain ⟨v', ws', rfl, p3, p4⟩ := rpa_cons p2
  rw [rpa_nil p4, rp_int p1, rp_int p3]
  refine ⟨i, j, rfl, ?_⟩
  have e : (if j > i then j else i) = max i j := by split <;> omega
  rw [e]
  exact q _ G H (Up.refl hi) (.int _)
def rInt1 : List V → Hp → VK → Prop := fun xs H Q => (∃ i, xs = [.int i] ∧ Q (.int i) H) ∨ ∃ k, xs = [.bl k] ∧ Q (.int (if k then 1 else 0)) H
theorem cav_int {i : Int} : CaV K rInt1 [.int i] (.int i) := fun G H vs hi pv Q q => by
  obtain ⟨v, ws, rfl, p1, p2⟩ := rpa_cons pv
  rw [rpa_nil p2, rp_int p1]
  exact .inl ⟨i, rfl, q _ G H (Up.refl hi) (.int _)⟩
theorem cav_intB {i : Bool} : CaV K rInt1 [.bool i] (.int (if i then 1 else 0)) := fun G H vs hi pv Q q => by
  obtain ⟨v, ws, rfl, p1, p2⟩ := rpa_cons pv
  rw [rpa_nil p2, rp_bool p1]
  exact .inr ⟨i, rfl, q _ G H (Up.refl hi) (.int _)⟩
theorem cav_all {bs : List Bool} : CaV K (rAll K) [.list (bs.map .bool)] (.bool (bs.all id)) := fun G H vs hi pv Q q => by
  obtain ⟨v, ws, rfl, p1, p2⟩ := rpa_cons pv
  rw [rpa_nil p2]
  obtain ⟨p, xs, rfl, h1, h2⟩ := rp_ref p1
  rw [rpa_bools h2] at h1
  exact ⟨p, bs, rfl, .inl (.inl (hi.ex h1 rfl)), q _ G H (Up.refl hi) (.bl _)⟩
theorem cav_any {bs : List Bool} : CaV K (rAny K) [.list (bs.map .bool)] (.bool (bs.any id)) := fun G H vs hi pv Q q => by
  obtain ⟨v, ws, rfl, p1, p2⟩ := rpa_cons pv
  rw [rpa_nil p2]
  obtain ⟨p, xs, rfl, h1, h2⟩ := rp_ref p1
  rw [rpa_bools h2] at h1
  exact ⟨p, bs, rfl, .inl (.inl (hi.ex h1 rfl)), q _ G H (Up.refl hi) (.bl _)⟩
theorem cav_sum {ns : List Int} : CaV K (rSum K) [.list (ns.map .int)] (.int ns.sum) := fun G H vs hi pv Q q => by
  obtain ⟨v, ws, rfl, p1, p2⟩ := rpa_cons pv
  rw [rpa_nil p2]
  obtain ⟨p, xs, rfl, h1, h2⟩ := rp_ref p1
  rw [rpa_ints h2] at h1
  exact ⟨p, ns, rfl, .inl (.inl (hi.ex h1 rfl)), q _ G H (Up.refl hi) (.int _)⟩
/-- list(list), list(tuple) -/
def rListOf (K : PySem.W.Frag) : List V → Hp → VK → Prop := fun xs H Q => ∃ p ys, xs = [.ref p] ∧ (SqL K H p ys ∨ SqT K H p ys) ∧ ∀ l, H l = none → Q (.ref l) (upd H l (.lst ys))
theorem cav_listL {ds : List PyData} : CaV K (rListOf K) [.list ds] (.list ds) := fun G H vs hi pv Q q => by
  obtain ⟨v, ws, rfl, p1, p2⟩ := rpa_cons pv
  rw [rpa_nil p2]
  obtain ⟨p, xs, rfl, h1, h2⟩ := rp_ref p1
  refine ⟨p, xs, rfl, .inl (.inl (.inl (hi.ex h1 rfl))), fun l hl => ?_⟩
  have u := Up.new (o := .lst xs) hi hl
  exact q _ _ _ u (.lst upd_same (h2.mono u.g))
theorem cav_listT {ds : List PyData} : CaV K (rListOf K) [.tuple ds] (.list ds) := fun G H vs hi pv Q q => by
  obtain ⟨v, ws, rfl, p1, p2⟩ := rpa_cons pv
  rw [rpa_nil p2]
  obtain ⟨p, xs, rfl, h1, h2⟩ := rp_tup p1
  refine ⟨p, xs, rfl, .inr (in_t hi h1), fun l hl => ?_⟩
  have u := Up.new (o := .lst xs) hi hl
  exact q _ _ _ u (.lst upd_same (h2.mono u.g))
end
end Z

namespace Z
open PySem PySem.Spec PyProof.Rows L2
section
variable {K : PySem.W.Frag} {σ : L2.St} {G H : Hp} {ta tb te tx : TE} {a b d : PyData}
/-! ### slices -/
def cutL {α : Type} (l : List α) (lo hi : Option Int) : List α := (l.drop (HT.sIx l.length 0 lo)).take (HT.sIx l.length l.length hi - HT.sIx l.length 0 lo)
theorem cutS_S (l : List Nat) (lo hi : Option Int) : cutS (S l) lo hi = S (cutL l lo hi) := by
  unfold cutS cutL
  rw [S_cps, S_len]
  rfl
theorem eo_none : EvO tNoPart σ G none := fun G1 H1 l i Q q => q G1 H1 (Up.refl i)
theorem eo_some {i : Int} (h : Ev K te σ G (.int i)) : EvO (tPart te) σ G (some i) := fun G1 H1 l hi Q q => h G1 H1 l hi _ fun v G2 H2 u2 p2 => ⟨i, rp_int p2, q G2 H2 u2⟩
theorem ev_slS {l : List Nat} {tl th : TO} {lo hi : Option Int} (h : Ev K te σ G (.str (S l))) (hl : EvO tl σ G lo) (hh : EvO th σ G hi) (hz : l.length ≤ 10000000) : Ev K (tSl rSlS te tl th) σ G (.str (S (cutL l lo hi))) := fun G1 H1 le i Q q =>
  h G1 H1 le i _ fun v G2 H2 u2 p2 => hl G2 H2 (le.trans u2.g) u2.i _ fun G3 H3 u3 => hh G3 H3 (le.trans (u2.g.trans u3.g)) u3.i _ fun G4 H4 u4 => by
    refine ⟨S l, rp_str p2, by rw [S_len]; exact Nat.le_trans hz (by decide), ?_⟩
    rw [cutS_S]
    exact q _ G4 H4 ((u2.trans u3).trans u4) (.str _)
theorem rpa_drop : ∀ {n : Nat} {vs : List V} {ds : List PyData}, RpA K G vs ds → RpA K G (vs.drop n) (ds.drop n)
  | 0, _, _, h => h
  | _ + 1, _, _, .nil => .nil
  | n + 1, _, _, .cons _ a => rpa_drop (n := n) a
theorem rpa_take : ∀ {n : Nat} {vs : List V} {ds : List PyData}, RpA K G vs ds → RpA K G (vs.take n) (ds.take n)
  | 0, _, _, _ => .nil
  | _ + 1, _, _, .nil => .nil
  | n + 1, _, _, .cons h a => .cons h (rpa_take (n := n) a)
theorem ev_slL {ds : List PyData} {tl th : TO} {lo hi : Option Int} (h : Ev K te σ G (.list ds)) (hl : EvO tl σ G lo) (hh : EvO th σ G hi) : Ev K (tSl (rSlL K) te tl th) σ G (.list (cutL ds lo hi)) := fun G1 H1 le i Q q =>
  h G1 H1 le i _ fun v G2 H2 u2 p2 => hl G2 H2 (le.trans u2.g) u2.i _ fun G3 H3 u3 => hh G3 H3 (le.trans (u2.g.trans u3.g)) u3.i _ fun G4 H4 u4 => by
    obtain ⟨p, xs, rfl, h1, h2⟩ := rp_ref (p2.mono (u3.g.trans u4.g))
    refine ⟨p, xs, rfl, .inl (.inl (u4.i.ex h1 rfl)), fun r hr => ?_⟩
    have h3 : RpA K G4 (cutV xs lo hi) (cutL ds lo hi) := by
      show RpA K G4 (cutL xs lo hi) (cutL ds lo hi)
      unfold cutL
      rw [h2.len]
      exact rpa_take (rpa_drop h2)
    have u := Up.new (o := .lst (cutV xs lo hi)) u4.i hr
    exact q _ _ _ (((u2.trans u3).trans u4).trans u) (.lst upd_same (h3.mono u.g))
/-! ### places -/
theorem opv_ixS {l : List Nat} {i : Int} {c : Nat} (hz : l.length ≤ 10000000) (h : atI l i = some c) : OpV K (rIx K) (.str (S l)) (.int i) (.str (S [c])) := fun G H x y hi px py Q q => by
  rw [rp_str px, rp_int py]
  refine .inr (.inr ⟨S l, i, c, rfl, rfl, by rw [S_len]; exact Nat.le_trans hz (by decide), by rw [S_cps]; exact h, ?_⟩)
  exact q _ G H (Up.refl hi) (.str _)
theorem rpa_at {vs : List V} {ds : List PyData} {i : Int} (r : RpA K G vs ds) (h : atI ds i = some d) : ∃ v, atI vs i = some v ∧ Rp K G v d := by
  unfold atI at h ⊢
  rw [r.len]
  cases e : ixN ds.length i with
  | none => rw [e] at h; cases h
  | some j =>
    rw [e] at h
    exact r.get h
theorem opv_ixL {ds : List PyData} {i : Int} (h : atI ds i = some d) : OpV K (rIx K) (.list ds) (.int i) d := fun G H x y hi px py Q q => by
  obtain ⟨p, xs, rfl, h1, h2⟩ := rp_ref px
  rw [rp_int py]
  obtain ⟨v, h3, h4⟩ := rpa_at h2 h
  exact .inl ⟨p, xs, i, v, rfl, rfl, .inl (.inl (hi.ex h1 rfl)), h3, q _ G H (Up.refl hi) h4⟩
theorem opv_ixT {ds : List PyData} {i : Int} (h : atI ds i = some d) : OpV K (rIx K) (.tuple ds) (.int i) d := fun G H x y hi px py Q q => by
  obtain ⟨p, xs, rfl, h1, h2⟩ := rp_tup px
  rw [rp_int py]
  obtain ⟨v, h3, h4⟩ := rpa_at h2 h
  exact .inr (.inl ⟨p, xs, i, v, rfl, rfl, in_t hi h1, h3, q _ G H (Up.refl hi) h4⟩)
/-! ### texts -/
def rJoin (K : PySem.W.Frag) : V → List V → Hp → VK → Prop := fun x xs H Q => ∃ a p, ∃ ys : List Str, x = .str a ∧ xs = [.ref p] ∧ (SqL K H p (ys.map V.str) ∨ SqT K H p (ys.map V.str)) ∧ (ys.map (·.length)).sum + ys.length * a.length ≤ 16777216 ∧ Q (.str (Txt.join a ys)) H
theorem glue_nil : ∀ (ls : List (List Nat)) (acc : List Nat), (ls.map S).foldl (fun (acc : Array Nat) p => acc ++ (S []).cps ++ p.cps) acc.toArray = (acc ++ ls.flatten).toArray
  | [], acc => by simp
  | l :: ls, acc => by
    rw [List.map_cons, List.foldl_cons]
    have : acc.toArray ++ (S []).cps ++ (S l).cps = (acc ++ l).toArray := by simp [S]
    rw [this, glue_nil ls (acc ++ l), List.flatten_cons, List.append_assoc]
theorem join_nil (ls : List (List Nat)) : Txt.join (S []) (ls.map S) = S ls.flatten := by
  unfold Txt.join
  cases ls with
  | nil => rfl
  | cons l ls =>
    show (⟨((ls.map S).foldl (fun acc p => acc ++ (S []).cps ++ p.cps) (S l).cps)⟩ : Str) = _
    have e : (S l).cps = l.toArray := rfl
    rw [e, glue_nil ls l]
    rfl
theorem ev_join {ls : List (List Nat)} (ho : Ev K ta σ G (.str (S []))) (h : Ev K te σ G (.list (ls.map fun l => .str (S l)))) (hz : (ls.map (·.length)).sum ≤ 10000000) : Ev K (tM1 (rJoin K) ta te) σ G (.str (S ls.flatten)) := fun G1 H1 le i Q q =>
  ho G1 H1 le i _ fun v G2 H2 u2 p2 => ⟨⟨_, rp_str p2⟩, h G2 H2 (le.trans u2.g) u2.i _ fun w G3 H3 u3 p3 => by
    obtain ⟨p, xs, rfl, h1, h2⟩ := rp_ref p3
    have e : (ls.map fun l => PyData.str (S l)) = (ls.map S).map .str := by rw [List.map_map]; rfl
    rw [e] at h2
    rw [rpa_strs h2] at h1
    refine ⟨S [], p, ls.map S, rp_str p2, rfl, .inl (.inl (.inl (u3.i.ex h1 rfl))), ?_, ?_⟩
    · have e1 : (ls.map S).map (·.length) = ls.map (·.length) := by
        rw [List.map_map]
        exact List.map_congr_left fun l _ => S_len l
      rw [e1, S_len]
      simp only [List.length_nil, Nat.mul_zero, Nat.add_zero]
      exact Nat.le_trans hz (by decide)
    · rw [join_nil]
      exact q _ G3 H3 (u2.trans u3) (.str _)⟩
theorem mul_S (l : List Nat) (n : Nat) : Txt.mul (S l) (n : Int) = S (List.replicate n l).flatten := by
  unfold Txt.mul
  by_cases h0 : n = 0
  · subst h0; rfl
  rw [if_neg (by omega)]
  by_cases h1 : ((n : Int) == 1 || (S l).length == 0) = true
  · rw [if_pos h1]
    rw [S_len] at h1
    rcases Bool.or_eq_true_iff.mp h1 with e | e
    · have : n = 1 := by
        have e' : (n : Int) = 1 := by simpa using e
        omega
      subst this
      simp
    · have : l = [] := by simpa using e
      subst this
      have : (List.replicate n ([] : List Nat)).flatten = [] := by simp
      rw [this]
  · rw [if_neg h1]
    have key : ∀ (k : Nat) (acc : List Nat), (List.replicate k (S l).cps).foldl (· ++ ·) acc.toArray = (acc ++ (List.replicate k l).flatten).toArray := by
      intro k
      induction k with
      | zero => intro acc; simp
      | succ k ih =>
        intro acc
        rw [List.replicate_succ, List.foldl_cons, List.replicate_succ, List.flatten_cons]
        have : acc.toArray ++ (S l).cps = (acc ++ l).toArray := by simp [S]
        rw [this, ih, List.append_assoc]
    have := key n []
    simp only [Int.toNat_natCast]
    rw [this]
    rfl
theorem opv_mulS {l : List Nat} {n : Nat} (h : l.length * n ≤ 10000000) (hn : n ≤ 1000000) : OpV K rMulS (.str (S l)) (.int (n : Int)) (.str (S (List.replicate n l).flatten)) := fun G H x y hi px py Q q => by
  rw [rp_str px, rp_int py]
  refine ⟨S l, n, rfl, rfl, ⟨?_, fun h1 _ => ?_, fun _ _ => ?_⟩, ?_⟩
  · simp only [Bool.or_eq_false_iff, decide_eq_false_iff_not]
    constructor <;> omega
  · rw [S_len]
    have hpos : (0 : Int) < (n : Int) := by omega
    have : (l.length : Int) ≤ (2 ^ 63 - 1) / (n : Int) := by
      rw [Int.le_ediv_iff_mul_le hpos]
      have : ((l.length * n : Nat) : Int) ≤ ((10000000 : Nat) : Int) := Int.ofNat_le.mpr h
      rw [Int.natCast_mul] at this
      omega
    omega
  · rw [S_len]
    unfold PySem.Builtin.Str.tooLong
    simp only [Int.toNat_natCast, decide_eq_false_iff_not]
    have : sizeLine = 16777216 := by decide
    omega
  · rw [mul_S]
    exact q _ G H (Up.refl hi) (.str _)
/-! ### list(range(..)) -/
theorem ev_lstRg1 {i : Int} (h : Ev K te σ G (.int i)) (h0 : 0 ≤ i) (h1 : i ≤ 1000000) : Ev K (tLstRg (tRg1 te)) σ G (.list ((rng 0 i.toNat).map .int)) := fun G1 H1 le hi Q q => h G1 H1 le hi _ fun v G2 H2 u2 p2 =>
  ⟨i, rp_int p2, ⟨by omega, by omega, by omega, by omega, by omega⟩, fun p hp => by
    have e : rgV 0 i = (rng 0 i.toNat).map V.int := by
      unfold rgV rng
      rw [List.map_map]
      congr 1
      rw [Int.sub_zero]
    rw [e]
    have u := Up.new (o := .lst ((rng 0 i.toNat).map V.int)) u2.i hp
    exact q _ _ _ (u2.trans u) (.lst upd_same (ints_rpa _))⟩
theorem ev_lstRg2 {i j : Int} (ha : Ev K ta σ G (.int i)) (hb : Ev K tb σ G (.int j)) (h0 : 0 ≤ i) (h1 : i ≤ 1000000) (h2 : -1000000 ≤ j) (h3 : j ≤ 1000000) : Ev K (tLstRg (tRg2 ta tb)) σ G (.list ((rng i (j - i).toNat).map .int)) := fun G1 H1 le hi Q q => ha G1 H1 le hi _ fun v G2 H2 u2 p2 => hb G2 H2 (le.trans u2.g) u2.i _ fun w G3 H3 u3 p3 =>
  ⟨i, j, rp_int p2, rp_int p3, ⟨by omega, by omega, by omega, by omega, by omega⟩, fun p hp => by
    have e : rgV i j = (rng i (j - i).toNat).map V.int := by
      unfold rgV rng
      rw [List.map_map]
      rfl
    rw [e]
    have u := Up.new (o := .lst ((rng i (j - i).toNat).map V.int)) u3.i hp
    exact q _ _ _ ((u2.trans u3).trans u) (.lst upd_same (ints_rpa _))⟩
/-! ### dicts -/
def dD (es : List (Key × PyData)) : PyData := .dict (es.map fun e => (kD e.1, e.2))
def valK {α : Type} (es : List (Key × α)) (k : Key) : Option α := (es.find? fun e => decide (e.1 = k)).map (·.2)
inductive RpE (K : PySem.W.Frag) (G : Hp) : List (Key × V) → List (Key × PyData) → Prop
  | nil : RpE K G [] []
  | cons {k : Key} {v : V} {vs : List (Key × V)} {d : PyData} {ds : List (Key × PyData)} : Rp K G v d → RpE K G vs ds → RpE K G ((k, v) :: vs) ((k, d) :: ds)
theorem kD_inj {a b : Key} (h : kD a = kD b) : a = b := by
  cases a <;> cases b <;> simp [kD] at h <;> simp [h]
theorem rpe_of : ∀ {kvs : List (Key × V)} {es : List (Key × PyData)}, RpD K G kvs (es.map fun e => (kD e.1, e.2)) → RpE K G kvs es
  | _, [], h => by cases h; exact .nil
  | kvs, (k, d) :: es, h => by
    rw [List.map_cons] at h
    generalize hz : (kD k, d) = z at h
    cases h with
    | cons h a =>
      simp only [Prod.mk.injEq] at hz
      obtain ⟨e1, e2⟩ := hz
      have := kD_inj e1
      subst this e2
      exact .cons h (rpe_of a)
theorem rpe_to : ∀ {kvs : List (Key × V)} {es : List (Key × PyData)}, RpE K G kvs es → RpD K G kvs (es.map fun e => (kD e.1, e.2))
  | _, _, .nil => .nil
  | _, _, .cons h a => .cons h (rpe_to a)
theorem RpE.mono {G' : Hp} (l : Le G G') : ∀ {kvs : List (Key × V)} {es : List (Key × PyData)}, RpE K G kvs es → RpE K G' kvs es
  | _, _, .nil => .nil
  | _, _, .cons h a => .cons (h.mono l) (RpE.mono l a)
theorem RpE.len : ∀ {kvs : List (Key × V)} {es : List (Key × PyData)}, RpE K G kvs es → kvs.length = es.length
  | _, _, .nil => rfl
  | _, _, .cons _ a => by rw [List.length_cons, List.length_cons, RpE.len a]
theorem RpE.val : ∀ {kvs : List (Key × V)} {es : List (Key × PyData)} {k : Key}, RpE K G kvs es → (valV kvs k = none ∧ valK es k = none) ∨ ∃ v d, valV kvs k = some v ∧ valK es k = some d ∧ Rp K G v d
  | _, _, _, .nil => .inl ⟨rfl, rfl⟩
  | (k', v) :: kvs, (_, d) :: es, k, .cons h a => by
    by_cases e : k' = k
    · subst e
      exact .inr ⟨v, d, by simp [valV], by simp [valK], h⟩
    · rcases RpE.val (k := k) a with ⟨h1, h2⟩ | ⟨v', d', h1, h2, h3⟩
      · exact .inl ⟨by simpa [valV, e] using h1, by simpa [valK, e] using h2⟩
      · exact .inr ⟨v', d', by simpa [valV, e] using h1, by simpa [valK, e] using h2, h3⟩
theorem rp_dic {v : V} {es : List (Key × PyData)} (h : Rp K G v (dD es)) : ∃ p kvs, v = .ref p ∧ G p = some (.dK kvs) ∧ RpE K G kvs es := by
  unfold dD at h
  generalize hz : (es.map fun e => (kD e.1, e.2)) = z at h
  cases h with
  | dic h a =>
    subst hz
    exact ⟨_, _, rfl, h, rpe_of a⟩
theorem kD_kV {G : Hp} {v : V} {k : Key} (h : Rp K G v (kD k)) : v = kV k := by
  cases k with
  | inl i => exact rp_int h
  | inr x => exact rp_str h
theorem ev_dget {es : List (Key × PyData)} {k : Key} (ho : Ev K ta σ G (dD es)) (hk : Ev K tb σ G (kD k)) (hv : valK es k = some d) : Ev K (tDGet ta tb) σ G d := fun G1 H1 le i Q q =>
  ho G1 H1 le i _ fun x G2 H2 u2 p2 => hk G2 H2 (le.trans u2.g) u2.i _ fun y G3 H3 u3 p3 => by
    obtain ⟨p, kvs, rfl, h1, h2⟩ := rp_dic (p2.mono u3.g)
    rcases h2.val (k := k) with ⟨_, z⟩ | ⟨v, d', z1, z2, z3⟩
    · rw [hv] at z; cases z
    · rw [hv] at z2; cases z2
      refine ⟨p, v, rfl, .inl ⟨kvs, k, u3.i.rd h1, kD_kV p3, z1.symm⟩, q _ G3 H3 (u2.trans u3) z3⟩
theorem ev_din {es : List (Key × PyData)} {k : Key} (hk : Ev K tb σ G (kD k)) (ho : Ev K ta σ G (dD es)) : Ev K (tDIn tb ta) σ G (.bool (valK es k).isSome) := fun G1 H1 le i Q q =>
  hk G1 H1 le i _ fun y G2 H2 u2 p2 => ho G2 H2 (le.trans u2.g) u2.i _ fun x G3 H3 u3 p3 => by
    obtain ⟨p, kvs, rfl, h1, h2⟩ := rp_dic p3
    refine ⟨p, valV kvs k, rfl, .inl ⟨kvs, k, u3.i.rd h1, kD_kV p2, rfl⟩, ?_⟩
    have e : (valV kvs k).isSome = (valK es k).isSome := by
      rcases h2.val (k := k) with ⟨z1, z2⟩ | ⟨v, d', z1, z2, z3⟩ <;> rw [z1, z2] <;> rfl
    rw [e]
    exact q _ G3 H3 (u2.trans u3) (.bl _)
theorem ev_dget2 {es : List (Key × PyData)} {k : Key} (ho : Ev K ta σ G (dD es)) (hk : Ev K tb σ G (kD k)) (hx : Ev K tx σ G d) : Ev K (tDGet2 ta tb tx) σ G ((valK es k).getD d) := fun G1 H1 le i Q q =>
  ho G1 H1 le i _ fun x G2 H2 u2 p2 => by
    obtain ⟨p, kvs, rfl, h1, h2⟩ := rp_dic p2
    refine ⟨p, rfl, .inl ⟨kvs, u2.i.rd h1⟩, hk G2 H2 (le.trans u2.g) u2.i _ fun y G3 H3 u3 p3 => hx G3 H3 (le.trans (u2.g.trans u3.g)) u3.i _ fun z G4 H4 u4 p4 => ?_⟩
    refine ⟨valV kvs k, .inl ⟨kvs, k, u4.i.rd (u4.g _ _ (u3.g _ _ h1)), kD_kV p3, rfl⟩, q _ G4 H4 ((u2.trans u3).trans u4) ?_⟩
    rcases h2.val (k := k) with ⟨z1, z2⟩ | ⟨v, d', z1, z2, z3⟩
    · rw [z1, z2]; exact p4
    · rw [z1, z2]; exact z3.mono (u3.g.trans u4.g)
end
end Z

namespace Z
open PySem PySem.Spec PyProof.Rows L2
/-- the built-in names are free -/
structure Blt (mg : Str → Option Value) : Prop where
  z_abs : mg "abs" = none
  z_all : mg "all" = none
  z_any : mg "any" = none
  z_bool : mg "bool" = none
  z_dict : mg "dict" = none
  z_enumerate : mg "enumerate" = none
  z_int : mg "int" = none
  z_isinstance : mg "isinstance" = none
  z_len : mg "len" = none
  z_list : mg "list" = none
  z_max : mg "max" = none
  z_min : mg "min" = none
  z_range : mg "range" = none
  z_repr : mg "repr" = none
  z_set : mg "set" = none
  z_sorted : mg "sorted" = none
  z_str : mg "str" = none
  z_sum : mg "sum" = none
  z_tuple : mg "tuple" = none
  z_zip : mg "zip" = none
/-- the def x of the module keeps the promise sp -/
def FnIs (P : Program) (w : World) (K : PySem.W.Frag) (mg : Str → Option Value) (base : Heap) (k : Nat) (x : Str) (ps : List Str) (sp : Sp) : Prop :=
  ∃ f fd, FnOk P w K mg base (L2.CX P w) k f fd ps sp ∧ mg x = some (.ref f) ∧ PySem.W.keepIn K (.ref f) = true ∧ Binds K fd ps []
/-- an own error of a text -/
def ExcIs (K : PySem.W.Frag) (mg : Str → Option Value) (x : Str) (C : Addr) : Prop :=
  mg x = some (.ref C) ∧ PySem.W.excIn K C He.veBase "ValueError.__new__" = true ∧ PySem.W.keepIn K (.ref C) = true ∧ PySem.W.subIn K (.ref C) (.type "BaseException") = some true ∧ PySem.W.typeIn K (.ref C) = some (.type "type")
section
variable {X : Cx}
theorem pe_fn {k : Nat} {x : Str} {ps : List Str} {sp : Sp} {E : XK} {e : Expr} {es : List Expr} {t : TA} {p pos : Pos} (F : FnIs X.prog X.w X.K X.mg X.base k x ps sp) (hr : Room k X.A) (hg : Gl X x) (hx : Passes (L2.CX X.prog X.w) X E) (ha : PA X (e :: es) t) (hdb : (x == ("__debug__" : Str)) = false := by decide)
    (he : starEach (e :: es) X.env = (false, eval e X.env) :: starEach es X.env := by rfl) (hpl : (backTo pos (starEach es X.env)).any (·.1) = false := by rfl) :
    PE X (.Call (.Name x p) (e :: es) [] pos) (tCall sp [] E t) := by
  obtain ⟨f, fd, G, gm, kp, b⟩ := F
  exact pe_call G hr hg gm kp b .nil hx ha hdb he hpl
theorem pe_gstr {x z : Str} {pos : Pos} (hg : Gl X x) (h : ∃ t, X.mg x = some (.str z t)) (hd : (x == ("__debug__" : Str)) = false := by decide) : PE X (.Name x pos) (tC (.str z)) := by
  obtain ⟨t, h⟩ := h
  exact pe_glob hg h ⟨t, rfl⟩ hd
theorem pe_gint {x : Str} {z : Int} {pos : Pos} (hg : Gl X x) (h : ∃ t, X.mg x = some (.int z t)) (hd : (x == ("__debug__" : Str)) = false := by decide) : PE X (.Name x pos) (tC (.int z)) := by
  obtain ⟨t, h⟩ := h
  exact pe_glob hg h ⟨t, rfl⟩ hd
theorem pmk_exc {x m : Str} {j : Nat} {p p2 pos : Pos} {C : Addr} (h : ExcIs X.K X.mg x C) (hg : Gl X x) (hdb : (x == ("__debug__" : Str)) = false := by decide) : PMk X (.Call (.Name x p) [.Constant (.str m) j p2] [] pos) (fun _ H Q => Q (.ref C) none H) :=
  pmk_own PySem.F.excBase_ValueError h.2.1 h.1 h.2.2.1 (raises_own h.2.2.2.1 h.2.2.2.2) hg hdb
def tRaise (W : WX) (t : L2.St → Hp → XK → Prop) : TS := fun _ σ H => t σ H fun cls d H' => W cls d σ H'
end
end Z

namespace Z
open PySem PySem.Spec PyProof.Rows L2
section
variable {X : Cx}
def rInC : R2 := fun x y H Q => ∃ (c : Nat) (z : Str), x = .str ⟨#[c]⟩ ∧ y = .str z ∧ Q (.bl (decide (c ∈ z.cps.toList))) H
def rInS : R2 := fun x y H Q => ∃ i j, x = .str i ∧ y = .str j ∧ Q (.bl (!(Builtin.Str.occurrences j i 0 j.length 1).isEmpty)) H
def rLtS : R2 := fun x y H Q => ∃ i j, x = .str i ∧ y = .str j ∧ Q (.bl (decide (i.cps.toList < j.cps.toList))) H
def rLenDc : List V → Hp → VK → Prop := fun xs H Q => ∃ a kvs, xs = [V.ref a] ∧ Rd H a (.dK kvs) ∧ Q (.int kvs.length) H
theorem cr_lenD : CallR X (.builtin "len") rLenDc := by
  intro pins s σ H xs us Q I r h
  obtain ⟨a, kvs, rfl, ha, q⟩ := h
  obtain ⟨u, rfl, ru⟩ := vals1 r
  cases ru
  exact d_len I ha fun t s' I' => ⟨.int kvs.length, H, I', ⟨t, rfl⟩, q⟩
def rSortDk : List V → Hp → VK → Prop := fun xs H Q => ∃ (a : Addr) (kvs : List (Key × V)) (ks : List Str), xs = [.ref a] ∧ Rd H a (.dK kvs) ∧ kvs.map (·.1) = ks.map Sum.inr ∧ ks.length < 64 ∧
    ∀ ys p, ys.Perm ks → sortedS ys = true → H p = none → Q (.ref p) (upd H p (.lst (ys.map V.str)))
/-- list(text) -/
def rListS : List V → Hp → VK → Prop := fun xs H Q => ∃ z : Str, xs = [.str z] ∧ z.length ≤ sizeLine ∧ ∀ p, H p = none → Q (.ref p) (upd H p (.lst (z.cps.toList.map fun c => V.str ⟨#[c]⟩)))
theorem cr_listS (hc : X.calm = true) : CallR X (.type "list") rListS := by
  intro pins s σ H xs us Q I r h
  obtain ⟨z, rfl, hz, q⟩ := h
  obtain ⟨u, rfl, t, rfl⟩ := vals1 r
  refine call_list_str (I.ok.hd hc) z t (fun h' tk acc' c' hk hS hacc => ?_) hz
  obtain ⟨hsz, hat⟩ := hacc
  refine ⟨.ref _, upd H s.heap.objs.size (.lst (z.cps.toList.map fun c => V.str ⟨#[c]⟩)), I.laid (t' := tk) hk (Nat.le_refl _) ⟨by rw [List.length_map, Array.length_toList]; exact hz, acc'.toList, c', ?_, by simpa using hS⟩, rfl, q _ (I.hok.fresh (Nat.le_refl _))⟩
  refine vals_of_at (by simp [hsz]) fun j x u hx hu => ?_
  rw [List.getElem?_map] at hx
  cases hc' : z.cps.toList[j]? with
  | none => rw [hc'] at hx; cases hx
  | some c =>
    rw [hc'] at hx
    cases hx
    have hu' : acc'[j]? = some u := by simpa using hu
    obtain ⟨c2, t2, e1, e2⟩ := hat j u hu'
    have e1' : z.cps.toList[j]? = some c2 := by simpa using e1
    rw [hc'] at e1'
    cases e1'
    exact ⟨t2, e2⟩
end
section
variable {K : PySem.W.Frag} {σ : L2.St} {G H : Hp} {ta tb te tx : TE} {a b d : PyData} {tt : TT} {D : Ends}
theorem opv_inC {c : Nat} {l : List Nat} : OpV K rInC (.str (S [c])) (.str (S l)) (.bool (decide (c ∈ l))) := fun G H x y hi px py Q q => by
  rw [rp_str px, rp_str py]
  refine ⟨c, S l, rfl, rfl, ?_⟩
  rw [S_cps]
  exact q _ G H (Up.refl hi) (.bl _)
theorem opv_ltS {a b : List Nat} : OpV K rLtS (.str (S a)) (.str (S b)) (.bool (decide (a < b))) := fun G H x y hi px py Q q => by
  rw [rp_str px, rp_str py]
  refine ⟨S a, S b, rfl, rfl, ?_⟩
  have : decide ((S a).cps.toList < (S b).cps.toList) = decide (a < b) := by simp only [S_cps]
  rw [this]
  exact q _ G H (Up.refl hi) (.bl _)
theorem cav_lenD {es : List (Key × PyData)} : CaV K rLenDc [dD es] (.int (es.length : Int)) := fun G H vs hi pv Q q => by
  obtain ⟨v, ws, rfl, p1, p2⟩ := rpa_cons pv
  rw [rpa_nil p2]
  obtain ⟨p, kvs, rfl, h1, h2⟩ := rp_dic p1
  refine ⟨p, kvs, rfl, hi.rd h1, ?_⟩
  rw [h2.len]
  exact q _ G H (Up.refl hi) (.int _)
theorem cav_listS {l : List Nat} (h : l.length ≤ 1000000) : CaV K rListS [.str (S l)] (.list (l.map fun c => .str (S [c]))) := fun G H vs hi pv Q q => by
  obtain ⟨v, ws, rfl, p1, p2⟩ := rpa_cons pv
  rw [rpa_nil p2, rp_str p1]
  refine ⟨S l, rfl, by rw [S_len]; exact Nat.le_trans h (by decide), fun p hp => ?_⟩
  rw [S_cps]
  have u := Up.new (o := .lst (l.map fun c => V.str ⟨#[c]⟩)) hi hp
  refine q _ _ _ u (.lst upd_same ?_)
  have e1 : (l.map fun c => V.str ⟨#[c]⟩) = (l.map fun c => S [c]).map V.str := by rw [List.map_map]; rfl
  have e2 : (l.map fun c => PyData.str (S [c])) = (l.map fun c => S [c]).map .str := by rw [List.map_map]; rfl
  rw [e1, e2]
  exact strs_rpa _
/-- a written text -/
theorem ev_lit {z : Str} {l : List Nat} (h : z = S l) : Ev K (tC (.str z)) σ G (.str (S l)) := by
  rw [h]; exact ev_str
/-! ### statements -/
theorem EvP.at {P : Hp → V → Prop} (h : EvP te σ G P) (hi : In G H) {Q : VK} (k : ∀ v G2 H2, Up G H G2 H2 → P G2 v → Q v H2) : te σ H Q := h G H (Le.refl _) hi Q k
theorem s_set {i : Nat} (h : Ev K te σ G d) (hi : In G H) (k : ∀ v G2 H2, Up G H G2 H2 → Rp K G2 v d → D.nx (σ.set i (some v)) H2) : tAsg te (gName i) D σ H := h G H (Le.refl _) hi _ k
theorem s_ret (h : Ev K te σ G d) (hi : In G H) (k : Ret K G H D.rt d) : tRet te D σ H := h G H (Le.refl _) hi _ k
theorem s_drop (h : Ev K te σ G d) (hi : In G H) (k : ∀ v G2 H2, Up G H G2 H2 → Rp K G2 v d → D.nx σ H2) : tDrop te D σ H := h G H (Le.refl _) hi _ k
theorem s_if {t u : TS} {k : Bool} (h : EvT tt σ G k) (hi : In G H) (ht : k = true → ∀ G2 H2, Up G H G2 H2 → t D σ H2) (hf : k = false → ∀ G2 H2, Up G H G2 H2 → u D σ H2) : tIfS tt t u D σ H := h G H (Le.refl _) hi _ fun G2 H2 u2 => by
  cases k with
  | true => exact ht rfl G2 H2 u2
  | false => exact hf rfl G2 H2 u2
/-- a for: I by the turn, the slots, what is looked at and the heap -/
theorem s_for {wi : TI} {g : TG} {tb : TS} {ds : List PyData} (hi : EvI K wi σ G ds) (hin : In G H)
    (k : ∀ G0 H0, Up G H G0 H0 → ∃ I : Nat → L2.St → Hp → Hp → Prop, I 0 σ G0 H0 ∧ (∀ i σ1 G1 H1, I i σ1 G1 H1 → Le G0 G1 ∧ In G1 H1) ∧
      (∀ (i : Nat) d x σ1 G1 H1 G2 H2, ds[i]? = some d → I i σ1 G1 H1 → Up G1 H1 G2 H2 → Rp K G2 x d → g x σ1 H2 fun σ2 H3 => tb { D with nx := fun σ3 H4 => ∃ G4, I (i + 1) σ3 G4 H4, ct := fun σ3 H4 => ∃ G4, I (i + 1) σ3 G4 H4, bk := D.nx } σ2 H3) ∧
      ∀ σ1 G1 H1, I ds.length σ1 G1 H1 → D.nx σ1 H1) : tFor wi g tb D σ H := hi G H (Le.refl _) hin _ fun J G2 H2 u2 w => by
  obtain ⟨I, h0, hG, hs, hd⟩ := k G2 H2 u2
  refine ⟨fun i m σ1 H1 => m = ds.length - i ∧ i ≤ ds.length ∧ ∃ G1, I i σ1 G1 H1, ⟨ds.length, by simp, Nat.zero_le _, G2, h0⟩, ?_⟩
  rintro i m σ1 H1 ⟨rfl, hle, G1, hI⟩
  obtain ⟨l1, i1⟩ := hG _ _ _ _ hI
  obtain ⟨wstop, wgo⟩ := w G1 H1 l1 i1
  by_cases hlt : i < ds.length
  · obtain ⟨go, yl⟩ := wgo i ds[i] (List.getElem?_eq_getElem hlt)
    refine .inr ⟨go, fun σ3 H4 => ∃ G4, I (i + 1) σ3 G4 H4, fun σ' H' x => ⟨ds.length - (i + 1), by omega, rfl, hlt, x⟩, fun x H3 y => ?_⟩
    obtain ⟨G3, u3, r3⟩ := yl x H3 y
    exact hs i ds[i] x σ1 G1 H1 G3 H3 (List.getElem?_eq_getElem hlt) hI u3 r3
  · have e : i = ds.length := by omega
    subst e
    exact .inl ⟨wstop, hd σ1 G1 H1 hI⟩
end
end Z

namespace Z
open PySem PySem.Spec PyProof.Rows L2
section
variable {X : Cx}
/-- name = {k: v for ..}, the name a local on the comprehension's line -/
theorem ps_setDc {i : Nat} {y : Str} {py pos spos : Pos} {kx vx tg iter : Expr} {ifs : List Expr} {scope : Scope} {own : List (Str × Nat)} {wi : TI} {g : TG} {tt : TT} {tk tv : TE} (hc : X.calm = true) (hN : X.N.Nodup) (hy : X.N[i]? = some y) (hyl : X.env.scope.names.lookup y = some .local)
    (hsw : swapsWith (.DictComp kx vx [⟨tg, iter, ifs, 0⟩] scope pos) (some (.Name y py)) spos.line X.env = pure true) (hi : PI X tg iter wi) (ok : BlkOk X.N X.env.scope scope own)
    (hg : ∀ (s : Shared) (H : Hp) (C : Addr) (cl : List (Str × Addr)) (fp : List Addr), PG (X.blk s H scope (compEnvC scope cl C X.env) fp) tg g)
    (ht : ∀ (s : Shared) (H : Hp) (C : Addr) (cl : List (Str × Addr)) (fp : List Addr), PTs (X.blk s H scope (compEnvC scope cl C X.env) fp) ifs tt)
    (hk : ∀ (s : Shared) (H : Hp) (C : Addr) (cl : List (Str × Addr)) (fp : List Addr), PE (X.blk s H scope (compEnvC scope cl C X.env) fp) kx tk)
    (he : ∀ (s : Shared) (H : Hp) (C : Addr) (cl : List (Str × Addr)) (fp : List Addr), PE (X.blk s H scope (compEnvC scope cl C X.env) fp) vx tv)
    (hs : ∀ x, foldedSetIterable iter X.env x = pure x := by intro _; rfl) :
    PS X (.Assign [.Name y py] (.DictComp kx vx [⟨tg, iter, ifs, 0⟩] scope pos) spos) (tAsg (tDc wi g tt tk tv (own.map (·.2))) (gName i)) := by
  constructor
  intro pins s σ H D J hQ
  have hQ2 : tDc wi g tt tk tv (own.map (·.2)) σ H (fun x H1 => gName i x σ H1 D.nx) := hQ
  rw [exec_Assign_Name_used _ _ _ _ hsw]
  apply wpAny_bind; apply wpAny_standAt; apply wpAny_bind
  show wpAny _ X.A (do let _ ← comprehension (.DictComp kx vx [⟨tg, iter, ifs, 0⟩] scope pos) scope X.env (firstIterPos [⟨tg, iter, ifs, 0⟩] pos) newDict false (eval iter X.env) (some (assign (.Name y py) X.env))) _ _ s
  apply wpAny_bind
  refine thn (dc_core (Qf := fun _ z => SP X pins D .next z) hc hN J hi ok hg ht hk he hs hQ2 ?_) (fun _ z hz => wpAny_pure (wpAny_pure hz))
  intro B C z m H2 J2 q hn fp
  show wpAny _ _ (assign (.Name y py) X.env (.ref B)) _ _ _
  refine wpAny_assign_Name (store_ok2 (v := V.ref B) J2 hN hy (.inl hyl) rfl ?_ (.inr hyl))
  rintro z2 J3 ⟨a, sb, ha⟩
  have hne : C ≠ a := by
    rcases ha with e | e
    · rw [e]; exact fp.2.1
    · intro e2; exact fp.2.2.2.2.1 y a e e2.symm
  exact ⟨m, hn.sameBut sb hne, fun h3 sb3 => ⟨_, H2, J3.turned (t' := z2.toks) (fun b o hb e => (sb3.2 b hb).trans e) fp.1 fp.2.1 fp.2.2.2.1 fp.2.2.2.2.1 fp.2.2.2.2.2, q⟩⟩
theorem sw_dict {kx vx : Expr} {gs : List Comprehension} {scope : Scope} {pos py : Pos} {y : Str} {l : Nat} {env : Env} (hk : env.scope.kind = .function) (hy : env.scope.names.lookup y = some .local) (hl : (py.line == pos.line) = true)
    (ha : (scope.names.any fun (n, k) => n == y && (k == .local || k == .cell)) = false) : swapsWith (.DictComp kx vx gs scope pos) (some (.Name y py)) l env = pure true := by
  have e1 : env.kindOf y = some .local := hy
  have e2 : env.blockKind = .function := by unfold Env.blockKind; rw [hk] <;> rfl
  simp only [swapsWith, e1, e2, ha, hl, Expr.pos]
  rfl
end
section
variable {K : PySem.W.Frag} {σ : L2.St} {G : Hp} {tt : TT} {tk tv : TE} {wi : TI} {g : TG}
def putE {α : Type} (es : List (Key × α)) (k : Key) (v : α) : List (Key × α) :=
  if es.any (fun e => decide (e.1 = k)) then es.map (fun e => if e.1 = k then (e.1, v) else e) else es ++ [(k, v)]
def mrgE {α : Type} (es : List (Key × α)) : List (Key × α) := es.foldl (fun acc e => putE acc e.1 e.2) []
theorem putK_putE (kvs : List (Key × V)) (k : Key) (v : V) : putK kvs k v = putE kvs k v := by
  unfold putK putE
  congr 1
theorem rpe_map {k : Key} {v : V} {d : PyData} (p : Rp K G v d) : ∀ {kvs : List (Key × V)} {es : List (Key × PyData)}, RpE K G kvs es → RpE K G (kvs.map fun e => if e.1 = k then (e.1, v) else e) (es.map fun e => if e.1 = k then (e.1, d) else e)
  | _, _, .nil => .nil
  | (k', _) :: _, _, .cons h a => by
    simp only [List.map_cons]
    by_cases e : k' = k
    · rw [if_pos e, if_pos e]; exact .cons p (rpe_map p a)
    · rw [if_neg e, if_neg e]; exact .cons h (rpe_map p a)
theorem rpe_snoc {k : Key} {v : V} {d : PyData} (p : Rp K G v d) : ∀ {kvs : List (Key × V)} {es : List (Key × PyData)}, RpE K G kvs es → RpE K G (kvs ++ [(k, v)]) (es ++ [(k, d)])
  | _, _, .nil => .cons p .nil
  | _, _, .cons h a => .cons h (rpe_snoc p a)
theorem rpe_any {k : Key} : ∀ {kvs : List (Key × V)} {es : List (Key × PyData)}, RpE K G kvs es → kvs.any (fun e => decide (e.1 = k)) = es.any (fun e => decide (e.1 = k))
  | _, _, .nil => rfl
  | _, _, .cons _ a => by simp only [List.any_cons]; rw [rpe_any a]
theorem RpE.put {k : Key} {v : V} {d : PyData} {kvs : List (Key × V)} {es : List (Key × PyData)} (r : RpE K G kvs es) (p : Rp K G v d) : RpE K G (putK kvs k v) (putE es k d) := by
  rw [putK_putE]
  unfold putE
  rw [rpe_any r]
  split
  · exact rpe_map p r
  · exact rpe_snoc p r
theorem putE_len {α : Type} (es : List (Key × α)) (k : Key) (v : α) : (putE es k v).length ≤ es.length + 1 := by
  unfold putE
  split <;> simp
theorem mrg_len {α : Type} : ∀ (es acc : List (Key × α)), (es.foldl (fun acc e => putE acc e.1 e.2) acc).length ≤ acc.length + es.length
  | [], acc => by simp
  | e :: es, acc => by
    rw [List.foldl_cons]
    have h1 := mrg_len es (putE acc e.1 e.2)
    have h2 := putE_len acc e.1 e.2
    rw [List.length_cons]
    omega
/-- a dict comprehension -/
theorem ev_dc {α : Type} {D : α → PyData} {xs : List α} {p : α → Bool} {κ : α → Key} {f : α → PyData} {vs : List Nat} {B : α → L2.St → Hp → Prop} (hi : EvI K wi σ G (xs.map D)) (hb : ∀ z ∈ xs, Bnd K g (wipe σ vs) (D z) (B z))
    (hw : ∀ z ∈ xs, ∀ σ2 G, B z σ2 G → wipe σ2 vs = wipe σ vs)
    (ht : ∀ z ∈ xs, ∀ G1 σ2, Le G G1 → B z σ2 G1 → EvT tt σ2 G1 (p z)) (hk : ∀ z ∈ xs, p z = true → ∀ G1 σ2, Le G G1 → B z σ2 G1 → Ev K tk σ2 G1 (kD (κ z))) (he : ∀ z ∈ xs, p z = true → ∀ G1 σ2, Le G G1 → B z σ2 G1 → Ev K tv σ2 G1 (f z))
    (hBm : ∀ z σ2 G1 G2, Le G1 G2 → B z σ2 G1 → B z σ2 G2) (hl : xs.length ≤ 100000) : Ev K (tDc wi g tt tk tv vs) σ G (dD (mrgE ((xs.filter p).map fun z => (κ z, f z)))) := fun G1 H1 l i Q q => hi G1 H1 l i _ fun J G2 H2 u2 w => by
  intro D' hD
  have rm : ∀ {Ga Ha : Hp}, Up G2 H2 Ga Ha → True := fun _ => trivial
  refine ⟨fun i m H => m = xs.length - i ∧ i ≤ xs.length ∧ ∃ G3, G3 D' = none ∧ Up G2 H2 G3 (fun b => if b = D' then none else H b) ∧ In G3 H ∧ ∃ acc, H D' = some (.dK acc) ∧ RpE K G3 acc (mrgE (((xs.take i).filter p).map fun z => (κ z, f z))), ⟨xs.length, by simp, Nat.zero_le _, G2, u2.i.no hD, ?_, ?_, [], upd_same, .nil⟩, ?_⟩
  · refine ⟨Le.refl _, fun b o e => ?_, fun b o e => ?_, fun _ _ e => .inl e⟩
    · have ne : b ≠ D' := fun z => by subst z; rw [u2.i.no hD] at e; cases e
      simp only [if_neg ne, upd_ne ne]
      exact u2.i b o e
    · have ne : b ≠ D' := fun z => by subst z; rw [hD] at e; cases e
      simp only [if_neg ne, upd_ne ne]
      exact e
  · exact u2.i.mut (u2.i.no hD)
  · rintro j m H ⟨rfl, hj, G3, hG3, u3, i3, acc, hacc, racc⟩
    obtain ⟨wstop, wgo⟩ := w G3 H u3.g i3
    have grow : ∀ {Ga Ha Gb Hb : Hp}, Up G2 H2 Ga (fun b => if b = D' then none else Ha b) → Ga D' = none → Up Ga Ha Gb Hb → Gb D' = none → Up G2 H2 Gb (fun b => if b = D' then none else Hb b) := fun {Ga Ha Gb Hb} ua na ub nb => by
      refine ⟨ua.g.trans ub.g, fun b o e => ?_, fun b o e => ?_, fun b o e => ?_⟩
      · have ne : b ≠ D' := fun z => by subst z; rw [nb] at e; cases e
        simp only [if_neg ne]
        exact ub.i b o e
      · have h1 := ua.h b o e
        have ne : b ≠ D' := fun z => by subst z; rw [hD] at e; cases e
        simp only [if_neg ne] at h1 ⊢
        exact ub.h b o h1
      · have ne : b ≠ D' := fun z => by subst z; rw [nb] at e; cases e
        rcases ub.n b o e with q | q
        · exact ua.n b o q
        · refine .inr ?_
          cases h2 : H2 b with
          | none => rfl
          | some o2 =>
            have h1 := ua.h b o2 h2
            simp only [if_neg ne, q] at h1
            cases h1
    by_cases hlt : j < xs.length
    · have hz : xs[j]? = some xs[j] := List.getElem?_eq_getElem hlt
      have hm : xs[j] ∈ xs := List.getElem_mem hlt
      obtain ⟨go, yl⟩ := wgo j (D xs[j]) (by rw [List.getElem?_map, hz]; rfl)
      refine .inr ⟨go, fun H' => j + 1 ≤ xs.length ∧ ∃ G3, G3 D' = none ∧ Up G2 H2 G3 (fun b => if b = D' then none else H' b) ∧ In G3 H' ∧ ∃ acc, H' D' = some (.dK acc) ∧ RpE K G3 acc (mrgE (((xs.take (j + 1)).filter p).map fun z => (κ z, f z))), fun H' x => ⟨xs.length - (j + 1), by omega, rfl, x.1, x.2⟩, fun x H4 y => ?_⟩
      obtain ⟨G4, u4, r4⟩ := yl x H4 y
      have hD4 : H4 D' = some (.dK acc) := u4.h _ _ hacc
      have hG4 : G4 D' = none := u4.hide (by rw [hacc]; intro z; cases z) hG3
      have u24 := grow u3 hG3 u4 hG4
      have l4 : Le G G4 := l.trans (u2.g.trans u24.g)
      refine hb _ hm G4 H4 x u4.i r4 _ fun σ2 b2 => ⟨hw _ hm σ2 G4 b2, ?_⟩
      refine ht _ hm G4 σ2 l4 b2 G4 H4 (Le.refl _) u4.i _ fun G5 H5 u5 => ?_
      have hD5 := u5.h _ _ hD4
      have hG5 : G5 D' = none := u5.hide (by rw [hD4]; intro z; cases z) hG4
      have u25 := grow u24 hG4 u5 hG5
      have tke : (xs.take (j + 1)).filter p = (xs.take j).filter p ++ [xs[j]].filter p := by
        rw [List.take_succ_eq_append_getElem hlt, List.filter_append]
      cases hp : p xs[j] with
      | false =>
        show _ ∧ _
        refine ⟨hlt, G5, hG5, u25, u5.i, acc, hD5, ?_⟩
        rw [tke]
        have : [xs[j]].filter p = [] := by simp [hp]
        rw [this, List.append_nil]
        exact racc.mono (u4.g.trans u5.g)
      | true =>
        show tk σ2 H5 _
        refine hk _ hm hp G5 σ2 (l4.trans u5.g) (hBm _ _ _ _ u5.g b2) G5 H5 (Le.refl _) u5.i _ fun y G6 H6 u6 r6 => ?_
        have hD6 := u6.h _ _ hD5
        have hG6 : G6 D' = none := u6.hide (by rw [hD5]; intro z; cases z) hG5
        have u26 := grow u25 hG5 u6 hG6
        refine he _ hm hp G6 σ2 (l4.trans (u5.g.trans u6.g)) (hBm _ _ _ _ (u5.g.trans u6.g) b2) G6 H6 (Le.refl _) u6.i _ fun y2 G7 H7 u7 r7 => ?_
        have hD7 := u7.h _ _ hD6
        have hG7 : G7 D' = none := u7.hide (by rw [hD6]; intro z; cases z) hG6
        have u27 := grow u26 hG6 u7 hG7
        have hlen : acc.length ≤ xs.length := by
          rw [racc.len]
          have h1 := mrg_len (((xs.take j).filter p).map fun z => (κ z, f z)) []
          have h2 : ((xs.take j).filter p).length ≤ xs.length := Nat.le_trans (List.length_filter_le _ _) (by rw [List.length_take]; omega)
          rw [List.length_map] at h1
          simp only [List.length_nil, Nat.zero_add] at h1
          exact Nat.le_trans h1 h2
        refine ⟨acc, κ xs[j], kD_kV r6, hD7, Nat.lt_of_le_of_lt (Nat.le_trans hlen hl) (by decide), hlt, G7, hG7, ?_, u7.i.mut hG7, putK acc (κ xs[j]) y2, upd_same, ?_⟩
        · refine ⟨u27.g, fun b o e => ?_, fun b o e => ?_, u27.n⟩
          · have ne : b ≠ D' := fun z => by subst z; rw [hG7] at e; cases e
            have := u27.i b o e
            simp only [if_neg ne, upd_ne ne] at this ⊢
            exact this
          · have ne : b ≠ D' := fun z => by subst z; rw [hD] at e; cases e
            have := u27.h b o e
            simp only [if_neg ne, upd_ne ne] at this ⊢
            exact this
        · rw [tke]
          have : [xs[j]].filter p = [xs[j]] := by simp [hp]
          rw [this, List.map_append]
          have e3 : mrgE (((xs.take j).filter p).map (fun z => (κ z, f z)) ++ [xs[j]].map (fun z => (κ z, f z))) = putE (mrgE (((xs.take j).filter p).map fun z => (κ z, f z))) (κ xs[j]) (f xs[j]) := by
            unfold mrgE
            rw [List.foldl_append]
            rfl
          rw [e3]
          exact (racc.mono (((u4.g.trans u5.g).trans u6.g).trans u7.g)).put r7
    · have e : j = xs.length := by omega
      subst e
      refine .inl ⟨by simpa using wstop, ?_⟩
      rw [List.take_length] at racc
      have hnn : ∀ b o, G3 b = some o → b ≠ D' := fun b o e z => by subst z; rw [hG3] at e; cases e
      have uf : Up G1 H1 (upd G3 D' (.dK acc)) H := by
        refine ⟨fun b o e => ?_, fun b o e => ?_, fun b o e => ?_, fun b o e => ?_⟩
        · have e3 := u3.g _ _ (u2.g _ _ e)
          rw [upd_ne (hnn b o e3)]; exact e3
        · by_cases hb : b = D'
          · subst hb; rw [upd_same] at e; cases e; exact .inl hacc
          · rw [upd_ne hb] at e; exact i3 b o e
        · have h2 := u2.h b o e
          have ne : b ≠ D' := fun z => by subst z; rw [hD] at h2; cases h2
          have := u3.h b o h2
          simp only [if_neg ne] at this
          exact this
        · by_cases hb : b = D'
          · subst hb; exact .inr (u2.h.no hD)
          · rw [upd_ne hb] at e
            rcases u3.n b o e with z | z
            · exact u2.n b o z
            · exact .inr (u2.h.no z)
      refine q _ _ _ uf (.dic upd_same (rpe_to (racc.mono fun b o e => ?_)))
      rw [upd_ne (hnn b o e)]; exact e
end
end Z

namespace Z
open PySem PySem.Spec PyProof.Rows L2
section
variable {X : Cx}
/-- two dicts that hold the same plain values -/
def DicEq (H : Hp) (x y : V) : Prop := ∃ a b ks ls, x = .ref a ∧ y = .ref b ∧ Rd H a (.dK ks) ∧ Rd H b (.dK ls) ∧ ks.length = ls.length ∧ ∀ p ∈ ks, valV ls p.1 = some p.2 ∧ flatB p.2 = true
def rEqDic : R2 := fun x y H Q => DicEq H x y ∧ Q (.bl true) H
def rNeDic : R2 := fun x y H Q => DicEq H x y ∧ Q (.bl false) H
theorem op_eqDic (hu : X.A.units + 1 < cLine) : OpR X (compareOp .Eq) rEqDic := fun pins s σ H x y v u Q I rx ry ⟨⟨a, b, ks, ls, ex, ey, ea, eb, hlen, hp⟩, q⟩ => by
  subst ex ey
  cases rx; cases ry
  obtain ⟨_, na, va, ra, da⟩ := ea.ok I.hok
  obtain ⟨_, nb, vb, rb, db⟩ := eb.ok I.hok
  have hl : va.length = vb.length := by rw [← ra.length, ← rb.length, hlen]
  exact PySem.W.keq_eq (knd := mixKind X.prog X.w) (r := true) na nb da db (Nat.lt_of_succ_lt hu) (fun _ => hits_all rb ra hp) (fin_bl I q (by simp [hl]))
theorem op_neDic (hu : X.A.units + 1 < cLine) : OpR X (compareOp .NotEq) rNeDic := fun pins s σ H x y v u Q I rx ry ⟨⟨a, b, ks, ls, ex, ey, ea, eb, hlen, hp⟩, q⟩ => by
  subst ex ey
  cases rx; cases ry
  obtain ⟨_, na, va, ra, da⟩ := ea.ok I.hok
  obtain ⟨_, nb, vb, rb, db⟩ := eb.ok I.hok
  have hl : va.length = vb.length := by rw [← ra.length, ← rb.length, hlen]
  exact PySem.W.keq_ne (knd := mixKind X.prog X.w) (r := true) na nb da db (Nat.lt_of_succ_lt hu) (fun _ => hits_all rb ra hp) (fin_bl I q (by simp [hl]))
end
section
variable {K : PySem.W.Frag} {σ : L2.St} {G H : Hp}
theorem RpE.mem : ∀ {kvs : List (Key × V)} {es : List (Key × PyData)} {k : Key} {v : V}, RpE K G kvs es → (k, v) ∈ kvs → ∃ d, (k, d) ∈ es ∧ Rp K G v d
  | _, _, _, _, .nil, h => by cases h
  | _, _, _, _, .cons p a, h => by
    rcases List.mem_cons.mp h with e | e
    · cases e; exact ⟨_, List.mem_cons_self, p⟩
    · obtain ⟨d, h1, h2⟩ := RpE.mem a e
      exact ⟨d, List.mem_cons_of_mem _ h1, h2⟩
def flatD : PyData → Bool
  | .int _ => true
  | .str _ => true
  | .bool _ => true
  | .none => true
  | _ => false
theorem flat_same {v w : V} {d : PyData} (hf : flatD d = true) (h1 : Rp K G v d) (h2 : Rp K G w d) : v = w ∧ flatB v = true := by
  cases h1 <;> first
    | (cases h2; exact ⟨rfl, rfl⟩)
    | (exact absurd hf (by simp [flatD]))
/-- es and fs are one dict -/
def sameE (es fs : List (Key × PyData)) : Bool := decide (es.length = fs.length) && es.all fun e => flatD e.2 && (match valK fs e.1 with | some d => PyData.eqv d e.2 && PyData.eqv e.2 d | none => false)
theorem dicEq_of {x y : V} {es fs : List (Key × PyData)} (hi : In G H) (px : Rp K G x (dD es)) (py : Rp K G y (dD fs)) (hl : es.length = fs.length) (hs : ∀ k d, (k, d) ∈ es → valK fs k = some d ∧ flatD d = true) : DicEq H x y := by
  obtain ⟨a, ks, rfl, h1, h2⟩ := rp_dic px
  obtain ⟨b, ls, rfl, h3, h4⟩ := rp_dic py
  refine ⟨a, b, ks, ls, rfl, rfl, hi.rd h1, hi.rd h3, by rw [h2.len, h4.len, hl], fun p hp => ?_⟩
  obtain ⟨k, v⟩ := p
  obtain ⟨d, hd, pd⟩ := h2.mem hp
  obtain ⟨e1, e2⟩ := hs k d hd
  rcases h4.val (k := k) with ⟨_, z⟩ | ⟨w, d', z1, z2, z3⟩
  · rw [e1] at z; cases z
  · rw [e1] at z2; cases z2
    obtain ⟨e3, e4⟩ := flat_same e2 pd z3
    exact ⟨by rw [z1, e3], e4⟩
theorem opv_neDic {es fs : List (Key × PyData)} (hl : es.length = fs.length) (hs : ∀ k d, (k, d) ∈ es → valK fs k = some d ∧ flatD d = true) : OpV K rNeDic (dD es) (dD fs) (.bool false) := fun G H x y hi px py Q q =>
  ⟨dicEq_of hi px py hl hs, q _ G H (Up.refl hi) (.bl _)⟩
theorem opv_eqDic {es fs : List (Key × PyData)} (hl : es.length = fs.length) (hs : ∀ k d, (k, d) ∈ es → valK fs k = some d ∧ flatD d = true) : OpV K rEqDic (dD es) (dD fs) (.bool true) := fun G H x y hi px py Q q =>
  ⟨dicEq_of hi px py hl hs, q _ G H (Up.refl hi) (.bl _)⟩
end
end Z

namespace Z
open PySem PySem.Spec PyProof.Rows L2
/-! ### typed data -/
abbrev W := List Nat
@[reducible] def dI (i : Int) : PyData := .int i
@[reducible] def dS (l : W) : PyData := .str (S l)
@[reducible] def dC (c : Nat) : PyData := .str (S [c])
@[reducible] def dB (b : Bool) : PyData := .bool b
@[reducible] def dL {α : Type} (D : α → PyData) (xs : List α) : PyData := .list (xs.map D)
@[reducible] def dP {α β : Type} (D : α → PyData) (E : β → PyData) (p : α × β) : PyData := .tuple [D p.1, E p.2]
@[reducible] def dM {α : Type} (D : α → PyData) (es : List (Key × α)) : PyData := dD (es.map fun e => (e.1, D e.2))
section
variable {K : PySem.W.Frag} {σ : L2.St} {G H : Hp} {ta tb te : TE} {tt : TT} {wi : TI} {D' : Ends}
theorem opv_eqI {i j : Int} : OpV K rEq (.int i) (.int j) (.bool (decide (i = j))) := opv_eq rfl
theorem opv_neI {i j : Int} : OpV K rNe (.int i) (.int j) (.bool (!decide (i = j))) := opv_ne rfl
theorem opv_eqS {a b : W} : OpV K rEq (dS a) (dS b) (.bool (decide (a = b))) := by
  have h := opv_eq (K := K) (a := dS a) (b := dS b) rfl
  rw [eqS_str] at h
  exact h
theorem opv_neS {a b : W} : OpV K rNe (dS a) (dS b) (.bool (!decide (a = b))) := by
  have h := opv_ne (K := K) (a := dS a) (b := dS b) rfl
  rw [eqS_str] at h
  exact h
theorem opv_eqB {i j : Bool} : OpV K rEq (.bool i) (.bool j) (.bool (decide (i = j))) := opv_eq rfl
theorem opv_neB {i j : Bool} : OpV K rNe (.bool i) (.bool j) (.bool (!decide (i = j))) := opv_ne rfl
/-- one name, no test -/
theorem ev_lcM {α β : Type} {D : α → PyData} {DE : β → PyData} {xs : List α} {M : α → β} {k : Nat} (hi : EvI K wi σ G (xs.map D)) (he : ∀ z ∈ xs, ∀ G1 x, Le G G1 → Rp K G1 x (D z) → Ev K te (σ.set k (some x)) G1 (DE (M z))) (hl : xs.length ≤ 100000) :
    Ev K (tLc wi (gName k) tYes te [k]) σ G (dL DE (xs.map M)) := by
  have h := ev_lc (K := K) (σ := σ) (G := G) (te := te) (tt := tYes) (g := gName k) (vs := [k]) (p := fun _ => true) (f := fun z => DE (M z)) (B := fun z σ2 G => ∃ x, σ2 = (wipe σ [k]).set k (some x) ∧ Rp K G x (D z)) hi (fun z _ => bnd_name) (fun z _ σ2 G ⟨x, e, _⟩ => by subst e; exact wipe1)
    (fun z hz G1 σ2 l _ G3 H3 l3 i3 Q q => q G3 H3 (Up.refl i3)) (fun z hz _ G1 σ2 l ⟨x, e, hx⟩ => by subst e; rw [wipe1s]; exact he z hz G1 x l hx) (fun z σ2 G1 G2 l ⟨x, e, hx⟩ => ⟨x, e, hx.mono l⟩) hl
  have e : (xs.filter fun _ => true).map (fun z => DE (M z)) = (xs.map M).map DE := by
    rw [List.map_map, List.filter_eq_self.mpr (fun _ _ => rfl)]; rfl
  rw [e] at h
  exact h
/-- one name, one test -/
theorem ev_lcF {α β : Type} {D : α → PyData} {DE : β → PyData} {xs : List α} {p : α → Bool} {M : α → β} {k : Nat} (hi : EvI K wi σ G (xs.map D)) (ht : ∀ z ∈ xs, ∀ G1 x, Le G G1 → Rp K G1 x (D z) → EvT tt (σ.set k (some x)) G1 (p z)) (he : ∀ z ∈ xs, p z = true → ∀ G1 x, Le G G1 → Rp K G1 x (D z) → Ev K te (σ.set k (some x)) G1 (DE (M z))) (hl : xs.length ≤ 100000) :
    Ev K (tLc wi (gName k) tt te [k]) σ G (dL DE ((xs.filter p).map M)) := by
  have h := ev_lc (K := K) (σ := σ) (G := G) (te := te) (tt := tt) (g := gName k) (vs := [k]) (p := p) (f := fun z => DE (M z)) (B := fun z σ2 G => ∃ x, σ2 = (wipe σ [k]).set k (some x) ∧ Rp K G x (D z)) hi (fun z _ => bnd_name) (fun z _ σ2 G ⟨x, e, _⟩ => by subst e; exact wipe1)
    (fun z hz G1 σ2 l ⟨x, e, hx⟩ => by subst e; rw [wipe1s]; exact ht z hz G1 x l hx) (fun z hz hp G1 σ2 l ⟨x, e, hx⟩ => by subst e; rw [wipe1s]; exact he z hz hp G1 x l hx) (fun z σ2 G1 G2 l ⟨x, e, hx⟩ => ⟨x, e, hx.mono l⟩) hl
  have e : (xs.filter p).map (fun z => DE (M z)) = ((xs.filter p).map M).map DE := by rw [List.map_map]; rfl
  rw [e] at h
  exact h
theorem mrg_map {α β : Type} (f : α → β) : ∀ (es acc : List (Key × α)), ((es.foldl (fun acc e => putE acc e.1 e.2) acc).map fun e => (e.1, f e.2)) = (es.map fun e => (e.1, f e.2)).foldl (fun acc e => putE acc e.1 e.2) (acc.map fun e => (e.1, f e.2))
  | [], acc => rfl
  | e :: es, acc => by
    rw [List.foldl_cons, mrg_map f es, List.map_cons, List.foldl_cons]
    congr 1
    unfold putE
    have ea : (acc.map fun e => (e.1, f e.2)).any (fun x => decide (x.1 = e.1)) = acc.any (fun x => decide (x.1 = e.1)) := by
      rw [List.any_map]; rfl
    rw [ea]
    split
    · rw [List.map_map, List.map_map]
      apply List.map_congr_left
      intro x _
      simp only [Function.comp]
      split <;> rfl
    · rw [List.map_append]; rfl
/-- one name, no test: a dict -/
theorem ev_dcM {α β : Type} {D : α → PyData} {DE : β → PyData} {xs : List α} {κ : α → Key} {M : α → β} {k : Nat} {tk tv : TE} (hi : EvI K wi σ G (xs.map D)) (hk : ∀ z ∈ xs, ∀ G1 x, Le G G1 → Rp K G1 x (D z) → Ev K tk (σ.set k (some x)) G1 (kD (κ z))) (he : ∀ z ∈ xs, ∀ G1 x, Le G G1 → Rp K G1 x (D z) → Ev K tv (σ.set k (some x)) G1 (DE (M z))) (hl : xs.length ≤ 100000) :
    Ev K (tDc wi (gName k) tYes tk tv [k]) σ G (dM DE (mrgE (xs.map fun z => (κ z, M z)))) := by
  have h := ev_dc (K := K) (σ := σ) (G := G) (tk := tk) (tv := tv) (tt := tYes) (g := gName k) (vs := [k]) (p := fun _ => true) (κ := κ) (f := fun z => DE (M z)) (B := fun z σ2 G => ∃ x, σ2 = (wipe σ [k]).set k (some x) ∧ Rp K G x (D z)) hi (fun z _ => bnd_name) (fun z _ σ2 G ⟨x, e, _⟩ => by subst e; exact wipe1)
    (fun z hz G1 σ2 l _ G3 H3 l3 i3 Q q => q G3 H3 (Up.refl i3)) (fun z hz _ G1 σ2 l ⟨x, e, hx⟩ => by subst e; rw [wipe1s]; exact hk z hz G1 x l hx) (fun z hz _ G1 σ2 l ⟨x, e, hx⟩ => by subst e; rw [wipe1s]; exact he z hz G1 x l hx) (fun z σ2 G1 G2 l ⟨x, e, hx⟩ => ⟨x, e, hx.mono l⟩) hl
  have e : mrgE ((xs.filter fun _ => true).map fun z => (κ z, DE (M z))) = (mrgE (xs.map fun z => (κ z, M z))).map fun e => (e.1, DE e.2) := by
    rw [List.filter_eq_self.mpr (fun _ _ => rfl)]
    unfold mrgE
    rw [mrg_map DE _ []]
    rw [List.map_map]
    rfl
  rw [e] at h
  exact h
theorem ev_dcF {α β : Type} {D : α → PyData} {DE : β → PyData} {xs : List α} {p : α → Bool} {κ : α → Key} {M : α → β} {k : Nat} {tk tv : TE} (hi : EvI K wi σ G (xs.map D)) (ht : ∀ z ∈ xs, ∀ G1 x, Le G G1 → Rp K G1 x (D z) → EvT tt (σ.set k (some x)) G1 (p z)) (hk : ∀ z ∈ xs, p z = true → ∀ G1 x, Le G G1 → Rp K G1 x (D z) → Ev K tk (σ.set k (some x)) G1 (kD (κ z))) (he : ∀ z ∈ xs, p z = true → ∀ G1 x, Le G G1 → Rp K G1 x (D z) → Ev K tv (σ.set k (some x)) G1 (DE (M z))) (hl : xs.length ≤ 100000) :
    Ev K (tDc wi (gName k) tt tk tv [k]) σ G (dM DE (mrgE ((xs.filter p).map fun z => (κ z, M z)))) := by
  have h := ev_dc (K := K) (σ := σ) (G := G) (tk := tk) (tv := tv) (tt := tt) (g := gName k) (vs := [k]) (p := p) (κ := κ) (f := fun z => DE (M z)) (B := fun z σ2 G => ∃ x, σ2 = (wipe σ [k]).set k (some x) ∧ Rp K G x (D z)) hi (fun z _ => bnd_name) (fun z _ σ2 G ⟨x, e, _⟩ => by subst e; exact wipe1)
    (fun z hz G1 σ2 l ⟨x, e, hx⟩ => by subst e; rw [wipe1s]; exact ht z hz G1 x l hx) (fun z hz hp G1 σ2 l ⟨x, e, hx⟩ => by subst e; rw [wipe1s]; exact hk z hz hp G1 x l hx) (fun z hz hp G1 σ2 l ⟨x, e, hx⟩ => by subst e; rw [wipe1s]; exact he z hz hp G1 x l hx) (fun z σ2 G1 G2 l ⟨x, e, hx⟩ => ⟨x, e, hx.mono l⟩) hl
  have e : mrgE ((xs.filter p).map fun z => (κ z, DE (M z))) = (mrgE ((xs.filter p).map fun z => (κ z, M z))).map fun e => (e.1, DE e.2) := by
    unfold mrgE
    rw [mrg_map DE _ []]
    rw [List.map_map]
    rfl
  rw [e] at h
  exact h
theorem cutL_le {α : Type} (l : List α) (a b : Option Int) : (cutL l a b).length ≤ l.length := by
  unfold cutL
  rw [List.length_take, List.length_drop]
  omega
theorem valK_map {α β : Type} (f : α → β) (es : List (Key × α)) (k : Key) : valK (es.map fun e => (e.1, f e.2)) k = (valK es k).map f := by
  unfold valK
  rw [List.find?_map]
  cases h : es.find? ((fun e => decide (e.1 = k)) ∘ fun e => (e.1, f e.2)) with
  | none =>
    have : es.find? (fun e => decide (e.1 = k)) = none := h
    rw [this]; rfl
  | some e =>
    have : es.find? (fun e => decide (e.1 = k)) = some e := h
    rw [this]; rfl
end
end Z

namespace Z
open PySem PySem.Spec PyProof.Rows L2
section
variable {K : PySem.W.Frag} {σ : L2.St} {G H : Hp} {ta tb te tx : TE} {tt : TT} {wi : TI}
theorem mul_neg (l : W) (i : Int) (h : i ≤ 0) : Txt.mul (S l) i = S [] := by
  unfold Txt.mul
  rw [if_pos (by omega)]
  rfl
theorem opv_mulSI {l : W} {i : Int} (h : l.length * i.toNat ≤ 10000000) (hn : -1000000 ≤ i ∧ i ≤ 1000000) : OpV K rMulS (dS l) (.int i) (dS (List.replicate i.toNat l).flatten) := by
  by_cases h0 : 0 ≤ i
  · obtain ⟨n, rfl⟩ := Int.eq_ofNat_of_zero_le h0
    exact opv_mulS h (by omega)
  · intro G H x y hi px py Q q
    rw [rp_str px, rp_int py]
    refine ⟨S l, i, rfl, rfl, ⟨?_, fun h1 _ => absurd (by omega) h1, fun h1 _ => absurd (by omega) h1⟩, ?_⟩
    · simp only [Bool.or_eq_false_iff, decide_eq_false_iff_not]
      constructor <;> omega
    · rw [mul_neg l i (by omega)]
      have : i.toNat = 0 := by omega
      rw [this] at q
      exact q _ G H (Up.refl hi) (.str _)
theorem opv_catL {α : Type} {D : α → PyData} {a b : List α} (h : a.length + b.length ≤ 1000000) : OpV K rCat (dL D a) (dL D b) (dL D (a ++ b)) := by
  have h2 := opv_cat (K := K) (a := a.map D) (b := b.map D) (by simpa using h)
  rw [← List.map_append] at h2
  exact h2
/-! typed equality -/
structure Eqt {α : Type} [DecidableEq α] (D : α → PyData) (ok : α → Prop) (n : Nat) : Prop where
  eq : ∀ a b, PyData.eqv (D a) (D b) = decide (a = b)
  lay : ∀ a, ok a → (D a).canLay0 = true
  dep : ∀ a, (D a).depth ≤ n
def okS (l : W) : Prop := ∀ c ∈ l, c < 256
theorem strOk_S {l : W} (h : okS l) : PyData.canLay0 (dS l) = true := by
  show PyData.strOk (S l) = true
  unfold PyData.strOk
  rw [← Array.all_toList]
  refine List.all_eq_true.mpr fun c hc => ?_
  rw [S_cps] at hc
  have := h c hc
  exact decide_eq_true (by omega)
theorem eqt_I : Eqt dI (fun _ => True) 0 := ⟨fun a b => by simp only [dI, PyData.eqv]; exact Bool.beq_eq_decide_eq a b, fun a _ => by simp [PyData.canLay0], fun a => by simp [PyData.depth]⟩
theorem eqt_B : Eqt dB (fun _ => True) 0 := ⟨fun a b => by simp only [dB, PyData.eqv]; exact Bool.beq_eq_decide_eq a b, fun a _ => by simp [PyData.canLay0], fun a => by simp [PyData.depth]⟩
theorem eqt_S : Eqt dS okS 0 := ⟨fun a b => by
  simp only [dS, PyData.eqv]
  by_cases h : a = b
  · subst h; simp
  · have : S a ≠ S b := fun e => h (S_inj e)
    simp [h, this], fun a h => strOk_S h, fun a => by simp [PyData.depth]⟩
theorem eqt_C : Eqt dC (fun c => c < 256) 0 := ⟨fun a b => by
  rw [show dC a = dS [a] from rfl, show dC b = dS [b] from rfl, eqt_S.eq]
  simp, fun a h => eqt_S.lay [a] (by intro c hc; simp at hc; omega), fun a => by simp [PyData.depth]⟩
section
variable {α β : Type} [DecidableEq α] [DecidableEq β] {D : α → PyData} {E : β → PyData} {ok : α → Prop} {ok' : β → Prop} {n m : Nat}
theorem eqvAll_map (e : Eqt D ok n) : ∀ xs ys : List α, PyData.eqvAll (xs.map D) (ys.map D) = decide (xs = ys)
  | [], [] => by simp [PyData.eqvAll]
  | x :: xs, y :: ys => by
    simp only [List.map_cons, PyData.eqvAll]
    rw [e.eq, eqvAll_map e xs ys]
    by_cases h1 : x = y <;> by_cases h2 : xs = ys <;> simp [h1, h2]
  | [], _ :: _ => by simp [PyData.eqvAll]
  | _ :: _, [] => by simp [PyData.eqvAll]
theorem layAll_map (e : Eqt D ok n) : ∀ xs : List α, (∀ x ∈ xs, ok x) → PyData.canLayAll0 (xs.map D) = true
  | [], _ => by simp [PyData.canLayAll0]
  | x :: xs, h => by
    simp only [List.map_cons, PyData.canLayAll0, Bool.and_eq_true]
    exact ⟨e.lay x (h x List.mem_cons_self), layAll_map e xs fun y hy => h y (List.mem_cons_of_mem _ hy)⟩
theorem depAll_map (e : Eqt D ok n) : ∀ xs : List α, PyData.depthAll (xs.map D) ≤ n
  | [] => by simp [PyData.depthAll]
  | x :: xs => by
    simp only [List.map_cons, PyData.depthAll]
    have h1 := e.dep x
    have h2 := depAll_map e xs
    omega
theorem eqt_L (e : Eqt D ok n) : Eqt (dL D) (fun xs => ∀ x ∈ xs, ok x) (n + 1) :=
  ⟨fun xs ys => by simp only [dL, PyData.eqv]; exact eqvAll_map e xs ys, fun xs h => by simp only [dL, PyData.canLay0]; exact layAll_map e xs h, fun xs => by simp only [dL, PyData.depth]; have := depAll_map e xs; omega⟩
theorem eqt_P (e : Eqt D ok n) (f : Eqt E ok' m) : Eqt (dP D E) (fun p => ok p.1 ∧ ok' p.2) (max n m + 1) :=
  ⟨fun p q => by
    simp only [dP, PyData.eqv, PyData.eqvAll]
    rw [e.eq, f.eq]
    obtain ⟨p1, p2⟩ := p
    obtain ⟨q1, q2⟩ := q
    by_cases h1 : p1 = q1 <;> by_cases h2 : p2 = q2 <;> simp [h1, h2], fun p h => by
    simp only [dP, PyData.canLay0, PyData.canLayAll0, Bool.and_eq_true]
    exact ⟨e.lay _ h.1, f.lay _ h.2, by first | rfl | trivial⟩, fun p => by
    simp only [dP, PyData.depth, PyData.depthAll]
    have h1 := e.dep p.1
    have h2 := f.dep p.2
    omega⟩
theorem Eqt.shaped (e : Eqt D ok n) (hn : n ≤ 64) {a : α} (h : ok a) : SeqAt.shaped (D a) = true := by
  unfold SeqAt.shaped
  rw [e.lay a h]
  have := e.dep a
  simp
  omega
theorem opv_eqT (e : Eqt D ok n) {a b : α} (h : ok a ∧ ok b ∧ n ≤ 64) : OpV K (rEqD K) (D a) (D b) (.bool (decide (a = b))) := by
  have := opv_eqD (K := K) (e.shaped h.2.2 h.1) (e.shaped h.2.2 h.2.1)
  rw [e.eq] at this
  exact this
theorem opv_neT (e : Eqt D ok n) {a b : α} (h : ok a ∧ ok b ∧ n ≤ 64) : OpV K (rNeD K) (D a) (D b) (.bool (!decide (a = b))) := by
  have := opv_neD (K := K) (e.shaped h.2.2 h.1) (e.shaped h.2.2 h.2.1)
  rw [e.eq] at this
  exact this
end
theorem ev_ifD {α : Type} {D : α → PyData} {k : Bool} {a b : α} (h1 : EvT tt σ G k) (h2 : k = true → Ev K ta σ G (D a)) (h3 : k = false → Ev K tb σ G (D b)) : Ev K (tIf tt ta tb) σ G (D (if k then a else b)) := by
  have h := ev_if h1 h2 h3
  have e : (if k = true then D a else D b) = D (if k = true then a else b) := by split <;> rfl
  rw [e] at h
  exact h
theorem cutL_map {α β : Type} (f : α → β) (l : List α) (a b : Option Int) : cutL (l.map f) a b = (cutL l a b).map f := by
  unfold cutL
  rw [List.length_map, List.map_take, List.map_drop]
theorem ev_slLT {α : Type} {D : α → PyData} {xs : List α} {tl th : TO} {lo hi : Option Int} (h : Ev K te σ G (dL D xs)) (hl : EvO tl σ G lo) (hh : EvO th σ G hi) : Ev K (tSl (rSlL K) te tl th) σ G (dL D (cutL xs lo hi)) := by
  have := ev_slL h hl hh
  rw [cutL_map] at this
  exact this
theorem opv_ixSD {l : W} {i : Int} (hz : l.length ≤ 10000000) (h : (atI l i).isSome = true) : OpV K (rIx K) (dS l) (.int i) (dC ((atI l i).getD 0)) := by
  obtain ⟨c, hc⟩ := Option.isSome_iff_exists.mp h
  rw [hc]
  exact opv_ixS hz hc
theorem atI_map {α β : Type} (f : α → β) (l : List α) (i : Int) : atI (l.map f) i = (atI l i).map f := by
  unfold atI
  rw [List.length_map]
  cases ixN l.length i with
  | none => rfl
  | some j => simp
theorem opv_ixLD {α : Type} {D : α → PyData} {xs : List α} {i : Int} {z : α} (h : (atI xs i).isSome = true) : OpV K (rIx K) (dL D xs) (.int i) (D ((atI xs i).getD z)) := by
  obtain ⟨c, hc⟩ := Option.isSome_iff_exists.mp h
  rw [hc]
  exact opv_ixL (by rw [atI_map, hc]; rfl)
theorem ev_dgetS {α : Type} {D : α → PyData} {es : List (Key × α)} {l : W} {z : α} (ho : Ev K ta σ G (dM D es)) (hk : Ev K tb σ G (dS l)) (h : (valK es (Sum.inr (S l))).isSome = true) : Ev K (tDGet ta tb) σ G (D ((valK es (Sum.inr (S l))).getD z)) := by
  obtain ⟨c, hc⟩ := Option.isSome_iff_exists.mp h
  rw [hc]
  exact ev_dget (k := Sum.inr (S l)) ho hk (by rw [valK_map, hc]; rfl)
theorem ev_dinS {α : Type} {D : α → PyData} {es : List (Key × α)} {l : W} (hk : Ev K tb σ G (dS l)) (ho : Ev K ta σ G (dM D es)) : Ev K (tDIn tb ta) σ G (.bool (valK es (Sum.inr (S l))).isSome) := by
  have h := ev_din (k := Sum.inr (S l)) hk ho
  rw [valK_map] at h
  have e : ((valK es (Sum.inr (S l))).map D).isSome = (valK es (Sum.inr (S l))).isSome := by cases valK es (Sum.inr (S l)) <;> rfl
  rw [e] at h
  exact h
theorem cav_lenLT {α : Type} {D : α → PyData} {xs : List α} : CaV K (rLenU K) [dL D xs] (.int (xs.length : Int)) := by
  have h := cav_lenL (K := K) (ds := xs.map D)
  rw [List.length_map] at h
  exact h
theorem cav_lenDT {α : Type} {D : α → PyData} {es : List (Key × α)} : CaV K rLenDc [dM D es] (.int (es.length : Int)) := by
  have h := cav_lenD (K := K) (es := es.map fun e => (e.1, D e.2))
  rw [List.length_map] at h
  exact h
theorem flat_single : ∀ l : W, (l.map fun c => [c]).flatten = l
  | [] => rfl
  | c :: l => by rw [List.map_cons, List.flatten_cons, flat_single l]; rfl
theorem sum_single : ∀ l : W, (l.map ((fun x : W => x.length) ∘ fun c => [c])).sum = l.length
  | [] => rfl
  | c :: l => by rw [List.map_cons, List.sum_cons, sum_single l, List.length_cons]; show 1 + l.length = l.length + 1; omega
theorem ev_joinC {l : W} (ho : Ev K ta σ G (dS [])) (h : Ev K te σ G (dL dC l)) (hz : l.length ≤ 10000000) : Ev K (tM1 (rJoin K) ta te) σ G (dS l) := by
  have e : dL dC l = .list ((l.map fun c => [c]).map fun l => .str (S l)) := by
    show PyData.list (l.map dC) = _
    rw [List.map_map]
    rfl
  rw [e] at h
  have h2 := ev_join ho h (by
    rw [List.map_map]
    rw [sum_single]
    exact hz)
  rw [flat_single] at h2
  exact h2
end
end Z

namespace Z
open PySem PySem.Spec PyProof.Rows L2
/-! ### the least text, texts in order -/
def minS : List W → W
  | [] => []
  | x :: xs => xs.foldl (fun a y => if y < a then y else a) x
theorem minD_S : ∀ (xs : List W) (x : W), PySem.W.minD (dS x) (xs.map dS) = dS (xs.foldl (fun a y => if y < a then y else a) x)
  | [], x => rfl
  | y :: xs, x => by
    have e : PySem.W.minD (dS x) ((y :: xs).map dS) = PySem.W.minD (if PySem.W.dataLt (dS y) (dS x) then dS y else dS x) (xs.map dS) := rfl
    rw [e, List.foldl_cons]
    have e2 : (if PySem.W.dataLt (dS y) (dS x) = true then dS y else dS x) = dS (if y < x then y else x) := by
      rw [PySem.W.dataLt_str, S_cps, S_cps]
      by_cases h : y < x
      · rw [if_pos (decide_eq_true h), if_pos h]
      · rw [if_neg (by simp [h]), if_neg h]
    rw [e2]
    exact minD_S xs _
section
variable {K : PySem.W.Frag} {σ : L2.St} {G H : Hp}
theorem dicFs_S : ∀ xs : List W, dicFs (xs.map dS) = true
  | [] => by simp [dicFs]
  | x :: xs => by simp only [List.map_cons, dicFs, Bool.and_eq_true]; exact ⟨by simp [dicF], dicFs_S xs⟩
theorem cav_minS {xs : List W} (h : xs ≠ []) (_hl : True) : CaV K (rMinD K) [dL dS xs] (dS (minS xs)) := by
  cases xs with
  | nil => exact absurd rfl h
  | cons x xs =>
    have := cav_minD (K := K) (d := dS x) (ds := xs.map dS) ?_ ?_ ?_
    · rw [minD_S] at this
      exact this
    · have key : ∀ d ∈ dS x :: xs.map dS, ∃ l, d = dS l := by
        intro d hd
        rcases List.mem_cons.mp hd with e | e
        · exact ⟨x, e⟩
        · obtain ⟨l, _, e⟩ := List.mem_map.mp e
          exact ⟨l, e.symm⟩
      refine ⟨fun a ha b hb => ?_, fun a ha => ?_⟩
      · obtain ⟨l, rfl⟩ := key a ha
        obtain ⟨m, rfl⟩ := key b hb
        simp [PySem.W.alike]
      · obtain ⟨l, rfl⟩ := key a ha
        intro q
        cases q
    · have := depAll_map eqt_S (x :: xs)
      rw [List.map_cons] at this
      omega
    · have := dicFs_S (x :: xs)
      rw [List.map_cons] at this
      exact this
/-- a total order of texts -/
def leW (a b : W) : Bool := decide (a ≤ b)
def sortW (xs : List W) : List W := xs.mergeSort leW
theorem leW_trans (a b c : W) (h1 : leW a b = true) (h2 : leW b c = true) : leW a c = true := by
  simp only [leW, decide_eq_true_eq] at *
  exact Std.le_trans h1 h2
theorem leW_total (a b : W) : (leW a b || leW b a) = true := by
  simp only [leW, Bool.or_eq_true, decide_eq_true_eq]
  exact Std.le_total
theorem sortW_unique {xs ys : List W} (p : ys.Perm xs) (h : ys.Pairwise fun a b => a ≤ b) : ys = sortW xs := by
  refine List.Perm.eq_of_pairwise (le := fun a b => a ≤ b) (fun a b _ _ h1 h2 => Std.le_antisymm h1 h2) h ?_ (p.trans (List.mergeSort_perm _ _).symm)
  have := List.pairwise_mergeSort (le := leW) leW_trans leW_total xs
  exact this.imp fun h => of_decide_eq_true h
def keyW : Key → W
  | .inr x => x.cps.toList
  | .inl _ => []
def sortKs {α : Type} (es : List (Key × α)) : List W := sortW (es.map fun e => keyW e.1)
/-- keys that are texts -/
def strKs {α : Type} (es : List (Key × α)) : Prop := ∀ e ∈ es, ∃ l : W, e.1 = Sum.inr (S l)
theorem rising_pw : ∀ (l : List Str) (p : Str), risingS p l = true → (p :: l).Pairwise fun a b => a.cps.toList ≤ b.cps.toList
  | [], p, _ => List.pairwise_singleton _ _
  | x :: r, p, h => by
    simp only [risingS, Bool.and_eq_true, Bool.not_eq_true'] at h
    have ih := rising_pw r x h.2
    have px : p.cps.toList ≤ x.cps.toList := by
      have := h.1
      rw [ltCps_eq] at this
      have := of_decide_eq_false this
      exact Std.not_lt.mp this
    refine List.pairwise_cons.mpr ⟨fun b hb => ?_, ih⟩
    rcases List.mem_cons.mp hb with e | e
    · subst e; exact px
    · exact Std.le_trans px ((List.pairwise_cons.mp ih).1 b e)
theorem sorted_pw {l : List Str} (h : sortedS l = true) : l.Pairwise fun a b => a.cps.toList ≤ b.cps.toList := by
  cases l with
  | nil => exact List.Pairwise.nil
  | cons x r => exact rising_pw r x h
theorem rpe_keys : ∀ {kvs : List (Key × V)} {es : List (Key × PyData)}, RpE K G kvs es → kvs.map (·.1) = es.map (·.1)
  | _, _, .nil => rfl
  | _, _, .cons _ a => by simp only [List.map_cons]; rw [rpe_keys a]
theorem cav_sortKs {α : Type} {D : α → PyData} {es : List (Key × α)} (h : strKs es ∧ es.length < 64) : CaV K rSortDk [dM D es] (dL dS (sortKs es)) := fun G H vs hi pv Q q => by
  obtain ⟨v, ws, rfl, p1, p2⟩ := rpa_cons pv
  rw [rpa_nil p2]
  obtain ⟨p, kvs, rfl, h1, h2⟩ := rp_dic p1
  have ek : kvs.map (·.1) = (es.map fun e => S (keyW e.1)).map Sum.inr := by
    rw [rpe_keys h2, List.map_map, List.map_map]
    apply List.map_congr_left
    intro e he
    obtain ⟨l, hl⟩ := h.1 e he
    simp only [Function.comp]
    rw [hl]
    show Sum.inr (S l) = Sum.inr (S (S l).cps.toList)
    rw [S_cps]
  refine ⟨p, kvs, _, rfl, hi.rd h1, ek, by rw [List.length_map]; exact h.2, fun ys r pm so hr => ?_⟩
  have u := Up.new (o := .lst (ys.map V.str)) hi hr
  refine q _ _ _ u (.lst upd_same ?_)
  have e2 : ys.map (fun y => y.cps.toList) = sortKs es := by
    unfold sortKs
    apply sortW_unique
    · have := pm.map (fun y : Str => y.cps.toList)
      rw [List.map_map] at this
      have e3 : es.map ((fun y : Str => y.cps.toList) ∘ fun e => S (keyW e.1)) = es.map fun e => keyW e.1 := List.map_congr_left fun e _ => S_cps _
      rw [e3] at this
      exact this
    · exact List.pairwise_map.mpr (sorted_pw so)
  rw [← e2, List.map_map]
  have e4 : ys.map (dS ∘ fun y => y.cps.toList) = ys.map PyData.str := List.map_congr_left fun y _ => by
    show PyData.str (S y.cps.toList) = PyData.str y
    rw [S_eta]
  rw [e4]
  exact strs_rpa _
end
end Z

namespace Z
open PySem PySem.Spec PyProof.Rows L2
section
variable {K : PySem.W.Frag} {σ : L2.St} {G H : Hp} {ta tb te tx : TE} {tt : TT} {wi : TI} {D : Ends}
/-- a for over things that leaves at the first one that passes: Sl is kept of the slots -/
theorem s_first {α : Type} {DD : α → PyData} {xs : List α} {p : α → Bool} {f : α → PyData} {k : Nat} {tb : TS} (Sl : L2.St → Prop) (hi : EvI K wi σ G (xs.map DD)) (hin : In G H) (h0 : Sl σ)
    (body : ∀ z ∈ xs, ∀ σ1 G1 H1 x, Sl σ1 → Up G H G1 H1 → Rp K G1 x (DD z) → ∀ D2 : Ends, (p z = true → Ret K G1 H1 D2.rt (f z)) → (p z = false → ∀ σ2 G2 H2, Sl σ2 → Up G1 H1 G2 H2 → D2.nx σ2 H2) → tb D2 (σ1.set k (some x)) H1)
    (hr : ∀ z, xs.find? p = some z → Ret K G H D.rt (f z)) (hn : xs.find? p = none → ∀ σ2 G2 H2, Sl σ2 → Up G H G2 H2 → D.nx σ2 H2) : tFor wi (gName k) tb D σ H := by
  refine s_for hi hin fun G0 H0 u0 => ⟨fun i σ1 G1 H1 => Sl σ1 ∧ Up G H G1 H1 ∧ Le G0 G1 ∧ (xs.take i).find? p = none, ⟨h0, u0, Le.refl _, by simp⟩, fun i σ1 G1 H1 h => ⟨h.2.2.1, h.2.1.i⟩, ?_, ?_⟩
  · rintro i d x σ1 G1 H1 G2 H2 hd ⟨h1, h2, h3, h4⟩ u2 r2
    rw [List.getElem?_map] at hd
    cases hz : xs[i]? with
    | none => rw [hz] at hd; cases hd
    | some z =>
      rw [hz] at hd
      cases hd
      have hlt : i < xs.length := (List.getElem?_eq_some_iff.mp hz).1
      have ez : xs[i] = z := (List.getElem?_eq_some_iff.mp hz).2
      have u := h2.trans u2
      show tb _ (σ1.set k (some x)) H2
      refine body z (List.mem_of_getElem? hz) σ1 G2 H2 x h1 u r2 _ (fun hp => ?_) (fun hp σ2 G3 H3 s3 u3 => ?_)
      · have hf : xs.find? p = some z := by
          rw [← List.take_append_drop i xs, List.find?_append, h4]
          rw [List.drop_eq_getElem_cons hlt, ez]
          simp [hp]
        exact fun v G3 H3 w r => hr z hf v G3 H3 (u.trans w) r
      · refine ⟨G3, s3, u.trans u3, h3.trans (u2.g.trans u3.g), ?_⟩
        rw [List.take_succ_eq_append_getElem hlt, List.find?_append, h4, ez]
        simp [hp]
  · rintro σ1 G1 H1 ⟨h1, h2, _, h4⟩
    rw [List.length_map, List.take_length] at h4
    exact hn h4 σ1 G1 H1 h1 h2
/-- a for that changes one hidden dict: I of the turn and the dict's pairs -/
theorem s_dict {α : Type} {DD : α → PyData} {xs : List α} {k : Nat} {tb : TS} {m : Addr} (f : Nat → List (Key × PyData)) (Sl : L2.St → Prop) (hi : EvI K wi σ G (xs.map DD)) (hin : In G H) (hg : G m = none) (h0 : Sl σ) (hm : ∃ kvs, H m = some (.dK kvs) ∧ RpE K G kvs (f 0))
    (body : ∀ (i : Nat) z, xs[i]? = some z → ∀ σ1 G1 H1 x kvs, Sl σ1 → In G1 H1 → Le G G1 → G1 m = none → H1 m = some (.dK kvs) → RpE K G1 kvs (f i) → Rp K G1 x (DD z) → ∀ D2 : Ends, (∀ σ2 G2 H2 kvs2, Sl σ2 → In G2 H2 → Le G1 G2 → G2 m = none → (∀ a, a ≠ m → ∀ o, H1 a = some o → H2 a = some o) → (∀ a o, G2 a = some o → G1 a = some o ∨ H1 a = none) → H2 m = some (.dK kvs2) → RpE K G2 kvs2 (f (i + 1)) → D2.nx σ2 H2) → tb D2 (σ1.set k (some x)) H1)
    (hd : ∀ σ2 G2 H2 kvs2, Sl σ2 → In G2 H2 → Le G G2 → G2 m = none → (∀ a, a ≠ m → ∀ o, H a = some o → H2 a = some o) → (∀ a o, G2 a = some o → G a = some o ∨ H a = none) → H2 m = some (.dK kvs2) → RpE K G2 kvs2 (f xs.length) → D.nx σ2 H2) : tFor wi (gName k) tb D σ H := by
  obtain ⟨kv0, e0, r0⟩ := hm
  have ne0 : H m ≠ none := by rw [e0]; intro q; cases q
  refine s_for hi hin fun G0 H0 u0 => ⟨fun i σ1 G1 H1 => Sl σ1 ∧ In G1 H1 ∧ Le G0 G1 ∧ G1 m = none ∧ (∀ a, a ≠ m → ∀ o, H a = some o → H1 a = some o) ∧ (∀ a o, G1 a = some o → G a = some o ∨ H a = none) ∧ ∃ kvs, H1 m = some (.dK kvs) ∧ RpE K G1 kvs (f i),
    ⟨h0, u0.i, Le.refl _, u0.hide ne0 hg, fun a _ o e => u0.h a o e, u0.n, kv0, u0.h _ _ e0, r0.mono u0.g⟩, fun i σ1 G1 H1 h => ⟨h.2.2.1, h.2.1⟩, ?_, ?_⟩
  · rintro i d x σ1 G1 H1 G2 H2 hd' ⟨s1, i1, l1, n1, k1, w1, kvs, e1, r1⟩ u2 p2
    rw [List.getElem?_map] at hd'
    cases hz : xs[i]? with
    | none => rw [hz] at hd'; cases hd'
    | some z =>
      rw [hz] at hd'
      cases hd'
      have ne1 : H1 m ≠ none := by rw [e1]; intro q; cases q
      refine body i z hz σ1 G2 H2 x kvs s1 u2.i ((u0.g.trans l1).trans u2.g) (u2.hide ne1 n1) (u2.h _ _ e1) (r1.mono u2.g) p2 _ fun σ2 G3 H3 kvs2 s3 i3 l3 n3 k3 w3 e3 r3 => ?_
      refine ⟨G3, s3, i3, l1.trans (u2.g.trans l3), n3, fun a ha o e => k3 a ha o (u2.h a o (k1 a ha o e)), fun a o e => ?_, kvs2, e3, r3⟩
      rcases w3 a o e with q | q
      · rcases u2.n a o q with q | q
        · exact w1 a o q
        · refine .inr ?_
          cases hh : H a with
          | none => rfl
          | some o' =>
            by_cases ha : a = m
            · subst ha; exact absurd q ne1
            · rw [k1 a ha o' hh] at q; cases q
      · refine .inr ?_
        cases hh : H a with
        | none => rfl
        | some o' =>
          by_cases ha : a = m
          · subst ha
            have := u2.h _ _ e1
            rw [this] at q; cases q
          · have := u2.h a o' (k1 a ha o' hh)
            rw [this] at q; cases q
  · rintro σ1 G1 H1 ⟨s1, i1, l1, n1, k1, w1, kvs, e1, r1⟩
    rw [List.length_map] at r1
    exact hd σ1 G1 H1 kvs s1 i1 (u0.g.trans l1) n1 k1 w1 e1 r1
/-- lo, lo - 1, .. above hi -/
def rngD (lo hi : Int) : List Int := (List.range (lo - hi).toNat).map fun (i : Nat) => lo - (i : Int)
theorem ei_rng3 {tr : TA} {i j : Int} (h : EvA K tr σ G [.int i, .int j, .int (-1)]) (hb : -1000000 ≤ i ∧ i ≤ 1000000 ∧ -1000000 ≤ j ∧ j ≤ 1000000) : EvI K (iRng3 tr) σ G ((rngD i j).map .int) := fun G1 H1 l hi R q => h G1 H1 l hi _ fun vs G2 H2 u2 p2 => by
  obtain ⟨v, ws, rfl, p3, p4⟩ := rpa_cons p2
  obtain ⟨v', ws', rfl, p5, p6⟩ := rpa_cons p4
  obtain ⟨v2, ws2, rfl, p7, p8⟩ := rpa_cons p6
  rw [rp_int p3, rp_int p5, rp_int p7, rpa_nil p8]
  refine ⟨i, j, -1, (i - j).toNat, rfl, RgC.neg (by omega) (by omega) (by omega) (by omega), q _ G2 H2 u2 fun G' H' l' i' => ?_⟩
  have Wk := walk_rangeC (lo := i) (c := -1) (n := (i - j).toNat)
  refine ⟨by simpa [rngD] using Wk.stops H' trivial, fun n d hd => ?_⟩
  have hn : n < (i - j).toNat := by
    have := (List.getElem?_eq_some_iff.mp hd).1
    simpa [rngD] using this
  refine ⟨Wk.goes n H' hn trivial, fun x H3 y => ?_⟩
  obtain ⟨e1, e2⟩ := Wk.yields n H' x H3 hn trivial y
  subst e1 e2
  have : d = .int (i + (n : Nat) * (-1)) := by
    simp [rngD, hn] at hd
    rw [← hd]
    congr 1
    omega
  subst this
  exact ⟨G', Up.refl i', .int _⟩
def enumT {α : Type} (xs : List α) : List (Int × α) := xs.zipIdx.map fun p => ((p.2 : Int), p.1)
theorem enumD_map {α : Type} (DD : α → PyData) (xs : List α) : enumD (xs.map DD) = (enumT xs).map (dP dI DD) := by
  unfold enumD enumT
  rw [List.zipIdx_map, List.map_map, List.map_map]
  apply List.map_congr_left
  intro p _
  rfl
theorem ei_enumT {α : Type} {DD : α → PyData} {tr : TA} {xs : List α} (h : EvA K tr σ G [dL DD xs]) : EvI K (iEnum K tr) σ G ((enumT xs).map (dP dI DD)) := by
  rw [← enumD_map]
  exact ei_enum h
/-- two names -/
theorem bnd_two {a b : PyData} {j k : Nat} : Bnd K (gTup K 2 (gCons (gName j) (gCons (gName k) gNil))) σ (.tuple [a, b]) fun σ2 G => ∃ x y, σ2 = (σ.set j (some x)).set k (some y) ∧ Rp K G x a ∧ Rp K G y b := fun G H x i p Q q => by
  obtain ⟨r, xs, rfl, h1, h2⟩ := rp_tup p
  obtain ⟨x1, ws, rfl, p1, h2⟩ := rpa_cons h2
  obtain ⟨x2, ws, rfl, p2, h2⟩ := rpa_cons h2
  obtain rfl := rpa_nil h2
  exact ⟨r, _, rfl, in_t i h1, rfl, x1, _, rfl, x2, _, rfl, rfl, q _ ⟨x1, x2, rfl, p1, p2⟩⟩
theorem wipe2 {j k : Nat} (h : j ≠ k) {x y : Option V} : wipe (((wipe σ [j, k]).set j x).set k y) [j, k] = wipe σ [j, k] := by
  show (((((σ.set k none).set j none).set j x).set k y).set k none).set j none = (σ.set k none).set j none
  rw [List.set_set, List.set_set, List.set_comm _ _ h, List.set_set, List.set_comm _ _ h.symm, List.set_comm _ _ h.symm, List.set_set]
theorem ev_lcF2 {α β γ : Type} {D1 : α → PyData} {D2 : β → PyData} {DE : γ → PyData} {xs : List (α × β)} {p : α × β → Bool} {M : α × β → γ} {j k : Nat} (hjk : j ≠ k) (hi : EvI K wi σ G (xs.map (dP D1 D2)))
    (ht : ∀ z ∈ xs, ∀ G1 x y, Le G G1 → Rp K G1 x (D1 z.1) → Rp K G1 y (D2 z.2) → EvT tt (((wipe σ [j, k]).set j (some x)).set k (some y)) G1 (p z)) (he : ∀ z ∈ xs, p z = true → ∀ G1 x y, Le G G1 → Rp K G1 x (D1 z.1) → Rp K G1 y (D2 z.2) → Ev K te (((wipe σ [j, k]).set j (some x)).set k (some y)) G1 (DE (M z))) (hl : xs.length ≤ 100000) :
    Ev K (tLc wi (gTup K 2 (gCons (gName j) (gCons (gName k) gNil))) tt te [j, k]) σ G (dL DE ((xs.filter p).map M)) := by
  have h := ev_lc (K := K) (σ := σ) (G := G) (te := te) (tt := tt) (g := gTup K 2 (gCons (gName j) (gCons (gName k) gNil))) (vs := [j, k]) (p := p) (f := fun z => DE (M z)) (B := fun z σ2 G => ∃ x y, σ2 = ((wipe σ [j, k]).set j (some x)).set k (some y) ∧ Rp K G x (D1 z.1) ∧ Rp K G y (D2 z.2)) hi (fun z _ => bnd_two) (fun z _ σ2 G ⟨x, y, e, _⟩ => by subst e; exact wipe2 hjk)
    (fun z hz G1 σ2 l ⟨x, y, e, hx, hy⟩ => by subst e; exact ht z hz G1 x y l hx hy) (fun z hz hp G1 σ2 l ⟨x, y, e, hx, hy⟩ => by subst e; exact he z hz hp G1 x y l hx hy) (fun z σ2 G1 G2 l ⟨x, y, e, hx, hy⟩ => ⟨x, y, e, hx.mono l, hy.mono l⟩) hl
  have e : (xs.filter p).map (fun z => DE (M z)) = ((xs.filter p).map M).map DE := by rw [List.map_map]; rfl
  rw [e] at h
  exact h
theorem ev_lcM2 {α β γ : Type} {D1 : α → PyData} {D2 : β → PyData} {DE : γ → PyData} {xs : List (α × β)} {M : α × β → γ} {j k : Nat} (hjk : j ≠ k) (hi : EvI K wi σ G (xs.map (dP D1 D2)))
    (he : ∀ z ∈ xs, ∀ G1 x y, Le G G1 → Rp K G1 x (D1 z.1) → Rp K G1 y (D2 z.2) → Ev K te (((wipe σ [j, k]).set j (some x)).set k (some y)) G1 (DE (M z))) (hl : xs.length ≤ 100000) :
    Ev K (tLc wi (gTup K 2 (gCons (gName j) (gCons (gName k) gNil))) tYes te [j, k]) σ G (dL DE (xs.map M)) := by
  have h := ev_lcF2 (te := te) (tt := tYes) (p := fun _ => true) (M := M) (DE := DE) hjk hi (fun z hz G1 x y l _ _ G3 H3 l3 i3 Q q => q G3 H3 (Up.refl i3)) (fun z hz _ => he z hz) hl
  rw [List.filter_eq_self.mpr (fun _ _ => rfl)] at h
  exact h
end
end Z

namespace Z
open PySem PySem.Spec PyProof.Rows L2
def Rse (G H : Hp) (E : XK) (C : Addr) : Prop := ∀ G2 H2, Up G H G2 H2 → E (.ref C) none H2
def tyD : PyData → String
  | .none => "NoneType"
  | .bool _ => "bool"
  | .int _ => "int"
  | .str _ => "str"
  | .list _ => "list"
  | .tuple _ => "tuple"
  | .dict _ => "dict"
section
variable {K : PySem.W.Frag} {σ : L2.St} {G H : Hp} {te ta tb : TE}
theorem ty_of {x : V} {d : PyData} (hi : In G H) (p : Rp K G x d) : TyX K H x (.type (tyD d)) := by
  cases p with
  | non => exact .base .non
  | bl b => exact .base (.bl b)
  | int i => exact .base (.int i)
  | str s => exact .base (.str s)
  | lst h _ => exact .base (.lst (hi.ex h rfl))
  | tup h _ =>
    rcases h with q | q
    · rcases q with q | ⟨o, q⟩
      · exact .base (.tup (hi.ex q rfl))
      · exact .fTuple (hi.ex q rfl)
    · obtain ⟨o, its, n, h1, h2, _⟩ := q
      exact .kTuple h1 h2
  | dic h _ =>
    rcases hi _ _ h with q | ⟨_, o, q⟩
    · exact .base (.dK q)
    · exact .fDict q
theorem ev_isi {d : PyData} {c : String} {b : Bool} (h : Ev K te σ G d) (hk : kitB (tyD d) c = some b) : Ev K (tCB (rIsi K) (tCons te (tCons (tC (.ty c)) tNil))) σ G (.bool b) := fun G1 H1 l i Q q =>
  h G1 H1 l i _ fun v G2 H2 u2 p2 => ⟨v, .ty c, .type (tyD d), .type c, b, rfl, by constructor, ty_of u2.i p2, kit_ty hk, q _ G2 H2 u2 (.bl _)⟩
def isiB (d : PyData) (c : String) : Bool := (kitB (tyD d) c).getD false
theorem ev_isiB {d : PyData} {c : String} (h : Ev K te σ G d) (hk : (kitB (tyD d) c).isSome = true) : Ev K (tCB (rIsi K) (tCons te (tCons (tC (.ty c)) tNil))) σ G (.bool (isiB d c)) := by
  obtain ⟨b, hb⟩ := Option.isSome_iff_exists.mp hk
  unfold isiB
  rw [hb]
  exact ev_isi h hb
theorem kitB_some (d : PyData) {c : String} (hc : c = "int" ∨ c = "str" ∨ c = "bool" ∨ c = "list" ∨ c = "tuple" ∨ c = "dict") : (kitB (tyD d) c).isSome = true := by
  rcases hc with rfl | rfl | rfl | rfl | rfl | rfl <;> cases d <;> simp only [tyD] <;> decide +kernel
end
/-! ### words.py -/
def acgt : W := [97, 99, 103, 116]
def m_is_integer : PyData → Bool
  | .int _ => true
  | _ => false
def m_is_between (d : PyData) (lo hi : Int) : Bool := match d with
  | .int i => decide (lo ≤ i) && decide (i ≤ hi)
  | _ => false
def lineB (l : W) : Bool := l.all fun c => decide (c ∈ acgt)
def m_is_line : PyData → Bool
  | .str s => lineB s.cps.toList
  | _ => false
def wordB (l : W) : Bool := lineB l && decide (0 < l.length)
def m_is_word : PyData → Bool
  | .str s => wordB s.cps.toList
  | _ => false
/-- texts are not too long -/
def okD : PyData → Prop
  | .str s => s.cps.toList.length ≤ 100000
  | _ => True
def sp_is_integer (K : PySem.W.Frag) (ca : Str → Addr) : Sp := fun vs H Q E => ∃ (G : Hp) (d : PyData), In G H ∧ RpA K G vs [d] ∧ Ret K G H Q (.bool (m_is_integer d))
def sp_is_between (K : PySem.W.Frag) (ca : Str → Addr) : Sp := fun vs H Q E => ∃ (G : Hp) (d : PyData) (lo hi : Int), In G H ∧ RpA K G vs [d, .int lo, .int hi] ∧ Ret K G H Q (.bool (m_is_between d lo hi))
def sp_is_line (K : PySem.W.Frag) (ca : Str → Addr) : Sp := fun vs H Q E => ∃ (G : Hp) (d : PyData), In G H ∧ RpA K G vs [d] ∧ okD d ∧ Ret K G H Q (.bool (m_is_line d))
def sp_is_word (K : PySem.W.Frag) (ca : Str → Addr) : Sp := fun vs H Q E => ∃ (G : Hp) (d : PyData), In G H ∧ RpA K G vs [d] ∧ okD d ∧ Ret K G H Q (.bool (m_is_word d))
def sp_need_word (K : PySem.W.Frag) (ca : Str → Addr) : Sp := fun vs H Q E => ∃ (G : Hp) (d : PyData), In G H ∧ RpA K G vs [d] ∧ okD d ∧ (m_is_word d = true → Ret K G H Q .none) ∧ (m_is_word d = false → Rse G H E (ca "BadWord"))
def sp_need_length (K : PySem.W.Frag) (ca : Str → Addr) : Sp := fun vs H Q E => ∃ (G : Hp) (d : PyData), In G H ∧ RpA K G vs [d] ∧ (m_is_between d 1 120 = true → Ret K G H Q .none) ∧ (m_is_between d 1 120 = false → Rse G H E (ca "BadLength"))
section
variable {K : PySem.W.Frag} {ca : Str → Addr} {E : XK}
theorem c_is_integer (d : PyData) : SpV K (sp_is_integer K ca) E [d] (.bool (m_is_integer d)) := fun G H vs hi pv Q q => ⟨G, d, hi, pv, q⟩
theorem c_is_between (d : PyData) (lo hi : Int) : SpV K (sp_is_between K ca) E [d, .int lo, .int hi] (.bool (m_is_between d lo hi)) := fun G H vs i pv Q q => ⟨G, d, lo, hi, i, pv, q⟩
theorem c_is_line (d : PyData) (h : okD d) : SpV K (sp_is_line K ca) E [d] (.bool (m_is_line d)) := fun G H vs hi pv Q q => ⟨G, d, hi, pv, h, q⟩
theorem c_is_word (d : PyData) (h : okD d) : SpV K (sp_is_word K ca) E [d] (.bool (m_is_word d)) := fun G H vs hi pv Q q => ⟨G, d, hi, pv, h, q⟩
theorem c_need_word' (d : PyData) (h : okD d) (hw : m_is_word d = true) : SpV K (sp_need_word K ca) E [d] .none := fun G H vs hi pv Q q => ⟨G, d, hi, pv, h, fun _ => q, fun e => by rw [hw] at e; cases e⟩
theorem c_need_length' (d : PyData) (hw : m_is_between d 1 120 = true) : SpV K (sp_need_length K ca) E [d] .none := fun G H vs hi pv Q q => ⟨G, d, hi, pv, fun _ => q, fun e => by rw [hw] at e; cases e⟩
end
def t_is_integer (K : PySem.W.Frag) (ca : Str → Addr) (E : XK) : TS := (tRet ((tAndV ((tCB (rIsi K) ((tCons ((tVar 0)) ((tCons (tC (.ty "int")) (tNil))))))) ((tNotV ((tCB (rIsi K) ((tCons ((tVar 0)) ((tCons (tC (.ty "bool")) (tNil))))))))))))
def t_is_between (K : PySem.W.Frag) (ca : Str → Addr) (E : XK) : TS := (tRet ((tAndV ((tCall (sp_is_integer K ca) [] E ((tCons ((tVar 0)) (tNil))))) ((tChain (rI0 fun i j => .bl (decide (i ≤ j))) (rI0 fun i j => .bl (decide (i ≤ j))) ((tVar 1)) ((tVar 0)) ((tVar 2)))))))
def t_is_line (K : PySem.W.Frag) (ca : Str → Addr) (E : XK) : TS := (tRet ((tAndV ((tCB (rIsi K) ((tCons ((tVar 0)) ((tCons (tC (.ty "str")) (tNil))))))) ((tCB (rAll K) ((tCons ((tLc ((iStr ((tVar 0)))) ((gName 1)) (tYes) ((tOp (rInC) ((tVar 1)) (tC (.str "acgt")))) [1])) (tNil))))))))
def t_is_word (K : PySem.W.Frag) (ca : Str → Addr) (E : XK) : TS := (tRet ((tAndV ((tCall (sp_is_line K ca) [] E ((tCons ((tVar 0)) (tNil))))) ((tOp (rI0 fun i j => .bl (decide (j < i))) ((tCB (rLenU K) ((tCons ((tVar 0)) (tNil))))) (tC (.int 0)))))))
def t_need_word (K : PySem.W.Frag) (ca : Str → Addr) (E : XK) : TS := (tIfS ((tNot ((tB ((tCall (sp_is_word K ca) [] E ((tCons ((tVar 0)) (tNil))))))))) ((tRaise (fun cls d _ H => E cls d H) (fun _ H Q => Q (.ref (ca "BadWord")) none H))) (tNext))
def t_need_length (K : PySem.W.Frag) (ca : Str → Addr) (E : XK) : TS := (tIfS ((tNot ((tB ((tCall (sp_is_between K ca) [] E ((tCons ((tVar 0)) ((tCons (tC (.int 1)) ((tCons (tC (.int 120)) (tNil))))))))))))) ((tRaise (fun cls d _ H => E cls d H) (fun _ H Q => Q (.ref (ca "BadLength")) none H))) (tNext))
section
variable {K : PySem.W.Frag} {ca : Str → Addr}
theorem pure_is_integer (vs : List V) (H : Hp) (Q : VK) (E : XK) (h : sp_is_integer K ca vs H Q E) : vs.length = 1 ∧ t_is_integer K ca E { nx := fun _ H2 => Q .non H2, rt := Q } (start ["value"] vs) H := by
  obtain ⟨G, d, hin, pv, k⟩ := h
  obtain ⟨v, ws, rfl, h0, pv⟩ := rpa_cons pv
  obtain rfl := rpa_nil pv
  refine ⟨rfl, ?_⟩
  have e : m_is_integer d = (isiB d "int" && !isiB d "bool") := by cases d <;> simp only [m_is_integer, isiB, tyD] <;> decide +kernel
  rw [e] at k
  exact s_ret (ev_andB (ev_isiB (ev_var rfl h0) (kitB_some d (by simp))) (fun _ => ev_notB (ev_isiB (ev_var rfl h0) (kitB_some d (by simp))))) hin k
theorem pure_is_between (vs : List V) (H : Hp) (Q : VK) (E : XK) (h : sp_is_between K ca vs H Q E) : vs.length = 3 ∧ t_is_between K ca E { nx := fun _ H2 => Q .non H2, rt := Q } (start ["value", "least", "most"] vs) H := by
  obtain ⟨G, d, lo, hi, hin, pv, k⟩ := h
  obtain ⟨v, ws, rfl, h0, pv⟩ := rpa_cons pv
  obtain ⟨v1, ws, rfl, h1, pv⟩ := rpa_cons pv
  obtain ⟨v2, ws, rfl, h2, pv⟩ := rpa_cons pv
  obtain rfl := rpa_nil pv
  refine ⟨rfl, ?_⟩
  refine s_ret (ev_and (ev_call (ea_cons (ev_var rfl h0) ea_nil) (c_is_integer d)) (b := .bool (m_is_between d lo hi)) (fun e => ?_) (fun e => ?_)) hin k
  · cases d with
    | int i => exact ev_chain (ev_var rfl h1) (ev_var rfl h0) (fun _ => ev_var rfl h2) opv_le (fun _ => opv_le)
    | _ => cases e
  · cases d with
    | int i => cases e
    | _ => rfl
theorem pure_is_line (vs : List V) (H : Hp) (Q : VK) (E : XK) (h : sp_is_line K ca vs H Q E) : vs.length = 1 ∧ t_is_line K ca E { nx := fun _ H2 => Q .non H2, rt := Q } (start ["value", "sign"] vs) H := by
  obtain ⟨G, d, hin, pv, hd, k⟩ := h
  obtain ⟨v, ws, rfl, h0, pv⟩ := rpa_cons pv
  obtain rfl := rpa_nil pv
  refine ⟨rfl, ?_⟩
  refine s_ret (ev_and (ev_isiB (ev_var rfl h0) (kitB_some d (by simp))) (b := .bool (m_is_line d)) (fun e => ?_) (fun e => ?_)) hin k
  · cases d with
    | str s =>
      have hs : s.cps.toList.length ≤ 100000 := hd
      have h0' : Rp K G v (dS s.cps.toList) := by rw [dS, S_eta]; exact h0
      have := ev_cb (ea_cons (ev_lcM (k := 1) (DE := dB) (M := fun c => decide (c ∈ acgt)) (ei_str (ev_var (i := 0) (σ := start ["value", "sign"] [v]) rfl h0')) (fun c _ G1 x l hx => ev_op (ev_var (i := 1) rfl hx) (ev_lit (l := acgt) (z := "acgt") (by decide +kernel)) opv_inC) hs) ea_nil) cav_all
      have e2 : List.all (List.map (fun c => decide (c ∈ acgt)) s.cps.toList) id = m_is_line (.str s) := by
        show _ = lineB s.cps.toList
        unfold lineB
        rw [List.all_map]
        rfl
      rw [e2] at this
      exact this
    | _ => exact absurd e (by simp only [isiB, tyD]; decide +kernel)
  · cases d with
    | str s => exact absurd e (by simp only [isiB, tyD]; decide +kernel)
    | _ => rfl
theorem pure_is_word (vs : List V) (H : Hp) (Q : VK) (E : XK) (h : sp_is_word K ca vs H Q E) : vs.length = 1 ∧ t_is_word K ca E { nx := fun _ H2 => Q .non H2, rt := Q } (start ["value"] vs) H := by
  obtain ⟨G, d, hin, pv, hd, k⟩ := h
  obtain ⟨v, ws, rfl, h0, pv⟩ := rpa_cons pv
  obtain rfl := rpa_nil pv
  refine ⟨rfl, ?_⟩
  refine s_ret (ev_and (ev_call (ea_cons (ev_var rfl h0) ea_nil) (c_is_line d hd)) (b := .bool (m_is_word d)) (fun e => ?_) (fun e => ?_)) hin k
  · cases d with
    | str s =>
      have hs : s.cps.toList.length ≤ 100000 := hd
      have h0' : Rp K G v (dS s.cps.toList) := by rw [dS, S_eta]; exact h0
      have := ev_op (ev_cb (ea_cons (ev_var (i := 0) (σ := start ["value"] [v]) rfl h0') ea_nil) (cav_lenS (by omega))) (ev_int (i := 0)) opv_gt
      have e2 : decide ((0 : Int) < (s.cps.toList.length : Int)) = m_is_word (.str s) := by
        show _ = wordB s.cps.toList
        unfold wordB
        have e' : lineB s.cps.toList = true := e
        rw [e', Bool.true_and]
        simp only [decide_eq_decide]
        omega
      rw [e2] at this
      exact this
    | _ => cases e
  · cases d with
    | str s =>
      have e' : lineB s.cps.toList = false := e
      show PyData.bool (wordB s.cps.toList) = _
      unfold wordB
      rw [e', Bool.false_and]
    | _ => rfl
theorem pure_need_word (vs : List V) (H : Hp) (Q : VK) (E : XK) (h : sp_need_word K ca vs H Q E) : vs.length = 1 ∧ t_need_word K ca E { nx := fun _ H2 => Q .non H2, rt := Q } (start ["word"] vs) H := by
  obtain ⟨G, d, hin, pv, hd, k1, k2⟩ := h
  obtain ⟨v, ws, rfl, h0, pv⟩ := rpa_cons pv
  obtain rfl := rpa_nil pv
  refine ⟨rfl, ?_⟩
  refine s_if (et_not (et_B (ev_call (ea_cons (ev_var rfl h0) ea_nil) (c_is_word d hd)))) hin (fun e G2 H2 u => ?_) (fun e G2 H2 u => ?_)
  · exact k2 (by simpa using e) G2 H2 u
  · exact k1 (by simpa using e) .non G2 H2 u .non
theorem pure_need_length (vs : List V) (H : Hp) (Q : VK) (E : XK) (h : sp_need_length K ca vs H Q E) : vs.length = 1 ∧ t_need_length K ca E { nx := fun _ H2 => Q .non H2, rt := Q } (start ["length"] vs) H := by
  obtain ⟨G, d, hin, pv, k1, k2⟩ := h
  obtain ⟨v, ws, rfl, h0, pv⟩ := rpa_cons pv
  obtain rfl := rpa_nil pv
  refine ⟨rfl, ?_⟩
  refine s_if (et_not (et_B (ev_call (ea_cons (ev_var rfl h0) (ea_cons ev_int (ea_cons ev_int ea_nil))) (c_is_between d 1 120)))) hin (fun e G2 H2 u => ?_) (fun e G2 H2 u => ?_)
  · exact k2 (by simpa using e) G2 H2 u
  · exact k1 (by simpa using e) .non G2 H2 u .non
end
end Z

namespace Z
open PySem PySem.Spec PyProof.Rows L2
theorem c_need_word {K : PySem.W.Frag} {ca : Str → Addr} {E : XK} (l : W) (h : wordB l = true) (hl : List.length l ≤ 10000) : SpV K (sp_need_word K ca) E [dS l] .none :=
  c_need_word' (dS l) (by show (S l).cps.toList.length ≤ 100000; rw [S_cps]; omega) (by show wordB (S l).cps.toList = true; rw [S_cps]; exact h)
theorem c_need_length {K : PySem.W.Frag} {ca : Str → Addr} {E : XK} (i : Int) (h : 1 ≤ i ∧ i ≤ 120) : SpV K (sp_need_length K ca) E [dI i] .none :=
  c_need_length' (dI i) (by show (decide (1 ≤ i) && decide (i ≤ 120)) = true; simp [h])
def m_is_betweenI (i lo hi : Int) : Bool := decide (lo ≤ i) && decide (i ≤ hi)
theorem c_is_betweenI {K : PySem.W.Frag} {ca : Str → Addr} {E : XK} (i lo hi : Int) : SpV K (sp_is_between K ca) E [dI i, dI lo, dI hi] (dB (m_is_betweenI i lo hi)) := c_is_between (dI i) lo hi
theorem atI_mod {l : W} {i : Int} (h : l ≠ []) : (atI l (Int.fmod i (List.length l : Int))).isSome = true := by
  have hp : 0 < l.length := List.length_pos_iff.mpr h
  have e : Int.fmod i (l.length : Int) = i % (l.length : Int) := Int.fmod_eq_emod_of_nonneg _ (by omega)
  have h0 := Int.emod_nonneg i (b := (l.length : Int)) (by omega)
  have h1 := Int.emod_lt_of_pos i (b := (l.length : Int)) (by omega)
  unfold atI ixN
  rw [e, if_pos h0, if_pos h1]
  have : (i % (l.length : Int)).toNat < l.length := by omega
  simp [this]
theorem len_ne {l : W} (h : l ≠ []) : (List.length l : Int) ≠ 0 := by
  have hp : 0 < l.length := List.length_pos_iff.mpr h
  omega
theorem word_ne {l : W} (h : wordB l = true) : l ≠ [] := by
  intro e; subst e; revert h; decide
theorem rng_mem {a lo : Int} {n : Nat} (h : a ∈ rng lo n) : lo ≤ a ∧ a < lo + n := by
  unfold rng at h
  obtain ⟨i, hi, e⟩ := List.mem_map.mp h
  have := List.mem_range.mp hi
  omega
theorem map_rng_ne {β : Type} {f : Int → β} {l : W} (h : l ≠ []) : List.map f (rng 0 (List.length l : Int).toNat) ≠ [] := by
  have hp : 0 < l.length := List.length_pos_iff.mpr h
  intro e
  have := congrArg List.length e
  rw [List.length_map, rng_len, List.length_nil] at this
  omega
theorem ne_of_rng {l : W} {a : Int} (h : a ∈ rng 0 (List.length l : Int).toNat) : l ≠ [] := by
  intro e
  subst e
  have := rng_mem h
  simp at this
  omega
theorem fdiv_le {n k : Int} (h0 : 0 ≤ n) (h : 1 ≤ k) : 0 ≤ Int.fdiv n k ∧ Int.fdiv n k ≤ n := by
  rw [Int.fdiv_eq_ediv_of_nonneg _ (by omega)]
  exact ⟨Int.ediv_nonneg h0 (by omega), Int.ediv_le_self _ h0⟩
theorem fdiv_bd {l : W} {k : Int} (h : List.length l ≤ 2000) (hk : 1 ≤ k) : -1000000 ≤ Int.fdiv (List.length l : Int) k ∧ Int.fdiv (List.length l : Int) k ≤ 1000000 := by
  have := fdiv_le (n := (List.length l : Int)) (k := k) (by omega) hk
  omega
theorem fdiv_mul {l : W} {a b : Option Int} {k : Int} (h : List.length l ≤ 2000) (hk : 1 ≤ k) : (cutL l a b).length * (Int.fdiv (List.length l : Int) k).toNat ≤ 10000000 := by
  have h1 := fdiv_le (n := (List.length l : Int)) (k := k) (by omega) hk
  have h2 := cutL_le l a b
  have h3 : (Int.fdiv (List.length l : Int) k).toNat ≤ 2000 := by omega
  exact Nat.le_trans (Nat.mul_le_mul (Nat.le_trans h2 h) h3) (by decide)
local macro_rules | `(tactic| walk_at "sd") => `(tactic| (first | assumption | omega | (simp only [rng_len, List.length_map]; omega) | (exact Nat.le_trans (cutL_le _ _ _) (by omega)) | (exact Nat.le_trans (Nat.add_le_add (cutL_le _ _ _) (cutL_le _ _ _)) (by omega)) | (exact len_ne (by assumption)) | (exact atI_mod (by assumption)) | (exact trivial) | (have hm := rng_mem (by assumption); omega) | (have hm := rng_mem (by assumption); refine ⟨by omega, by omega⟩) | (have hm := rng_mem (by assumption); exact fdiv_bd (by omega) (by omega)) | (have hm := rng_mem (by assumption); exact fdiv_mul (by omega) (by omega)) | (exact word_ne (by assumption)) | (exact map_rng_ne (by assumption)) | (exact (rng_mem (by assumption)).1) | (exact ne_of_rng (by assumption))))

-- places_of
def m_places_of (text_v : W) (piece_v : W) : (List Int) := (List.map (fun at_v => at_v) (List.filter (fun at_v => (decide ((cutL text_v (some at_v) (some (at_v + (List.length piece_v : Int)))) = piece_v))) (rng 0 ((((List.length text_v : Int) - (List.length piece_v : Int)) + (1 : Int))).toNat)))
def sp_places_of (K : PySem.W.Frag) (ca : Str → Addr) : Sp := fun vs H Q E => ∃ (G : Hp) (text_v : W) (piece_v : W), In G H ∧ RpA K G vs [(dS text_v), (dS piece_v)] ∧ (List.length text_v ≤ 10000) ∧ (List.length piece_v ≤ 10000) ∧ Ret K G H Q ((dL dI) (m_places_of text_v piece_v))
theorem c_places_of {K : PySem.W.Frag} {ca : Str → Addr} {E : XK} (text_v : W) (piece_v : W) (p0 : List.length text_v ≤ 10000) (p1 : List.length piece_v ≤ 10000) : SpV K (sp_places_of K ca) E [(dS text_v), (dS piece_v)] ((dL dI) (m_places_of text_v piece_v)) := fun G H vs hi pv Q q => ⟨G, text_v, piece_v, hi, pv, p0, p1, q⟩
def t_places_of (K : PySem.W.Frag) (ca : Str → Addr) (E : XK) : TS := (tRet ((tLc ((iRng1 ((tCons ((tOp (rI0 fun i j => .int (i + j)) ((tOp (rI0 fun i j => .int (i - j)) ((tCB (rLenU K) ((tCons ((tVar 0)) (tNil))))) ((tCB (rLenU K) ((tCons ((tVar 1)) (tNil))))))) (tC (.int 1)))) (tNil))))) ((gName 2)) ((tTest (tOp (rEq) ((tSl (rSlS) ((tVar 0)) ((tPart ((tVar 2)))) ((tPart ((tOp (rI0 fun i j => .int (i + j)) ((tVar 2)) ((tCB (rLenU K) ((tCons ((tVar 1)) (tNil))))))))))) ((tVar 1))))) ((tVar 2)) [2])))
theorem pure_places_of {K : PySem.W.Frag} {ca : Str → Addr} (vs : List V) (H : Hp) (Q : VK) (E : XK) (h : sp_places_of K ca vs H Q E) : vs.length = 2 ∧ t_places_of K ca E { nx := fun _ H2 => Q .non H2, rt := Q } (start ["text", "piece", "at"] vs) H := by
  obtain ⟨G, text_v, piece_v, hin, pv, p0, p1, k⟩ := h
  obtain ⟨v_text_v, w0, rfl, h_text_v, pv0⟩ := rpa_cons pv
  obtain ⟨v_piece_v, w1, rfl, h_piece_v, pv1⟩ := rpa_cons pv0
  obtain rfl := rpa_nil pv1
  refine ⟨rfl, ?_⟩
  unfold m_places_of at k
  unfold t_places_of
  exact s_ret (ev_lcF (DE := dI) (ei_rng1 (ea_cons (ev_op (ev_op (ev_cb (ea_cons (ev_var rfl h_text_v) ea_nil) (cav_lenS (by walk_at "sd"))) (ev_cb (ea_cons (ev_var rfl h_piece_v) ea_nil) (cav_lenS (by walk_at "sd"))) opv_sub) ev_int opv_add) ea_nil) (by walk_at "sd") (by walk_at "sd")) (fun at_v z1 G1 x1 l1 h1 => (et_test (ev_op (ev_slS (ev_var rfl (Rp.mono l1 h_text_v)) (eo_some (ev_var rfl h1)) (eo_some (ev_op (ev_var rfl h1) (ev_cb (ea_cons (ev_var rfl (Rp.mono l1 h_piece_v)) ea_nil) (cav_lenS (by walk_at "sd"))) opv_add)) (by walk_at "sd")) (ev_var rfl (Rp.mono l1 h_piece_v)) opv_eqS))) (fun at_v z1 p1 G1 x1 l1 h1 => (ev_var rfl h1)) (by walk_at "sd")) hin (fun v G2 H2 w r => k v G2 H2 w r)
-- occurrences
def m_occurrences (word_v : W) (piece_v : W) : (List Int) := (m_places_of (word_v) (piece_v))
def sp_occurrences (K : PySem.W.Frag) (ca : Str → Addr) : Sp := fun vs H Q E => ∃ (G : Hp) (word_v : W) (piece_v : W), In G H ∧ RpA K G vs [(dS word_v), (dS piece_v)] ∧ (wordB word_v = true) ∧ (List.length word_v ≤ 10000) ∧ (wordB piece_v = true) ∧ (List.length piece_v ≤ 10000) ∧ Ret K G H Q ((dL dI) (m_occurrences word_v piece_v))
theorem c_occurrences {K : PySem.W.Frag} {ca : Str → Addr} {E : XK} (word_v : W) (piece_v : W) (p0 : wordB word_v = true) (p1 : List.length word_v ≤ 10000) (p2 : wordB piece_v = true) (p3 : List.length piece_v ≤ 10000) : SpV K (sp_occurrences K ca) E [(dS word_v), (dS piece_v)] ((dL dI) (m_occurrences word_v piece_v)) := fun G H vs hi pv Q q => ⟨G, word_v, piece_v, hi, pv, p0, p1, p2, p3, q⟩
def t_occurrences (K : PySem.W.Frag) (ca : Str → Addr) (E : XK) : TS := (tSeq ((tDrop ((tCall (sp_need_word K ca) [] E ((tCons ((tVar 0)) (tNil))))))) ((tSeq ((tDrop ((tCall (sp_need_word K ca) [] E ((tCons ((tVar 1)) (tNil))))))) ((tRet ((tCall (sp_places_of K ca) [] E ((tCons ((tVar 0)) ((tCons ((tVar 1)) (tNil))))))))))))
theorem pure_occurrences {K : PySem.W.Frag} {ca : Str → Addr} (vs : List V) (H : Hp) (Q : VK) (E : XK) (h : sp_occurrences K ca vs H Q E) : vs.length = 2 ∧ t_occurrences K ca E { nx := fun _ H2 => Q .non H2, rt := Q } (start ["word", "piece"] vs) H := by
  obtain ⟨G, word_v, piece_v, hin, pv, p0, p1, p2, p3, k⟩ := h
  obtain ⟨v_word_v, w0, rfl, h_word_v, pv0⟩ := rpa_cons pv
  obtain ⟨v_piece_v, w1, rfl, h_piece_v, pv1⟩ := rpa_cons pv0
  obtain rfl := rpa_nil pv1
  refine ⟨rfl, ?_⟩
  unfold m_occurrences at k
  unfold t_occurrences
  refine s_drop (ev_call (ea_cons (ev_var rfl h_word_v) ea_nil) (c_need_word (word_v) (by walk_at "sd") (by walk_at "sd"))) hin fun v1 G1 H1 u1 r1 => ?_
  refine s_drop (ev_call (ea_cons (ev_var rfl (Rp.mono u1.g h_piece_v)) ea_nil) (c_need_word (piece_v) (by walk_at "sd") (by walk_at "sd"))) u1.i fun v2 G2 H2 u2 r2 => ?_
  exact s_ret (ev_call (ea_cons (ev_var rfl (Rp.mono u2.g (Rp.mono u1.g h_word_v))) (ea_cons (ev_var rfl (Rp.mono u2.g (Rp.mono u1.g h_piece_v))) ea_nil)) (c_places_of (word_v) (piece_v) (by walk_at "sd") (by walk_at "sd"))) u2.i (fun v G2 H2 w r => k v G2 H2 (Up.trans (Up.trans u1 u2) w) r)
-- stretches
def m_stretches (text_v : W) (length_v : Int) : (List W) := (List.map (fun at_v => (cutL text_v (some at_v) (some (at_v + length_v)))) (rng 0 ((((List.length text_v : Int) - length_v) + (1 : Int))).toNat))
def sp_stretches (K : PySem.W.Frag) (ca : Str → Addr) : Sp := fun vs H Q E => ∃ (G : Hp) (text_v : W) (length_v : Int), In G H ∧ RpA K G vs [(dS text_v), (dI length_v)] ∧ (List.length text_v ≤ 10000) ∧ (0 ≤ length_v ∧ length_v ≤ 10000) ∧ Ret K G H Q ((dL dS) (m_stretches text_v length_v))
theorem c_stretches {K : PySem.W.Frag} {ca : Str → Addr} {E : XK} (text_v : W) (length_v : Int) (p0 : List.length text_v ≤ 10000) (p1 : 0 ≤ length_v ∧ length_v ≤ 10000) : SpV K (sp_stretches K ca) E [(dS text_v), (dI length_v)] ((dL dS) (m_stretches text_v length_v)) := fun G H vs hi pv Q q => ⟨G, text_v, length_v, hi, pv, p0, p1, q⟩
def t_stretches (K : PySem.W.Frag) (ca : Str → Addr) (E : XK) : TS := (tRet ((tLc ((iRng1 ((tCons ((tOp (rI0 fun i j => .int (i + j)) ((tOp (rI0 fun i j => .int (i - j)) ((tCB (rLenU K) ((tCons ((tVar 0)) (tNil))))) ((tVar 1)))) (tC (.int 1)))) (tNil))))) ((gName 2)) (tYes) ((tSl (rSlS) ((tVar 0)) ((tPart ((tVar 2)))) ((tPart ((tOp (rI0 fun i j => .int (i + j)) ((tVar 2)) ((tVar 1)))))))) [2])))
theorem pure_stretches {K : PySem.W.Frag} {ca : Str → Addr} (vs : List V) (H : Hp) (Q : VK) (E : XK) (h : sp_stretches K ca vs H Q E) : vs.length = 2 ∧ t_stretches K ca E { nx := fun _ H2 => Q .non H2, rt := Q } (start ["text", "length", "at"] vs) H := by
  obtain ⟨G, text_v, length_v, hin, pv, p0, p1, k⟩ := h
  obtain ⟨v_text_v, w0, rfl, h_text_v, pv0⟩ := rpa_cons pv
  obtain ⟨v_length_v, w1, rfl, h_length_v, pv1⟩ := rpa_cons pv0
  obtain rfl := rpa_nil pv1
  refine ⟨rfl, ?_⟩
  unfold m_stretches at k
  unfold t_stretches
  exact s_ret (ev_lcM (DE := dS) (ei_rng1 (ea_cons (ev_op (ev_op (ev_cb (ea_cons (ev_var rfl h_text_v) ea_nil) (cav_lenS (by walk_at "sd"))) (ev_var rfl h_length_v) opv_sub) ev_int opv_add) ea_nil) (by walk_at "sd") (by walk_at "sd")) (fun at_v z1 G1 x1 l1 h1 => (ev_slS (ev_var rfl (Rp.mono l1 h_text_v)) (eo_some (ev_var rfl h1)) (eo_some (ev_op (ev_var rfl h1) (ev_var rfl (Rp.mono l1 h_length_v)) opv_add)) (by walk_at "sd"))) (by walk_at "sd")) hin (fun v G2 H2 w r => k v G2 H2 w r)
-- borders_of
def m_borders_of (text_v : W) : (List Int) := (List.map (fun length_v => length_v) (List.filter (fun length_v => (decide ((cutL text_v none (some length_v)) = (cutL text_v (some ((List.length text_v : Int) - length_v)) none)))) (rng (1 : Int) ((List.length text_v : Int) - (1 : Int)).toNat)))
def sp_borders_of (K : PySem.W.Frag) (ca : Str → Addr) : Sp := fun vs H Q E => ∃ (G : Hp) (text_v : W), In G H ∧ RpA K G vs [(dS text_v)] ∧ (List.length text_v ≤ 10000) ∧ Ret K G H Q ((dL dI) (m_borders_of text_v))
theorem c_borders_of {K : PySem.W.Frag} {ca : Str → Addr} {E : XK} (text_v : W) (p0 : List.length text_v ≤ 10000) : SpV K (sp_borders_of K ca) E [(dS text_v)] ((dL dI) (m_borders_of text_v)) := fun G H vs hi pv Q q => ⟨G, text_v, hi, pv, p0, q⟩
def t_borders_of (K : PySem.W.Frag) (ca : Str → Addr) (E : XK) : TS := (tRet ((tLc ((iRng2 ((tCons (tC (.int 1)) ((tCons ((tCB (rLenU K) ((tCons ((tVar 0)) (tNil))))) (tNil))))))) ((gName 1)) ((tTest (tOp (rEq) ((tSl (rSlS) ((tVar 0)) (tNoPart) ((tPart ((tVar 1)))))) ((tSl (rSlS) ((tVar 0)) ((tPart ((tOp (rI0 fun i j => .int (i - j)) ((tCB (rLenU K) ((tCons ((tVar 0)) (tNil))))) ((tVar 1)))))) (tNoPart)))))) ((tVar 1)) [1])))
theorem pure_borders_of {K : PySem.W.Frag} {ca : Str → Addr} (vs : List V) (H : Hp) (Q : VK) (E : XK) (h : sp_borders_of K ca vs H Q E) : vs.length = 1 ∧ t_borders_of K ca E { nx := fun _ H2 => Q .non H2, rt := Q } (start ["text", "length"] vs) H := by
  obtain ⟨G, text_v, hin, pv, p0, k⟩ := h
  obtain ⟨v_text_v, w0, rfl, h_text_v, pv0⟩ := rpa_cons pv
  obtain rfl := rpa_nil pv0
  refine ⟨rfl, ?_⟩
  unfold m_borders_of at k
  unfold t_borders_of
  exact s_ret (ev_lcF (DE := dI) (ei_rng2 (ea_cons ev_int (ea_cons (ev_cb (ea_cons (ev_var rfl h_text_v) ea_nil) (cav_lenS (by walk_at "sd"))) ea_nil)) (by walk_at "sd") (by walk_at "sd") (by walk_at "sd") (by walk_at "sd")) (fun length_v z1 G1 x1 l1 h1 => (et_test (ev_op (ev_slS (ev_var rfl (Rp.mono l1 h_text_v)) eo_none (eo_some (ev_var rfl h1)) (by walk_at "sd")) (ev_slS (ev_var rfl (Rp.mono l1 h_text_v)) (eo_some (ev_op (ev_cb (ea_cons (ev_var rfl (Rp.mono l1 h_text_v)) ea_nil) (cav_lenS (by walk_at "sd"))) (ev_var rfl h1) opv_sub)) eo_none (by walk_at "sd")) opv_eqS))) (fun length_v z1 p1 G1 x1 l1 h1 => (ev_var rfl h1)) (by walk_at "sd")) hin (fun v G2 H2 w r => k v G2 H2 w r)
-- borders
def m_borders (word_v : W) : (List Int) := (m_borders_of (word_v))
def sp_borders (K : PySem.W.Frag) (ca : Str → Addr) : Sp := fun vs H Q E => ∃ (G : Hp) (word_v : W), In G H ∧ RpA K G vs [(dS word_v)] ∧ (wordB word_v = true) ∧ (List.length word_v ≤ 10000) ∧ Ret K G H Q ((dL dI) (m_borders word_v))
theorem c_borders {K : PySem.W.Frag} {ca : Str → Addr} {E : XK} (word_v : W) (p0 : wordB word_v = true) (p1 : List.length word_v ≤ 10000) : SpV K (sp_borders K ca) E [(dS word_v)] ((dL dI) (m_borders word_v)) := fun G H vs hi pv Q q => ⟨G, word_v, hi, pv, p0, p1, q⟩
def t_borders (K : PySem.W.Frag) (ca : Str → Addr) (E : XK) : TS := (tSeq ((tDrop ((tCall (sp_need_word K ca) [] E ((tCons ((tVar 0)) (tNil))))))) ((tRet ((tCall (sp_borders_of K ca) [] E ((tCons ((tVar 0)) (tNil))))))))
theorem pure_borders {K : PySem.W.Frag} {ca : Str → Addr} (vs : List V) (H : Hp) (Q : VK) (E : XK) (h : sp_borders K ca vs H Q E) : vs.length = 1 ∧ t_borders K ca E { nx := fun _ H2 => Q .non H2, rt := Q } (start ["word"] vs) H := by
  obtain ⟨G, word_v, hin, pv, p0, p1, k⟩ := h
  obtain ⟨v_word_v, w0, rfl, h_word_v, pv0⟩ := rpa_cons pv
  obtain rfl := rpa_nil pv0
  refine ⟨rfl, ?_⟩
  unfold m_borders at k
  unfold t_borders
  refine s_drop (ev_call (ea_cons (ev_var rfl h_word_v) ea_nil) (c_need_word (word_v) (by walk_at "sd") (by walk_at "sd"))) hin fun v1 G1 H1 u1 r1 => ?_
  exact s_ret (ev_call (ea_cons (ev_var rfl (Rp.mono u1.g h_word_v)) ea_nil) (c_borders_of (word_v) (by walk_at "sd"))) u1.i (fun v G2 H2 w r => k v G2 H2 (Up.trans u1 w) r)
-- turn_of
def m_turn_of (text_v : W) (number_v : Int) : W := ((cutL text_v (some number_v) none) ++ (cutL text_v none (some number_v)))
def sp_turn_of (K : PySem.W.Frag) (ca : Str → Addr) : Sp := fun vs H Q E => ∃ (G : Hp) (text_v : W) (number_v : Int), In G H ∧ RpA K G vs [(dS text_v), (dI number_v)] ∧ (List.length text_v ≤ 10000) ∧ Ret K G H Q (dS (m_turn_of text_v number_v))
theorem c_turn_of {K : PySem.W.Frag} {ca : Str → Addr} {E : XK} (text_v : W) (number_v : Int) (p0 : List.length text_v ≤ 10000) : SpV K (sp_turn_of K ca) E [(dS text_v), (dI number_v)] (dS (m_turn_of text_v number_v)) := fun G H vs hi pv Q q => ⟨G, text_v, number_v, hi, pv, p0, q⟩
def t_turn_of (K : PySem.W.Frag) (ca : Str → Addr) (E : XK) : TS := (tRet ((tOp (rAddS) ((tSl (rSlS) ((tVar 0)) ((tPart ((tVar 1)))) (tNoPart))) ((tSl (rSlS) ((tVar 0)) (tNoPart) ((tPart ((tVar 1)))))))))
theorem pure_turn_of {K : PySem.W.Frag} {ca : Str → Addr} (vs : List V) (H : Hp) (Q : VK) (E : XK) (h : sp_turn_of K ca vs H Q E) : vs.length = 2 ∧ t_turn_of K ca E { nx := fun _ H2 => Q .non H2, rt := Q } (start ["text", "number"] vs) H := by
  obtain ⟨G, text_v, number_v, hin, pv, p0, k⟩ := h
  obtain ⟨v_text_v, w0, rfl, h_text_v, pv0⟩ := rpa_cons pv
  obtain ⟨v_number_v, w1, rfl, h_number_v, pv1⟩ := rpa_cons pv0
  obtain rfl := rpa_nil pv1
  refine ⟨rfl, ?_⟩
  unfold m_turn_of at k
  unfold t_turn_of
  exact s_ret (ev_op (ev_slS (ev_var rfl h_text_v) (eo_some (ev_var rfl h_number_v)) eo_none (by walk_at "sd")) (ev_slS (ev_var rfl h_text_v) eo_none (eo_some (ev_var rfl h_number_v)) (by walk_at "sd")) (opv_addS (by walk_at "sd"))) hin (fun v G2 H2 w r => k v G2 H2 w r)
-- least_turn
def m_least_turn (text_v : W) : W := (minS (List.map (fun number_v => (m_turn_of (text_v) (number_v))) (rng 0 ((List.length text_v : Int)).toNat)))
def sp_least_turn (K : PySem.W.Frag) (ca : Str → Addr) : Sp := fun vs H Q E => ∃ (G : Hp) (text_v : W), In G H ∧ RpA K G vs [(dS text_v)] ∧ (List.length text_v ≤ 10000) ∧ (text_v ≠ []) ∧ Ret K G H Q (dS (m_least_turn text_v))
theorem c_least_turn {K : PySem.W.Frag} {ca : Str → Addr} {E : XK} (text_v : W) (p0 : List.length text_v ≤ 10000) (p1 : text_v ≠ []) : SpV K (sp_least_turn K ca) E [(dS text_v)] (dS (m_least_turn text_v)) := fun G H vs hi pv Q q => ⟨G, text_v, hi, pv, p0, p1, q⟩
def t_least_turn (K : PySem.W.Frag) (ca : Str → Addr) (E : XK) : TS := (tRet ((tCB (rMinD K) ((tCons ((tLc ((iRng1 ((tCons ((tCB (rLenU K) ((tCons ((tVar 0)) (tNil))))) (tNil))))) ((gName 1)) (tYes) ((tCall (sp_turn_of K ca) [] E0 ((tCons ((tVar 0)) ((tCons ((tVar 1)) (tNil))))))) [1])) (tNil))))))
theorem pure_least_turn {K : PySem.W.Frag} {ca : Str → Addr} (vs : List V) (H : Hp) (Q : VK) (E : XK) (h : sp_least_turn K ca vs H Q E) : vs.length = 1 ∧ t_least_turn K ca E { nx := fun _ H2 => Q .non H2, rt := Q } (start ["text", "number"] vs) H := by
  obtain ⟨G, text_v, hin, pv, p0, p1, k⟩ := h
  obtain ⟨v_text_v, w0, rfl, h_text_v, pv0⟩ := rpa_cons pv
  obtain rfl := rpa_nil pv0
  refine ⟨rfl, ?_⟩
  unfold m_least_turn at k
  unfold t_least_turn
  exact s_ret (ev_cb (ea_cons (ev_lcM (DE := dS) (ei_rng1 (ea_cons (ev_cb (ea_cons (ev_var rfl h_text_v) ea_nil) (cav_lenS (by walk_at "sd"))) ea_nil) (by walk_at "sd") (by walk_at "sd")) (fun number_v z1 G1 x1 l1 h1 => (ev_call (ea_cons (ev_var rfl (Rp.mono l1 h_text_v)) (ea_cons (ev_var rfl h1) ea_nil)) (c_turn_of (text_v) (number_v) (by walk_at "sd")))) (by walk_at "sd")) ea_nil) (cav_minS (by walk_at "sd") (by walk_at "sd"))) hin (fun v G2 H2 w r => k v G2 H2 w r)
-- ring_of
def m_ring_of (word_v : W) : W := (m_least_turn (word_v))
def sp_ring_of (K : PySem.W.Frag) (ca : Str → Addr) : Sp := fun vs H Q E => ∃ (G : Hp) (word_v : W), In G H ∧ RpA K G vs [(dS word_v)] ∧ (wordB word_v = true) ∧ (List.length word_v ≤ 10000) ∧ Ret K G H Q (dS (m_ring_of word_v))
theorem c_ring_of {K : PySem.W.Frag} {ca : Str → Addr} {E : XK} (word_v : W) (p0 : wordB word_v = true) (p1 : List.length word_v ≤ 10000) : SpV K (sp_ring_of K ca) E [(dS word_v)] (dS (m_ring_of word_v)) := fun G H vs hi pv Q q => ⟨G, word_v, hi, pv, p0, p1, q⟩
def t_ring_of (K : PySem.W.Frag) (ca : Str → Addr) (E : XK) : TS := (tSeq ((tDrop ((tCall (sp_need_word K ca) [] E ((tCons ((tVar 0)) (tNil))))))) ((tRet ((tCall (sp_least_turn K ca) [] E ((tCons ((tVar 0)) (tNil))))))))
theorem pure_ring_of {K : PySem.W.Frag} {ca : Str → Addr} (vs : List V) (H : Hp) (Q : VK) (E : XK) (h : sp_ring_of K ca vs H Q E) : vs.length = 1 ∧ t_ring_of K ca E { nx := fun _ H2 => Q .non H2, rt := Q } (start ["word"] vs) H := by
  obtain ⟨G, word_v, hin, pv, p0, p1, k⟩ := h
  obtain ⟨v_word_v, w0, rfl, h_word_v, pv0⟩ := rpa_cons pv
  obtain rfl := rpa_nil pv0
  refine ⟨rfl, ?_⟩
  unfold m_ring_of at k
  unfold t_ring_of
  refine s_drop (ev_call (ea_cons (ev_var rfl h_word_v) ea_nil) (c_need_word (word_v) (by walk_at "sd") (by walk_at "sd"))) hin fun v1 G1 H1 u1 r1 => ?_
  exact s_ret (ev_call (ea_cons (ev_var rfl (Rp.mono u1.g h_word_v)) ea_nil) (c_least_turn (word_v) (by walk_at "sd") (by walk_at "sd"))) u1.i (fun v G2 H2 w r => k v G2 H2 (Up.trans u1 w) r)
-- read_on
def m_read_on (text_v : W) (at_v : Int) (length_v : Int) : W := (List.map (fun step_v => ((atI text_v (Int.fmod (at_v + step_v) (List.length text_v : Int))).getD 0)) (rng 0 (length_v).toNat))
def sp_read_on (K : PySem.W.Frag) (ca : Str → Addr) : Sp := fun vs H Q E => ∃ (G : Hp) (text_v : W) (at_v : Int) (length_v : Int), In G H ∧ RpA K G vs [(dS text_v), (dI at_v), (dI length_v)] ∧ (List.length text_v ≤ 10000) ∧ (text_v ≠ []) ∧ (0 ≤ at_v) ∧ (0 ≤ length_v ∧ length_v ≤ 10000) ∧ Ret K G H Q (dS (m_read_on text_v at_v length_v))
theorem c_read_on {K : PySem.W.Frag} {ca : Str → Addr} {E : XK} (text_v : W) (at_v : Int) (length_v : Int) (p0 : List.length text_v ≤ 10000) (p1 : text_v ≠ []) (p2 : 0 ≤ at_v) (p3 : 0 ≤ length_v ∧ length_v ≤ 10000) : SpV K (sp_read_on K ca) E [(dS text_v), (dI at_v), (dI length_v)] (dS (m_read_on text_v at_v length_v)) := fun G H vs hi pv Q q => ⟨G, text_v, at_v, length_v, hi, pv, p0, p1, p2, p3, q⟩
def t_read_on (K : PySem.W.Frag) (ca : Str → Addr) (E : XK) : TS := (tRet ((tM1 (rJoin K) (tC (.str "")) ((tLc ((iRng1 ((tCons ((tVar 2)) (tNil))))) ((gName 3)) (tYes) ((tOp (rIx K) ((tVar 0)) ((tOp (rI (fun _ j => j ≠ 0) fun i j => .int (i.fmod j)) ((tOp (rI0 fun i j => .int (i + j)) ((tVar 1)) ((tVar 3)))) ((tCB (rLenU K) ((tCons ((tVar 0)) (tNil))))))))) [3])))))
theorem pure_read_on {K : PySem.W.Frag} {ca : Str → Addr} (vs : List V) (H : Hp) (Q : VK) (E : XK) (h : sp_read_on K ca vs H Q E) : vs.length = 3 ∧ t_read_on K ca E { nx := fun _ H2 => Q .non H2, rt := Q } (start ["text", "at", "length", "step"] vs) H := by
  obtain ⟨G, text_v, at_v, length_v, hin, pv, p0, p1, p2, p3, k⟩ := h
  obtain ⟨v_text_v, w0, rfl, h_text_v, pv0⟩ := rpa_cons pv
  obtain ⟨v_at_v, w1, rfl, h_at_v, pv1⟩ := rpa_cons pv0
  obtain ⟨v_length_v, w2, rfl, h_length_v, pv2⟩ := rpa_cons pv1
  obtain rfl := rpa_nil pv2
  refine ⟨rfl, ?_⟩
  unfold m_read_on at k
  unfold t_read_on
  exact s_ret (ev_joinC (ev_lit (by decide +kernel)) (ev_lcM (DE := dC) (ei_rng1 (ea_cons (ev_var rfl h_length_v) ea_nil) (by walk_at "sd") (by walk_at "sd")) (fun step_v z1 G1 x1 l1 h1 => (ev_op (ev_var rfl (Rp.mono l1 h_text_v)) (ev_op (ev_op (ev_var rfl (Rp.mono l1 h_at_v)) (ev_var rfl h1) opv_add) (ev_cb (ea_cons (ev_var rfl (Rp.mono l1 h_text_v)) ea_nil) (cav_lenS (by walk_at "sd"))) (opv_mod (by walk_at "sd"))) (opv_ixSD (by walk_at "sd") (by walk_at "sd")))) (by walk_at "sd")) (by walk_at "sd")) hin (fun v G2 H2 w r => k v G2 H2 w r)
-- ring_stretches
def m_ring_stretches (text_v : W) (length_v : Int) : (List W) := (List.map (fun at_v => (m_read_on (text_v) (at_v) (length_v))) (rng 0 ((List.length text_v : Int)).toNat))
def sp_ring_stretches (K : PySem.W.Frag) (ca : Str → Addr) : Sp := fun vs H Q E => ∃ (G : Hp) (text_v : W) (length_v : Int), In G H ∧ RpA K G vs [(dS text_v), (dI length_v)] ∧ (List.length text_v ≤ 10000) ∧ (0 ≤ length_v ∧ length_v ≤ 10000) ∧ Ret K G H Q ((dL dS) (m_ring_stretches text_v length_v))
theorem c_ring_stretches {K : PySem.W.Frag} {ca : Str → Addr} {E : XK} (text_v : W) (length_v : Int) (p0 : List.length text_v ≤ 10000) (p1 : 0 ≤ length_v ∧ length_v ≤ 10000) : SpV K (sp_ring_stretches K ca) E [(dS text_v), (dI length_v)] ((dL dS) (m_ring_stretches text_v length_v)) := fun G H vs hi pv Q q => ⟨G, text_v, length_v, hi, pv, p0, p1, q⟩
def t_ring_stretches (K : PySem.W.Frag) (ca : Str → Addr) (E : XK) : TS := (tRet ((tLc ((iRng1 ((tCons ((tCB (rLenU K) ((tCons ((tVar 0)) (tNil))))) (tNil))))) ((gName 2)) (tYes) ((tCall (sp_read_on K ca) [] E0 ((tCons ((tVar 0)) ((tCons ((tVar 2)) ((tCons ((tVar 1)) (tNil))))))))) [2])))
theorem pure_ring_stretches {K : PySem.W.Frag} {ca : Str → Addr} (vs : List V) (H : Hp) (Q : VK) (E : XK) (h : sp_ring_stretches K ca vs H Q E) : vs.length = 2 ∧ t_ring_stretches K ca E { nx := fun _ H2 => Q .non H2, rt := Q } (start ["text", "length", "at"] vs) H := by
  obtain ⟨G, text_v, length_v, hin, pv, p0, p1, k⟩ := h
  obtain ⟨v_text_v, w0, rfl, h_text_v, pv0⟩ := rpa_cons pv
  obtain ⟨v_length_v, w1, rfl, h_length_v, pv1⟩ := rpa_cons pv0
  obtain rfl := rpa_nil pv1
  refine ⟨rfl, ?_⟩
  unfold m_ring_stretches at k
  unfold t_ring_stretches
  exact s_ret (ev_lcM (DE := dS) (ei_rng1 (ea_cons (ev_cb (ea_cons (ev_var rfl h_text_v) ea_nil) (cav_lenS (by walk_at "sd"))) ea_nil) (by walk_at "sd") (by walk_at "sd")) (fun at_v z1 G1 x1 l1 h1 => (ev_call (ea_cons (ev_var rfl (Rp.mono l1 h_text_v)) (ea_cons (ev_var rfl h1) (ea_cons (ev_var rfl (Rp.mono l1 h_length_v)) ea_nil))) (c_read_on (text_v) (at_v) (length_v) (by walk_at "sd") (by walk_at "sd") (by walk_at "sd") (by walk_at "sd")))) (by walk_at "sd")) hin (fun v G2 H2 w r => k v G2 H2 w r)
-- root_of
def m_root_of (text_v : W) : (W × Int) := (match List.find? (fun length_v => ((decide ((Int.fmod (List.length text_v : Int) length_v) = (0 : Int))) && (decide ((List.replicate ((Int.fdiv (List.length text_v : Int) length_v)).toNat (cutL text_v none (some length_v))).flatten = text_v)))) (rng (1 : Int) ((List.length text_v : Int) - (1 : Int)).toNat) with | some length_v => ((cutL text_v none (some length_v)), (Int.fdiv (List.length text_v : Int) length_v)) | none => (text_v, (1 : Int)))
def sp_root_of (K : PySem.W.Frag) (ca : Str → Addr) : Sp := fun vs H Q E => ∃ (G : Hp) (text_v : W), In G H ∧ RpA K G vs [(dS text_v)] ∧ (List.length text_v ≤ 2000) ∧ Ret K G H Q ((dP dS dI) (m_root_of text_v))
theorem c_root_of {K : PySem.W.Frag} {ca : Str → Addr} {E : XK} (text_v : W) (p0 : List.length text_v ≤ 2000) : SpV K (sp_root_of K ca) E [(dS text_v)] ((dP dS dI) (m_root_of text_v)) := fun G H vs hi pv Q q => ⟨G, text_v, hi, pv, p0, q⟩
def t_root_of (K : PySem.W.Frag) (ca : Str → Addr) (E : XK) : TS := (tSeq ((tFor ((iRng2 ((tCons (tC (.int 1)) ((tCons ((tCB (rLenU K) ((tCons ((tVar 0)) (tNil))))) (tNil))))))) ((gName 1)) ((tIfS ((tAnd ((tTest (tOp (rEq) ((tOp (rI (fun _ j => j ≠ 0) fun i j => .int (i.fmod j)) ((tCB (rLenU K) ((tCons ((tVar 0)) (tNil))))) ((tVar 1)))) (tC (.int 0))))) ((tTest (tOp (rEq) ((tOp (rMulS) ((tSl (rSlS) ((tVar 0)) (tNoPart) ((tPart ((tVar 1)))))) ((tOp (rI CDivN fun i j => .int (i.fdiv j)) ((tCB (rLenU K) ((tCons ((tVar 0)) (tNil))))) ((tVar 1)))))) ((tVar 0))))))) ((tRet ((tTup ((tCons ((tSl (rSlS) ((tVar 0)) (tNoPart) ((tPart ((tVar 1)))))) ((tCons ((tOp (rI CDivN fun i j => .int (i.fdiv j)) ((tCB (rLenU K) ((tCons ((tVar 0)) (tNil))))) ((tVar 1)))) (tNil))))))))) (tNext))))) ((tRet ((tTup ((tCons ((tVar 0)) ((tCons (tC (.int 1)) (tNil))))))))))
theorem pure_root_of {K : PySem.W.Frag} {ca : Str → Addr} (vs : List V) (H : Hp) (Q : VK) (E : XK) (h : sp_root_of K ca vs H Q E) : vs.length = 1 ∧ t_root_of K ca E { nx := fun _ H2 => Q .non H2, rt := Q } (start ["text", "length"] vs) H := by
  obtain ⟨G, text_v, hin, pv, p0, k⟩ := h
  obtain ⟨v_text_v, w0, rfl, h_text_v, pv0⟩ := rpa_cons pv
  obtain rfl := rpa_nil pv0
  refine ⟨rfl, ?_⟩
  unfold m_root_of at k
  unfold t_root_of
  refine s_first (k := 1) (p := (fun length_v => ((decide ((Int.fmod (List.length text_v : Int) length_v) = (0 : Int))) && (decide ((List.replicate ((Int.fdiv (List.length text_v : Int) length_v)).toNat (cutL text_v none (some length_v))).flatten = text_v))))) (f := (fun length_v => ((dP dS dI) ((cutL text_v none (some length_v)), (Int.fdiv (List.length text_v : Int) length_v))))) (fun σ1 => ∃ y1_0, σ1 = (List.set (start ["text", "length"] [v_text_v]) 1 y1_0)) (ei_rng2 (ea_cons ev_int (ea_cons (ev_cb (ea_cons (ev_var rfl h_text_v) ea_nil) (cav_lenS (by walk_at "sd"))) ea_nil)) (by walk_at "sd") (by walk_at "sd") (by walk_at "sd") (by walk_at "sd")) hin ⟨_, rfl⟩ (fun length_v z1 σ1 G1 H1 x1 s1 u1 h1 D1 kr1 kn1 => ?_) (fun length_v f1 => ?_) (fun f1 σ1 G1 H1 s1 w1 => ?_)
  · obtain ⟨y1_0, rfl⟩ := s1
    exact s_if (et_and (et_test (ev_op (ev_op (ev_cb (ea_cons (ev_var rfl (Rp.mono u1.g h_text_v)) ea_nil) (cav_lenS (by walk_at "sd"))) (ev_var rfl h1) (opv_mod (by walk_at "sd"))) ev_int opv_eqI)) (fun g2 => (et_test (ev_op (ev_op (ev_slS (ev_var rfl (Rp.mono u1.g h_text_v)) eo_none (eo_some (ev_var rfl h1)) (by walk_at "sd")) (ev_op (ev_cb (ea_cons (ev_var rfl (Rp.mono u1.g h_text_v)) ea_nil) (cav_lenS (by walk_at "sd"))) (ev_var rfl h1) (opv_fdiv (by walk_at "sd"))) (opv_mulSI (by walk_at "sd") (by walk_at "sd"))) (ev_var rfl (Rp.mono u1.g h_text_v)) opv_eqS)))) u1.i (fun g3 G3 H3 u3 => s_ret (ev_tup (ea_cons (ev_slS (ev_var rfl (Rp.mono u3.g (Rp.mono u1.g h_text_v))) eo_none (eo_some (ev_var rfl (Rp.mono u3.g h1))) (by walk_at "sd")) (ea_cons (ev_op (ev_cb (ea_cons (ev_var rfl (Rp.mono u3.g (Rp.mono u1.g h_text_v))) ea_nil) (cav_lenS (by walk_at "sd"))) (ev_var rfl (Rp.mono u3.g h1)) (opv_fdiv (by walk_at "sd"))) ea_nil)) (by simp)) u3.i (fun v G2 H2 w r => kr1 g3 v G2 H2 (Up.trans u3 w) r)) (fun g3 G3 H3 u3 => kn1 g3 _ G3 H3 ⟨_, rfl⟩ u3)
  · rw [f1] at k
    exact k
  · rw [f1] at k
    obtain ⟨y1_0, rfl⟩ := s1
    exact s_ret (ev_tup (ea_cons (ev_var rfl (Rp.mono w1.g h_text_v)) (ea_cons ev_int ea_nil)) (by simp)) w1.i (fun v G2 H2 w r => k v G2 H2 (Up.trans w1 w) r)
-- root
def m_root (word_v : W) : (W × Int) := (m_root_of (word_v))
def sp_root (K : PySem.W.Frag) (ca : Str → Addr) : Sp := fun vs H Q E => ∃ (G : Hp) (word_v : W), In G H ∧ RpA K G vs [(dS word_v)] ∧ (wordB word_v = true) ∧ (List.length word_v ≤ 2000) ∧ Ret K G H Q ((dP dS dI) (m_root word_v))
theorem c_root {K : PySem.W.Frag} {ca : Str → Addr} {E : XK} (word_v : W) (p0 : wordB word_v = true) (p1 : List.length word_v ≤ 2000) : SpV K (sp_root K ca) E [(dS word_v)] ((dP dS dI) (m_root word_v)) := fun G H vs hi pv Q q => ⟨G, word_v, hi, pv, p0, p1, q⟩
def t_root (K : PySem.W.Frag) (ca : Str → Addr) (E : XK) : TS := (tSeq ((tDrop ((tCall (sp_need_word K ca) [] E ((tCons ((tVar 0)) (tNil))))))) ((tRet ((tCall (sp_root_of K ca) [] E ((tCons ((tVar 0)) (tNil))))))))
theorem pure_root {K : PySem.W.Frag} {ca : Str → Addr} (vs : List V) (H : Hp) (Q : VK) (E : XK) (h : sp_root K ca vs H Q E) : vs.length = 1 ∧ t_root K ca E { nx := fun _ H2 => Q .non H2, rt := Q } (start ["word"] vs) H := by
  obtain ⟨G, word_v, hin, pv, p0, p1, k⟩ := h
  obtain ⟨v_word_v, w0, rfl, h_word_v, pv0⟩ := rpa_cons pv
  obtain rfl := rpa_nil pv0
  refine ⟨rfl, ?_⟩
  unfold m_root at k
  unfold t_root
  refine s_drop (ev_call (ea_cons (ev_var rfl h_word_v) ea_nil) (c_need_word (word_v) (by walk_at "sd") (by walk_at "sd"))) hin fun v1 G1 H1 u1 r1 => ?_
  exact s_ret (ev_call (ea_cons (ev_var rfl (Rp.mono u1.g h_word_v)) ea_nil) (c_root_of (word_v) (by walk_at "sd"))) u1.i (fun v G2 H2 w r => k v G2 H2 (Up.trans u1 w) r)
-- ring_places
def m_ring_places (text_v : W) (piece_v : W) : (List Int) := (List.map (fun z1_v => z1_v.1) (List.filter (fun z1_v => (decide (z1_v.2 = piece_v))) (enumT (m_ring_stretches (text_v) ((List.length piece_v : Int))))))
def sp_ring_places (K : PySem.W.Frag) (ca : Str → Addr) : Sp := fun vs H Q E => ∃ (G : Hp) (text_v : W) (piece_v : W), In G H ∧ RpA K G vs [(dS text_v), (dS piece_v)] ∧ (List.length text_v ≤ 10000) ∧ (List.length piece_v ≤ 10000) ∧ Ret K G H Q ((dL dI) (m_ring_places text_v piece_v))
theorem c_ring_places {K : PySem.W.Frag} {ca : Str → Addr} {E : XK} (text_v : W) (piece_v : W) (p0 : List.length text_v ≤ 10000) (p1 : List.length piece_v ≤ 10000) : SpV K (sp_ring_places K ca) E [(dS text_v), (dS piece_v)] ((dL dI) (m_ring_places text_v piece_v)) := fun G H vs hi pv Q q => ⟨G, text_v, piece_v, hi, pv, p0, p1, q⟩
def t_ring_places (K : PySem.W.Frag) (ca : Str → Addr) (E : XK) : TS := (tRet ((tLc ((iEnum K ((tCons ((tCall (sp_ring_stretches K ca) [] E ((tCons ((tVar 0)) ((tCons ((tCB (rLenU K) ((tCons ((tVar 1)) (tNil))))) (tNil))))))) (tNil))))) ((gTup K 2 (gCons (gName 2) (gCons (gName 3) gNil)))) ((tTest (tOp (rEq) ((tVar 3)) ((tVar 1))))) ((tVar 2)) [2, 3])))
theorem pure_ring_places {K : PySem.W.Frag} {ca : Str → Addr} (vs : List V) (H : Hp) (Q : VK) (E : XK) (h : sp_ring_places K ca vs H Q E) : vs.length = 2 ∧ t_ring_places K ca E { nx := fun _ H2 => Q .non H2, rt := Q } (start ["text", "piece", "at", "stretch"] vs) H := by
  obtain ⟨G, text_v, piece_v, hin, pv, p0, p1, k⟩ := h
  obtain ⟨v_text_v, w0, rfl, h_text_v, pv0⟩ := rpa_cons pv
  obtain ⟨v_piece_v, w1, rfl, h_piece_v, pv1⟩ := rpa_cons pv0
  obtain rfl := rpa_nil pv1
  refine ⟨rfl, ?_⟩
  unfold m_ring_places at k
  unfold t_ring_places
  exact s_ret (ev_lcF2 (DE := dI) (by decide) (ei_enumT (ea_cons (ev_call (ea_cons (ev_var rfl h_text_v) (ea_cons (ev_cb (ea_cons (ev_var rfl h_piece_v) ea_nil) (cav_lenS (by first | walk_at "sd" | (simp only [enumT, m_ring_stretches, rng_len, List.length_map, List.length_zipIdx]; omega)))) ea_nil)) (c_ring_stretches (text_v) ((List.length piece_v : Int)) (by first | walk_at "sd" | (simp only [enumT, m_ring_stretches, rng_len, List.length_map, List.length_zipIdx]; omega)) (by first | walk_at "sd" | (simp only [enumT, m_ring_stretches, rng_len, List.length_map, List.length_zipIdx]; omega)))) ea_nil)) (fun z1_v z2 G2 x2 y2 l2 h2_1 h2_2 => (et_test (ev_op (ev_var rfl h2_2) (ev_var rfl (Rp.mono l2 h_piece_v)) opv_eqS))) (fun z1_v z2 p2 G2 x2 y2 l2 h2_1 h2_2 => (ev_var rfl h2_1)) (by first | walk_at "sd" | (simp only [enumT, m_ring_stretches, rng_len, List.length_map, List.length_zipIdx]; omega))) hin (fun v G2 H2 w r => k v G2 H2 w r)
end Z

namespace Z
open PySem PySem.Spec PyProof.Rows L2
abbrev kS (l : W) : Key := Sum.inr (S l)
def cntS (acc : List (Key × Int)) (x : W) : List (Key × Int) := putE acc (kS x) ((valK acc (kS x)).getD 0 + 1)
def cntE (xs : List W) : List (Key × Int) := xs.foldl cntS []
def m_counted (some_v : List W) : List (Key × Int) := mrgE ((sortKs (cntE some_v)).map fun one_v => (kS one_v, (valK (cntE some_v) (kS one_v)).getD 0))
theorem putE_keys {α : Type} (es : List (Key × α)) (k : Key) (v : α) {e : Key × α} (h : e ∈ putE es k v) : e.1 = k ∨ ∃ v', (e.1, v') ∈ es := by
  unfold putE at h
  split at h
  · obtain ⟨x, hx, rfl⟩ := List.mem_map.mp h
    by_cases hk : x.1 = k
    · left; simp [hk]
    · right; rw [if_neg hk]; exact ⟨x.2, hx⟩
  · rcases List.mem_append.mp h with h | h
    · exact .inr ⟨e.2, h⟩
    · simp at h; subst h; exact .inl rfl
theorem strKs_put {α : Type} {es : List (Key × α)} (h : strKs es) (l : W) (v : α) : strKs (putE es (kS l) v) := fun e he => by
  rcases putE_keys es (kS l) v he with q | ⟨v', q⟩
  · exact ⟨l, q⟩
  · exact h (e.1, v') q
theorem strKs_cnt : ∀ (xs : List W) (acc : List (Key × Int)), strKs acc → strKs (xs.foldl cntS acc)
  | [], _, h => h
  | x :: xs, acc, h => strKs_cnt xs _ (strKs_put h x _)
theorem cnt_len : ∀ (xs : List W) (acc : List (Key × Int)), (xs.foldl cntS acc).length ≤ acc.length + xs.length
  | [], acc => by simp
  | x :: xs, acc => by
    rw [List.foldl_cons]
    have h1 := cnt_len xs (cntS acc x)
    have h2 : (cntS acc x).length ≤ acc.length + 1 := putE_len _ _ _
    rw [List.length_cons]
    omega
theorem cnt_take (xs : List W) {i : Nat} {z : W} (h : xs[i]? = some z) : cntE (xs.take (i + 1)) = cntS (cntE (xs.take i)) z := by
  have hlt := (List.getElem?_eq_some_iff.mp h).1
  have ez := (List.getElem?_eq_some_iff.mp h).2
  unfold cntE
  rw [List.take_succ_eq_append_getElem hlt, List.foldl_append, ez]
  rfl
theorem put_map {α β : Type} (f : α → β) (es : List (Key × α)) (k : Key) (v : α) : (putE es k v).map (fun e => (e.1, f e.2)) = putE (es.map fun e => (e.1, f e.2)) k (f v) := by
  have := mrg_map f [(k, v)] es
  simpa using this
theorem valK_keys {α : Type} {es : List (Key × α)} {k : Key} (h : k ∈ es.map (·.1)) : (valK es k).isSome = true := by
  obtain ⟨e, he, rfl⟩ := List.mem_map.mp h
  unfold valK
  cases hf : es.find? (fun x => decide (x.1 = e.1)) with
  | none =>
    have := List.find?_eq_none.mp hf e he
    simp at this
  | some x => rfl
theorem sortKs_mem {α : Type} {es : List (Key × α)} (hs : strKs es) {l : W} (h : l ∈ sortKs es) : kS l ∈ es.map (·.1) := by
  have h2 : l ∈ es.map fun e => keyW e.1 := (List.mergeSort_perm _ _).mem_iff.mp h
  obtain ⟨e, he, rfl⟩ := List.mem_map.mp h2
  obtain ⟨m, hm⟩ := hs e he
  refine List.mem_map.mpr ⟨e, he, ?_⟩
  rw [hm]
  show _ = Sum.inr (S (S m).cps.toList)
  rw [S_cps]
def sp_counted (K : PySem.W.Frag) (ca : Str → Addr) : Sp := fun vs H Q E => ∃ (G : Hp) (some_v : List W), In G H ∧ RpA K G vs [dL dS some_v] ∧ some_v.length < 64 ∧ Ret K G H Q (dM dI (m_counted some_v))
theorem c_counted {K : PySem.W.Frag} {ca : Str → Addr} {E : XK} (some_v : List W) (h : some_v.length < 64) : SpV K (sp_counted K ca) E [dL dS some_v] (dM dI (m_counted some_v)) := fun G H vs hi pv Q q => ⟨G, some_v, hi, pv, h, q⟩
def t_counted (K : PySem.W.Frag) (ca : Str → Addr) (E : XK) : TS := (tSeq ((tAsg (tDNewK) (gName 1))) ((tSeq ((tFor ((iList K ((tVar 0)))) ((gName 2)) ((sDPut ((tVar 1)) ((tVar 2)) ((tOp (rI0 fun i j => .int (i + j)) ((tDGet2 ((tVar 1)) ((tVar 2)) (tC (.int 0)))) (tC (.int 1)))))))) ((tRet ((tDc ((iList K ((tCB (rSortDk) ((tCons ((tVar 1)) (tNil))))))) ((gName 2)) (tYes) ((tVar 2)) ((tDGet ((tVar 1)) ((tVar 2)))) [2])))))))
theorem pure_counted {K : PySem.W.Frag} {ca : Str → Addr} (vs : List V) (H : Hp) (Q : VK) (E : XK) (h : sp_counted K ca vs H Q E) : vs.length = 1 ∧ t_counted K ca E { nx := fun _ H2 => Q .non H2, rt := Q } (start ["some", "found", "one"] vs) H := by
  obtain ⟨G, xs, hin, pv, hl, k⟩ := h
  obtain ⟨v, ws, rfl, h0, pv⟩ := rpa_cons pv
  obtain rfl := rpa_nil pv
  refine ⟨rfl, ?_⟩
  intro m hm
  have i1 : In G (upd H m (.dK [])) := (Up.hid (o := .dK []) hin hm).i
  have gm : G m = none := hin.no hm
  refine s_dict (m := m) (xs := xs) (DD := dS) (f := fun i => (cntE (xs.take i)).map fun e => (e.1, dI e.2)) (Sl := fun σ1 => ∃ v2, σ1 = [some v, some (.ref m), v2]) (ei_list (ev_var rfl h0)) i1 gm ⟨_, rfl⟩ ⟨[], upd_same, .nil⟩ ?_ ?_
  · rintro i z hz σ1 G1 H1 x kvs ⟨v2, rfl⟩ j1 l1 n1 e1 r1 px D2 kk
    obtain rfl := rp_str px
    have rv := r1.val (k := kS z)
    -- found[one] = found.get(one, 0) + 1
    refine ⟨.ref m, rfl, m, rfl, .inl ⟨kvs, .inl e1⟩, .str (S z), rfl, valV kvs (kS z), .inl ⟨kvs, kS z, .inl e1, rfl, rfl⟩, ?_⟩
    have key : ∃ n, (valV kvs (kS z)).getD (.int 0) = .int n ∧ n = (valK (cntE (xs.take i)) (kS z)).getD 0 := by
      rcases rv with ⟨z1, z2⟩ | ⟨w, d, z1, z2, z3⟩
      · rw [valK_map] at z2
        refine ⟨0, by rw [z1]; rfl, ?_⟩
        cases hq : valK (cntE (xs.take i)) (kS z) with
        | none => rfl
        | some n => rw [hq] at z2; cases z2
      · rw [valK_map] at z2
        cases hq : valK (cntE (xs.take i)) (kS z) with
        | none => rw [hq] at z2; cases z2
        | some n =>
          rw [hq] at z2
          cases z2
          exact ⟨n, by rw [z1]; exact rp_int z3, rfl⟩
    obtain ⟨n, en, en2⟩ := key
    refine ⟨n, 1, en, rfl, .ref m, rfl, .str (S z), rfl, m, upd H1 m (.dK (putK kvs (kS z) (.int (n + 1)))), rfl, .inl ⟨kvs, kS z, e1, rfl, ?_, rfl⟩, ?_⟩
    · rw [r1.len, List.length_map]
      have h1 := cnt_len (xs.take i) []
      have h2 : (xs.take i).length ≤ xs.length := by rw [List.length_take]; omega
      have h3 : (cntE (xs.take i)).length ≤ 64 := by
        unfold cntE
        simp only [List.length_nil, Nat.zero_add] at h1
        omega
      exact Nat.lt_of_le_of_lt h3 (by decide)
    · refine kk _ G1 _ _ ⟨_, rfl⟩ (j1.mut n1) (Le.refl _) n1 (fun a ha o e => by rw [upd_ne ha]; exact e) (fun a o e => .inl e) upd_same ?_
      rw [cnt_take xs hz]
      unfold cntS
      rw [put_map, ← en2]
      exact r1.put (.int _)
  · rintro σ2 G2 H2 kvs2 ⟨v2, rfl⟩ j2 l2 n2 k2 w2 e2 r2
    -- the dict is shown now
    have l3 : Le G2 (upd G2 m (.dK kvs2)) := fun a o e => by
      have ne : a ≠ m := fun z => by subst z; rw [n2] at e; cases e
      rw [upd_ne ne]; exact e
    have i3 : In (upd G2 m (.dK kvs2)) H2 := fun a o e => by
      by_cases ha : a = m
      · subst ha; rw [upd_same] at e; cases e; exact .inl e2
      · rw [upd_ne ha] at e; exact j2 a o e
    rw [List.take_length] at r2
    have hd : Rp K (upd G2 m (.dK kvs2)) (.ref m) (dM dI (cntE xs)) := .dic upd_same (rpe_to (r2.mono l3))
    have hks : strKs (cntE xs) := strKs_cnt xs [] (fun e he => by cases he)
    have hlen : (cntE xs).length < 64 := by
      have := cnt_len xs []
      unfold cntE
      simp only [List.length_nil, Nat.zero_add] at this
      omega
    refine s_ret (ev_dcM (k := 2) (DE := dI) (D := dS) (xs := sortKs (cntE xs)) (κ := fun l => kS l) (M := fun l => (valK (cntE xs) (kS l)).getD 0) (ei_list (ev_cb (ea_cons (ev_var rfl hd) ea_nil) (cav_sortKs ⟨hks, hlen⟩))) (fun z _ G1 x l hx => ev_var rfl hx) (fun z hz G1 x l hx => ev_dgetS (ev_var rfl (hd.mono l)) (ev_var rfl hx) (valK_keys (sortKs_mem hks hz))) ?_) i3 fun r G4 H4 u4 p4 => k r G4 H4 ⟨?_, u4.i, ?_, ?_⟩ p4
    · unfold sortKs sortW
      rw [List.length_mergeSort, List.length_map]
      omega
    · exact l2.trans (l3.trans u4.g)
    · intro a o e
      have ne : a ≠ m := fun z => by subst z; rw [hm] at e; cases e
      exact u4.h a o (k2 a ne o (by rw [upd_ne ne]; exact e))
    · intro a o e
      rcases u4.n a o e with q | q
      · by_cases ha : a = m
        · subst ha; exact .inr hm
        · rw [upd_ne ha] at q
          rcases w2 a o q with z | z
          · exact .inl z
          · rw [upd_ne ha] at z; exact .inr z
      · refine .inr ?_
        cases hh : H a with
        | none => rfl
        | some o' =>
          have ne : a ≠ m := fun z => by subst z; rw [hm] at hh; cases hh
          rw [k2 a ne o' (by rw [upd_ne ne]; exact hh)] at q
          cases q
theorem strKs_fold {α : Type} : ∀ (es acc : List (Key × α)), strKs acc → strKs es → strKs (es.foldl (fun acc e => putE acc e.1 e.2) acc)
  | [], _, h, _ => h
  | e :: es, acc, h, h2 => by
    rw [List.foldl_cons]
    refine strKs_fold es _ ?_ (fun x hx => h2 x (List.mem_cons_of_mem _ hx))
    obtain ⟨l, hl⟩ := h2 e List.mem_cons_self
    rw [hl]
    exact strKs_put h l _
theorem strKs_mrg {α β : Type} (xs : List β) (κ : β → W) (f : β → α) : strKs (mrgE (xs.map fun z => ((Sum.inr (S (κ z)) : Key), f z))) :=
  strKs_fold _ [] (fun e he => by cases he) fun e he => by
    obtain ⟨z, _, rfl⟩ := List.mem_map.mp he
    exact ⟨κ z, rfl⟩
theorem mrg_lt {α β : Type} {xs : List β} {f : β → Key × α} {n : Nat} (h : xs.length < n) : (mrgE (xs.map f)).length < n := by
  have := mrg_len (xs.map f) []
  rw [List.length_map] at this
  unfold mrgE
  simp only [List.length_nil, Nat.zero_add] at this
  omega
def m_is_ring : PyData → Bool
  | .str s => wordB s.cps.toList && decide (m_least_turn s.cps.toList = s.cps.toList)
  | _ => false
def okR : PyData → Prop
  | .str s => s.cps.toList.length ≤ 10000
  | _ => True
def sp_is_ring (K : PySem.W.Frag) (ca : Str → Addr) : Sp := fun vs H Q E => ∃ (G : Hp) (d : PyData), In G H ∧ RpA K G vs [d] ∧ okR d ∧ Ret K G H Q (.bool (m_is_ring d))
def sp_need_ring (K : PySem.W.Frag) (ca : Str → Addr) : Sp := fun vs H Q E => ∃ (G : Hp) (d : PyData), In G H ∧ RpA K G vs [d] ∧ okR d ∧ (m_is_ring d = true → Ret K G H Q .none) ∧ (m_is_ring d = false → Rse G H E (ca "BadRing"))
theorem c_is_ring' {K : PySem.W.Frag} {ca : Str → Addr} {E : XK} (d : PyData) (h : okR d) : SpV K (sp_is_ring K ca) E [d] (.bool (m_is_ring d)) := fun G H vs hi pv Q q => ⟨G, d, hi, pv, h, q⟩
def m_is_ringW (l : W) : Bool := wordB l && decide (m_least_turn l = l)
theorem c_is_ring {K : PySem.W.Frag} {ca : Str → Addr} {E : XK} (l : W) (h : List.length l ≤ 10000) : SpV K (sp_is_ring K ca) E [dS l] (dB (m_is_ringW l)) := by
  have := c_is_ring' (K := K) (ca := ca) (E := E) (dS l) (by show (S l).cps.toList.length ≤ 10000; rw [S_cps]; exact h)
  have e : m_is_ring (dS l) = m_is_ringW l := by
    show (wordB (S l).cps.toList && decide (m_least_turn (S l).cps.toList = (S l).cps.toList)) = _
    rw [S_cps]
    rfl
  rw [e] at this
  exact this
theorem c_need_ring {K : PySem.W.Frag} {ca : Str → Addr} {E : XK} (l : W) (h : wordB l = true) (hl : List.length l ≤ 10000) (hr : m_least_turn l = l) : SpV K (sp_need_ring K ca) E [dS l] .none := fun G H vs hi pv Q q => by
  have e : m_is_ring (dS l) = true := by
    show (wordB (S l).cps.toList && decide (m_least_turn (S l).cps.toList = (S l).cps.toList)) = true
    rw [S_cps, h, hr]
    simp
  exact ⟨G, dS l, hi, pv, by show (S l).cps.toList.length ≤ 10000; rw [S_cps]; exact hl, fun _ => q, fun e' => by rw [e] at e'; cases e'⟩
def t_is_ring (K : PySem.W.Frag) (ca : Str → Addr) (E : XK) : TS := (tRet ((tAndV ((tCall (sp_is_word K ca) [] E ((tCons ((tVar 0)) (tNil))))) ((tOp (rEq) ((tCall (sp_least_turn K ca) [] E ((tCons ((tVar 0)) (tNil))))) ((tVar 0)))))))
def t_need_ring (K : PySem.W.Frag) (ca : Str → Addr) (E : XK) : TS := (tIfS ((tNot ((tB ((tCall (sp_is_ring K ca) [] E ((tCons ((tVar 0)) (tNil))))))))) ((tRaise (fun cls d _ H => E cls d H) (fun _ H Q => Q (.ref (ca "BadRing")) none H))) (tNext))
theorem pure_is_ring {K : PySem.W.Frag} {ca : Str → Addr} (vs : List V) (H : Hp) (Q : VK) (E : XK) (h : sp_is_ring K ca vs H Q E) : vs.length = 1 ∧ t_is_ring K ca E { nx := fun _ H2 => Q .non H2, rt := Q } (start ["value"] vs) H := by
  obtain ⟨G, d, hin, pv, hd, k⟩ := h
  obtain ⟨v, ws, rfl, h0, pv⟩ := rpa_cons pv
  obtain rfl := rpa_nil pv
  refine ⟨rfl, ?_⟩
  have hd2 : okD d := by
    cases d with
    | str s => have : s.cps.toList.length ≤ 10000 := hd; show s.cps.toList.length ≤ 100000; omega
    | _ => trivial
  refine s_ret (ev_and (ev_call (ea_cons (ev_var rfl h0) ea_nil) (c_is_word d hd2)) (b := .bool (m_is_ring d)) (fun e => ?_) (fun e => ?_)) hin k
  · cases d with
    | str s =>
      have hs : s.cps.toList.length ≤ 10000 := hd
      have e' : wordB s.cps.toList = true := e
      have h0' : Rp K G v (dS s.cps.toList) := by rw [dS, S_eta]; exact h0
      have := ev_op (ev_call (sp := sp_least_turn K ca) (E := E) (ea_cons (ev_var (i := 0) (σ := start ["value"] [v]) rfl h0') ea_nil) (c_least_turn s.cps.toList hs (word_ne e'))) (ev_var (i := 0) (σ := start ["value"] [v]) rfl h0') opv_eqS
      have e2 : decide (m_least_turn s.cps.toList = s.cps.toList) = m_is_ring (.str s) := by
        show _ = (wordB s.cps.toList && _)
        rw [e', Bool.true_and]
      rw [e2] at this
      exact this
    | _ => cases e
  · cases d with
    | str s =>
      have e' : wordB s.cps.toList = false := e
      show PyData.bool (wordB s.cps.toList && _) = _
      rw [e', Bool.false_and]
    | _ => rfl
theorem pure_need_ring {K : PySem.W.Frag} {ca : Str → Addr} (vs : List V) (H : Hp) (Q : VK) (E : XK) (h : sp_need_ring K ca vs H Q E) : vs.length = 1 ∧ t_need_ring K ca E { nx := fun _ H2 => Q .non H2, rt := Q } (start ["ring"] vs) H := by
  obtain ⟨G, d, hin, pv, hd, k1, k2⟩ := h
  obtain ⟨v, ws, rfl, h0, pv⟩ := rpa_cons pv
  obtain rfl := rpa_nil pv
  refine ⟨rfl, ?_⟩
  refine s_if (et_not (et_B (ev_call (ea_cons (ev_var rfl h0) ea_nil) (c_is_ring' d hd)))) hin (fun e G2 H2 u => ?_) (fun e G2 H2 u => ?_)
  · exact k2 (by simpa using e) G2 H2 u
  · exact k1 (by simpa using e) .non G2 H2 u .non
end Z

namespace Z
open PySem PySem.Spec PyProof.Rows L2
theorem rngD_mem {a lo hi : Int} (h : a ∈ rngD lo hi) : a ≤ lo ∧ hi < a := by
  unfold rngD at h
  obtain ⟨i, hi2, e⟩ := List.mem_map.mp h
  have := List.mem_range.mp hi2
  omega
theorem lc_side {l : W} {n : Int} {lo : Int} {p : W → Bool} (hl : List.length l ≤ 60) (hz : n ∈ rngD lo 0) : strKs (mrgE (List.map (fun piece_v => ((Sum.inr (S piece_v) : Key), true)) (List.filter p (m_stretches l n)))) ∧ (mrgE (List.map (fun piece_v => ((Sum.inr (S piece_v) : Key), true)) (List.filter p (m_stretches l n)))).length < 64 := by
  refine ⟨strKs_mrg _ (fun z => z) (fun _ => true), mrg_lt ?_⟩
  have h1 := List.length_filter_le p (m_stretches l n)
  have h2 : (m_stretches l n).length ≤ 60 := by
    have := rngD_mem hz
    simp only [m_stretches, rng_len, List.length_map]
    omega
  omega
local macro_rules | `(tactic| walk_at "sd") => `(tactic| (first | assumption | omega | (simp only [rng_len, List.length_map]; omega) | (exact Nat.le_trans (cutL_le _ _ _) (by omega)) | (exact Nat.le_trans (Nat.add_le_add (cutL_le _ _ _) (cutL_le _ _ _)) (by omega)) | (exact len_ne (by assumption)) | (exact atI_mod (by assumption)) | (exact trivial) | (have hm := rng_mem (by assumption); omega) | (have hm := rng_mem (by assumption); refine ⟨by omega, by omega⟩) | (have hm := rng_mem (by assumption); exact fdiv_bd (by omega) (by omega)) | (have hm := rng_mem (by assumption); exact fdiv_mul (by omega) (by omega)) | (exact word_ne (by assumption)) | (exact map_rng_ne (by assumption)) | (exact (rng_mem (by assumption)).1) | (exact ne_of_rng (by assumption))))

-- pieces
def m_pieces (word_v : W) (length_v : Int) : (List (Key × Int)) := (m_counted ((m_stretches (word_v) (length_v))))
def sp_pieces (K : PySem.W.Frag) (ca : Str → Addr) : Sp := fun vs H Q E => ∃ (G : Hp) (word_v : W) (length_v : Int), In G H ∧ RpA K G vs [(dS word_v), (dI length_v)] ∧ (wordB word_v = true) ∧ (List.length word_v ≤ 60) ∧ (1 ≤ length_v ∧ length_v ≤ 120) ∧ Ret K G H Q ((dM dI) (m_pieces word_v length_v))
theorem c_pieces {K : PySem.W.Frag} {ca : Str → Addr} {E : XK} (word_v : W) (length_v : Int) (p0 : wordB word_v = true) (p1 : List.length word_v ≤ 60) (p2 : 1 ≤ length_v ∧ length_v ≤ 120) : SpV K (sp_pieces K ca) E [(dS word_v), (dI length_v)] ((dM dI) (m_pieces word_v length_v)) := fun G H vs hi pv Q q => ⟨G, word_v, length_v, hi, pv, p0, p1, p2, q⟩
def t_pieces (K : PySem.W.Frag) (ca : Str → Addr) (E : XK) : TS := (tSeq ((tDrop ((tCall (sp_need_word K ca) [] E ((tCons ((tVar 0)) (tNil))))))) ((tSeq ((tDrop ((tCall (sp_need_length K ca) [] E ((tCons ((tVar 1)) (tNil))))))) ((tRet ((tCall (sp_counted K ca) [] E ((tCons ((tCall (sp_stretches K ca) [] E ((tCons ((tVar 0)) ((tCons ((tVar 1)) (tNil))))))) (tNil))))))))))
theorem pure_pieces {K : PySem.W.Frag} {ca : Str → Addr} (vs : List V) (H : Hp) (Q : VK) (E : XK) (h : sp_pieces K ca vs H Q E) : vs.length = 2 ∧ t_pieces K ca E { nx := fun _ H2 => Q .non H2, rt := Q } (start ["word", "length"] vs) H := by
  obtain ⟨G, word_v, length_v, hin, pv, p0, p1, p2, k⟩ := h
  obtain ⟨v_word_v, w0, rfl, h_word_v, pv0⟩ := rpa_cons pv
  obtain ⟨v_length_v, w1, rfl, h_length_v, pv1⟩ := rpa_cons pv0
  obtain rfl := rpa_nil pv1
  refine ⟨rfl, ?_⟩
  unfold m_pieces at k
  unfold t_pieces
  refine s_drop (ev_call (ea_cons (ev_var rfl h_word_v) ea_nil) (c_need_word (word_v) (by first | walk_at "sd" | (simp only [m_stretches, rng_len, List.length_map]; omega)) (by first | walk_at "sd" | (simp only [m_stretches, rng_len, List.length_map]; omega)))) hin fun v1 G1 H1 u1 r1 => ?_
  refine s_drop (ev_call (ea_cons (ev_var rfl (Rp.mono u1.g h_length_v)) ea_nil) (c_need_length (length_v) (by first | walk_at "sd" | (simp only [m_stretches, rng_len, List.length_map]; omega)))) u1.i fun v2 G2 H2 u2 r2 => ?_
  exact s_ret (ev_call (ea_cons (ev_call (ea_cons (ev_var rfl (Rp.mono u2.g (Rp.mono u1.g h_word_v))) (ea_cons (ev_var rfl (Rp.mono u2.g (Rp.mono u1.g h_length_v))) ea_nil)) (c_stretches (word_v) (length_v) (by first | walk_at "sd" | (simp only [m_stretches, rng_len, List.length_map]; omega)) (by first | walk_at "sd" | (simp only [m_stretches, rng_len, List.length_map]; omega)))) ea_nil) (c_counted ((m_stretches (word_v) (length_v))) (by first | walk_at "sd" | (simp only [m_stretches, rng_len, List.length_map]; omega)))) u2.i (fun v G2 H2 w r => k v G2 H2 (Up.trans (Up.trans u1 u2) w) r)
-- longest_common
def m_longest_common (one_v : W) (other_v : W) : (List W) := (match List.find? (fun length_v => (decide ((0 : Int) < (List.length (mrgE (List.map (fun piece_v => (((Sum.inr (S piece_v)) : Key), true)) (List.filter (fun piece_v => (valK (mrgE (List.map (fun piece_v => (((Sum.inr (S piece_v)) : Key), true)) (m_stretches (other_v) (length_v)))) (Sum.inr (S piece_v))).isSome) (m_stretches (one_v) (length_v))))) : Int)))) (rngD (min (List.length one_v : Int) (List.length other_v : Int)) (0 : Int)) with | some length_v => (sortKs (mrgE (List.map (fun piece_v => (((Sum.inr (S piece_v)) : Key), true)) (List.filter (fun piece_v => (valK (mrgE (List.map (fun piece_v => (((Sum.inr (S piece_v)) : Key), true)) (m_stretches (other_v) (length_v)))) (Sum.inr (S piece_v))).isSome) (m_stretches (one_v) (length_v)))))) | none => ([] : List W))
def sp_longest_common (K : PySem.W.Frag) (ca : Str → Addr) : Sp := fun vs H Q E => ∃ (G : Hp) (one_v : W) (other_v : W), In G H ∧ RpA K G vs [(dS one_v), (dS other_v)] ∧ (wordB one_v = true) ∧ (List.length one_v ≤ 60) ∧ (wordB other_v = true) ∧ (List.length other_v ≤ 60) ∧ Ret K G H Q ((dL dS) (m_longest_common one_v other_v))
theorem c_longest_common {K : PySem.W.Frag} {ca : Str → Addr} {E : XK} (one_v : W) (other_v : W) (p0 : wordB one_v = true) (p1 : List.length one_v ≤ 60) (p2 : wordB other_v = true) (p3 : List.length other_v ≤ 60) : SpV K (sp_longest_common K ca) E [(dS one_v), (dS other_v)] ((dL dS) (m_longest_common one_v other_v)) := fun G H vs hi pv Q q => ⟨G, one_v, other_v, hi, pv, p0, p1, p2, p3, q⟩
def t_longest_common (K : PySem.W.Frag) (ca : Str → Addr) (E : XK) : TS := (tSeq ((tDrop ((tCall (sp_need_word K ca) [] E ((tCons ((tVar 0)) (tNil))))))) ((tSeq ((tDrop ((tCall (sp_need_word K ca) [] E ((tCons ((tVar 1)) (tNil))))))) ((tSeq ((tFor ((iRng3 ((tCons ((tCB (rMin2) ((tCons ((tCB (rLenU K) ((tCons ((tVar 0)) (tNil))))) ((tCons ((tCB (rLenU K) ((tCons ((tVar 1)) (tNil))))) (tNil))))))) ((tCons (tC (.int 0)) ((tCons ((tUn (rU fun i => .int (-i)) (tC (.int 1)))) (tNil))))))))) ((gName 2)) ((tSeq ((tAsg ((tDc ((iList K ((tCall (sp_stretches K ca) [] E ((tCons ((tVar 1)) ((tCons ((tVar 2)) (tNil))))))))) ((gName 5)) (tYes) ((tVar 5)) (tC (.bl true)) [5])) (gName 3))) ((tSeq ((tAsg (tDc ((iList K ((tCall (sp_stretches K ca) [] E ((tCons ((tVar 0)) ((tCons ((tVar 2)) (tNil))))))))) ((gName 5)) ((tB (tDIn ((tVar 5)) ((tVar 3))))) ((tVar 5)) (tC (.bl true)) [5]) (gName 4))) ((tIfS ((tTest (tOp (rI0 fun i j => .bl (decide (j < i))) ((tCB (rLenDc) ((tCons ((tVar 4)) (tNil))))) (tC (.int 0))))) ((tRet ((tCB (rSortDk) ((tCons ((tVar 4)) (tNil))))))) (tNext))))))))) ((tRet ((tLst (tNil))))))))))
theorem pure_longest_common {K : PySem.W.Frag} {ca : Str → Addr} (vs : List V) (H : Hp) (Q : VK) (E : XK) (h : sp_longest_common K ca vs H Q E) : vs.length = 2 ∧ t_longest_common K ca E { nx := fun _ H2 => Q .non H2, rt := Q } (start ["one", "other", "length", "known", "found", "piece"] vs) H := by
  obtain ⟨G, one_v, other_v, hin, pv, p0, p1, p2, p3, k⟩ := h
  obtain ⟨v_one_v, w0, rfl, h_one_v, pv0⟩ := rpa_cons pv
  obtain ⟨v_other_v, w1, rfl, h_other_v, pv1⟩ := rpa_cons pv0
  obtain rfl := rpa_nil pv1
  refine ⟨rfl, ?_⟩
  unfold m_longest_common at k
  unfold t_longest_common
  refine s_drop (ev_call (ea_cons (ev_var rfl h_one_v) ea_nil) (c_need_word (one_v) (by first | walk_at "sd" | (have hm := rngD_mem (by assumption); omega) | (have hm := rngD_mem (by assumption); simp only [m_stretches, rng_len, List.length_map]; omega) | (simp only [m_stretches, rng_len, List.length_map]; omega) | exact lc_side (by omega) (by assumption)) (by first | walk_at "sd" | (have hm := rngD_mem (by assumption); omega) | (have hm := rngD_mem (by assumption); simp only [m_stretches, rng_len, List.length_map]; omega) | (simp only [m_stretches, rng_len, List.length_map]; omega) | exact lc_side (by omega) (by assumption)))) hin fun v1 G1 H1 u1 r1 => ?_
  refine s_drop (ev_call (ea_cons (ev_var rfl (Rp.mono u1.g h_other_v)) ea_nil) (c_need_word (other_v) (by first | walk_at "sd" | (have hm := rngD_mem (by assumption); omega) | (have hm := rngD_mem (by assumption); simp only [m_stretches, rng_len, List.length_map]; omega) | (simp only [m_stretches, rng_len, List.length_map]; omega) | exact lc_side (by omega) (by assumption)) (by first | walk_at "sd" | (have hm := rngD_mem (by assumption); omega) | (have hm := rngD_mem (by assumption); simp only [m_stretches, rng_len, List.length_map]; omega) | (simp only [m_stretches, rng_len, List.length_map]; omega) | exact lc_side (by omega) (by assumption)))) u1.i fun v2 G2 H2 u2 r2 => ?_
  refine s_first (k := 2) (p := (fun length_v => (decide ((0 : Int) < (List.length (mrgE (List.map (fun piece_v => (((Sum.inr (S piece_v)) : Key), true)) (List.filter (fun piece_v => (valK (mrgE (List.map (fun piece_v => (((Sum.inr (S piece_v)) : Key), true)) (m_stretches (other_v) (length_v)))) (Sum.inr (S piece_v))).isSome) (m_stretches (one_v) (length_v))))) : Int))))) (f := (fun length_v => ((dL dS) (sortKs (mrgE (List.map (fun piece_v => (((Sum.inr (S piece_v)) : Key), true)) (List.filter (fun piece_v => (valK (mrgE (List.map (fun piece_v => (((Sum.inr (S piece_v)) : Key), true)) (m_stretches (other_v) (length_v)))) (Sum.inr (S piece_v))).isSome) (m_stretches (one_v) (length_v))))))))) (fun σ1 => ∃ y3_0 y3_1 y3_2, σ1 = (List.set (List.set (List.set (start ["one", "other", "length", "known", "found", "piece"] [v_one_v, v_other_v]) 2 y3_0) 3 y3_1) 4 y3_2)) (ei_rng3 (ea_cons (ev_cb (ea_cons (ev_cb (ea_cons (ev_var rfl (Rp.mono u2.g (Rp.mono u1.g h_one_v))) ea_nil) (cav_lenS (by first | walk_at "sd" | (have hm := rngD_mem (by assumption); omega) | (have hm := rngD_mem (by assumption); simp only [m_stretches, rng_len, List.length_map]; omega) | (simp only [m_stretches, rng_len, List.length_map]; omega) | exact lc_side (by omega) (by assumption)))) (ea_cons (ev_cb (ea_cons (ev_var rfl (Rp.mono u2.g (Rp.mono u1.g h_other_v))) ea_nil) (cav_lenS (by first | walk_at "sd" | (have hm := rngD_mem (by assumption); omega) | (have hm := rngD_mem (by assumption); simp only [m_stretches, rng_len, List.length_map]; omega) | (simp only [m_stretches, rng_len, List.length_map]; omega) | exact lc_side (by omega) (by assumption)))) ea_nil)) cav_min2) (ea_cons ev_int (ea_cons (ev_un ev_int unv_neg) ea_nil))) (by first | walk_at "sd" | (have hm := rngD_mem (by assumption); omega) | (have hm := rngD_mem (by assumption); simp only [m_stretches, rng_len, List.length_map]; omega) | (simp only [m_stretches, rng_len, List.length_map]; omega) | exact lc_side (by omega) (by assumption))) u2.i ⟨_, _, _, rfl⟩ (fun length_v z3 σ3 G3 H3 x3 s3 u3 h3 D3 kr3 kn3 => ?_) (fun length_v f3 => ?_) (fun f3 σ3 G3 H3 s3 w3 => ?_)
  · obtain ⟨y3_0, y3_1, y3_2, rfl⟩ := s3
    refine s_set (ev_dcM (κ := fun piece_v => ((Sum.inr (S piece_v)) : Key)) (DE := dB) (ei_list (ev_call (ea_cons (ev_var rfl (Rp.mono u3.g (Rp.mono u2.g (Rp.mono u1.g h_other_v)))) (ea_cons (ev_var rfl h3) ea_nil)) (c_stretches (other_v) (length_v) (by first | walk_at "sd" | (have hm := rngD_mem (by assumption); omega) | (have hm := rngD_mem (by assumption); simp only [m_stretches, rng_len, List.length_map]; omega) | (simp only [m_stretches, rng_len, List.length_map]; omega) | exact lc_side (by omega) (by assumption)) (by first | walk_at "sd" | (have hm := rngD_mem (by assumption); omega) | (have hm := rngD_mem (by assumption); simp only [m_stretches, rng_len, List.length_map]; omega) | (simp only [m_stretches, rng_len, List.length_map]; omega) | exact lc_side (by omega) (by assumption))))) (fun piece_v z4 G4 x4 l4 h4 => (ev_var rfl h4)) (fun piece_v z4 G4 x4 l4 h4 => ev_bl) (by first | walk_at "sd" | (have hm := rngD_mem (by assumption); omega) | (have hm := rngD_mem (by assumption); simp only [m_stretches, rng_len, List.length_map]; omega) | (simp only [m_stretches, rng_len, List.length_map]; omega) | exact lc_side (by omega) (by assumption))) u3.i fun v5 G5 H5 u5 r5 => ?_
    refine s_set (ev_dcF (κ := fun piece_v => ((Sum.inr (S piece_v)) : Key)) (DE := dB) (ei_list (ev_call (ea_cons (ev_var rfl (Rp.mono u5.g (Rp.mono u3.g (Rp.mono u2.g (Rp.mono u1.g h_one_v))))) (ea_cons (ev_var rfl (Rp.mono u5.g h3)) ea_nil)) (c_stretches (one_v) (length_v) (by first | walk_at "sd" | (have hm := rngD_mem (by assumption); omega) | (have hm := rngD_mem (by assumption); simp only [m_stretches, rng_len, List.length_map]; omega) | (simp only [m_stretches, rng_len, List.length_map]; omega) | exact lc_side (by omega) (by assumption)) (by first | walk_at "sd" | (have hm := rngD_mem (by assumption); omega) | (have hm := rngD_mem (by assumption); simp only [m_stretches, rng_len, List.length_map]; omega) | (simp only [m_stretches, rng_len, List.length_map]; omega) | exact lc_side (by omega) (by assumption))))) (fun piece_v z6 G6 x6 l6 h6 => (et_B (ev_dinS (ev_var rfl h6) (ev_var rfl (Rp.mono l6 r5))))) (fun piece_v z6 p6 G6 x6 l6 h6 => (ev_var rfl h6)) (fun piece_v z6 p6 G6 x6 l6 h6 => ev_bl) (by first | walk_at "sd" | (have hm := rngD_mem (by assumption); omega) | (have hm := rngD_mem (by assumption); simp only [m_stretches, rng_len, List.length_map]; omega) | (simp only [m_stretches, rng_len, List.length_map]; omega) | exact lc_side (by omega) (by assumption))) u5.i fun v7 G7 H7 u7 r7 => ?_
    exact s_if (et_test (ev_op (ev_cb (ea_cons (ev_var rfl r7) ea_nil) cav_lenDT) ev_int opv_gt)) u7.i (fun g8 G8 H8 u8 => s_ret (ev_cb (ea_cons (ev_var rfl (Rp.mono u8.g r7)) ea_nil) (cav_sortKs (by first | walk_at "sd" | (have hm := rngD_mem (by assumption); omega) | (have hm := rngD_mem (by assumption); simp only [m_stretches, rng_len, List.length_map]; omega) | (simp only [m_stretches, rng_len, List.length_map]; omega) | exact lc_side (by omega) (by assumption)))) u8.i (fun v G2 H2 w r => kr3 g8 v G2 H2 (Up.trans (Up.trans (Up.trans u5 u7) u8) w) r)) (fun g8 G8 H8 u8 => kn3 g8 _ G8 H8 ⟨_, _, _, rfl⟩ (Up.trans (Up.trans u5 u7) u8))
  · rw [f3] at k
    exact fun v G2 H2 w r => k v G2 H2 (Up.trans (Up.trans u1 u2) w) r
  · rw [f3] at k
    obtain ⟨y3_0, y3_1, y3_2, rfl⟩ := s3
    exact s_ret (σ := (List.set (List.set (List.set (start ["one", "other", "length", "known", "found", "piece"] [v_one_v, v_other_v]) 2 y3_0) 3 y3_1) 4 y3_2)) (ev_lst ea_nil (by simp)) w3.i (fun v G2 H2 w r => k v G2 H2 (Up.trans (Up.trans (Up.trans u1 u2) w3) w) r)
-- ring_occurrences
def m_ring_occurrences (ring_v : W) (piece_v : W) : (List Int) := (m_ring_places (ring_v) (piece_v))
def sp_ring_occurrences (K : PySem.W.Frag) (ca : Str → Addr) : Sp := fun vs H Q E => ∃ (G : Hp) (ring_v : W) (piece_v : W), In G H ∧ RpA K G vs [(dS ring_v), (dS piece_v)] ∧ (wordB ring_v = true) ∧ (List.length ring_v ≤ 10000) ∧ (m_least_turn ring_v = ring_v) ∧ (wordB piece_v = true) ∧ (List.length piece_v ≤ 10000) ∧ Ret K G H Q ((dL dI) (m_ring_occurrences ring_v piece_v))
theorem c_ring_occurrences {K : PySem.W.Frag} {ca : Str → Addr} {E : XK} (ring_v : W) (piece_v : W) (p0 : wordB ring_v = true) (p1 : List.length ring_v ≤ 10000) (p2 : m_least_turn ring_v = ring_v) (p3 : wordB piece_v = true) (p4 : List.length piece_v ≤ 10000) : SpV K (sp_ring_occurrences K ca) E [(dS ring_v), (dS piece_v)] ((dL dI) (m_ring_occurrences ring_v piece_v)) := fun G H vs hi pv Q q => ⟨G, ring_v, piece_v, hi, pv, p0, p1, p2, p3, p4, q⟩
def t_ring_occurrences (K : PySem.W.Frag) (ca : Str → Addr) (E : XK) : TS := (tSeq ((tDrop ((tCall (sp_need_ring K ca) [] E ((tCons ((tVar 0)) (tNil))))))) ((tSeq ((tDrop ((tCall (sp_need_word K ca) [] E ((tCons ((tVar 1)) (tNil))))))) ((tRet ((tCall (sp_ring_places K ca) [] E ((tCons ((tVar 0)) ((tCons ((tVar 1)) (tNil))))))))))))
theorem pure_ring_occurrences {K : PySem.W.Frag} {ca : Str → Addr} (vs : List V) (H : Hp) (Q : VK) (E : XK) (h : sp_ring_occurrences K ca vs H Q E) : vs.length = 2 ∧ t_ring_occurrences K ca E { nx := fun _ H2 => Q .non H2, rt := Q } (start ["ring", "piece"] vs) H := by
  obtain ⟨G, ring_v, piece_v, hin, pv, p0, p1, p2, p3, p4, k⟩ := h
  obtain ⟨v_ring_v, w0, rfl, h_ring_v, pv0⟩ := rpa_cons pv
  obtain ⟨v_piece_v, w1, rfl, h_piece_v, pv1⟩ := rpa_cons pv0
  obtain rfl := rpa_nil pv1
  refine ⟨rfl, ?_⟩
  unfold m_ring_occurrences at k
  unfold t_ring_occurrences
  refine s_drop (ev_call (ea_cons (ev_var rfl h_ring_v) ea_nil) (c_need_ring (ring_v) (by walk_at "sd") (by walk_at "sd") (by walk_at "sd"))) hin fun v1 G1 H1 u1 r1 => ?_
  refine s_drop (ev_call (ea_cons (ev_var rfl (Rp.mono u1.g h_piece_v)) ea_nil) (c_need_word (piece_v) (by walk_at "sd") (by walk_at "sd"))) u1.i fun v2 G2 H2 u2 r2 => ?_
  exact s_ret (ev_call (ea_cons (ev_var rfl (Rp.mono u2.g (Rp.mono u1.g h_ring_v))) (ea_cons (ev_var rfl (Rp.mono u2.g (Rp.mono u1.g h_piece_v))) ea_nil)) (c_ring_places (ring_v) (piece_v) (by walk_at "sd") (by walk_at "sd"))) u2.i (fun v G2 H2 w r => k v G2 H2 (Up.trans (Up.trans u1 u2) w) r)
-- ring_pieces
def m_ring_pieces (ring_v : W) (length_v : Int) : (List (Key × Int)) := (m_counted ((m_ring_stretches (ring_v) (length_v))))
def sp_ring_pieces (K : PySem.W.Frag) (ca : Str → Addr) : Sp := fun vs H Q E => ∃ (G : Hp) (ring_v : W) (length_v : Int), In G H ∧ RpA K G vs [(dS ring_v), (dI length_v)] ∧ (wordB ring_v = true) ∧ (List.length ring_v ≤ 60) ∧ (m_least_turn ring_v = ring_v) ∧ (1 ≤ length_v ∧ length_v ≤ 120) ∧ Ret K G H Q ((dM dI) (m_ring_pieces ring_v length_v))
theorem c_ring_pieces {K : PySem.W.Frag} {ca : Str → Addr} {E : XK} (ring_v : W) (length_v : Int) (p0 : wordB ring_v = true) (p1 : List.length ring_v ≤ 60) (p2 : m_least_turn ring_v = ring_v) (p3 : 1 ≤ length_v ∧ length_v ≤ 120) : SpV K (sp_ring_pieces K ca) E [(dS ring_v), (dI length_v)] ((dM dI) (m_ring_pieces ring_v length_v)) := fun G H vs hi pv Q q => ⟨G, ring_v, length_v, hi, pv, p0, p1, p2, p3, q⟩
def t_ring_pieces (K : PySem.W.Frag) (ca : Str → Addr) (E : XK) : TS := (tSeq ((tDrop ((tCall (sp_need_ring K ca) [] E ((tCons ((tVar 0)) (tNil))))))) ((tSeq ((tDrop ((tCall (sp_need_length K ca) [] E ((tCons ((tVar 1)) (tNil))))))) ((tRet ((tCall (sp_counted K ca) [] E ((tCons ((tCall (sp_ring_stretches K ca) [] E ((tCons ((tVar 0)) ((tCons ((tVar 1)) (tNil))))))) (tNil))))))))))
theorem pure_ring_pieces {K : PySem.W.Frag} {ca : Str → Addr} (vs : List V) (H : Hp) (Q : VK) (E : XK) (h : sp_ring_pieces K ca vs H Q E) : vs.length = 2 ∧ t_ring_pieces K ca E { nx := fun _ H2 => Q .non H2, rt := Q } (start ["ring", "length"] vs) H := by
  obtain ⟨G, ring_v, length_v, hin, pv, p0, p1, p2, p3, k⟩ := h
  obtain ⟨v_ring_v, w0, rfl, h_ring_v, pv0⟩ := rpa_cons pv
  obtain ⟨v_length_v, w1, rfl, h_length_v, pv1⟩ := rpa_cons pv0
  obtain rfl := rpa_nil pv1
  refine ⟨rfl, ?_⟩
  unfold m_ring_pieces at k
  unfold t_ring_pieces
  refine s_drop (ev_call (ea_cons (ev_var rfl h_ring_v) ea_nil) (c_need_ring (ring_v) (by first | walk_at "sd" | (simp only [m_ring_stretches, rng_len, List.length_map]; omega)) (by first | walk_at "sd" | (simp only [m_ring_stretches, rng_len, List.length_map]; omega)) (by first | walk_at "sd" | (simp only [m_ring_stretches, rng_len, List.length_map]; omega)))) hin fun v1 G1 H1 u1 r1 => ?_
  refine s_drop (ev_call (ea_cons (ev_var rfl (Rp.mono u1.g h_length_v)) ea_nil) (c_need_length (length_v) (by first | walk_at "sd" | (simp only [m_ring_stretches, rng_len, List.length_map]; omega)))) u1.i fun v2 G2 H2 u2 r2 => ?_
  exact s_ret (ev_call (ea_cons (ev_call (ea_cons (ev_var rfl (Rp.mono u2.g (Rp.mono u1.g h_ring_v))) (ea_cons (ev_var rfl (Rp.mono u2.g (Rp.mono u1.g h_length_v))) ea_nil)) (c_ring_stretches (ring_v) (length_v) (by first | walk_at "sd" | (simp only [m_ring_stretches, rng_len, List.length_map]; omega)) (by first | walk_at "sd" | (simp only [m_ring_stretches, rng_len, List.length_map]; omega)))) ea_nil) (c_counted ((m_ring_stretches (ring_v) (length_v))) (by first | walk_at "sd" | (simp only [m_ring_stretches, rng_len, List.length_map]; omega)))) u2.i (fun v G2 H2 w r => k v G2 H2 (Up.trans (Up.trans u1 u2) w) r)
-- turn
def m_turn (word_v : W) (number_v : Int) : W := (m_turn_of (word_v) (number_v))
def sp_turn (K : PySem.W.Frag) (ca : Str → Addr) : Sp := fun vs H Q E => ∃ (G : Hp) (word_v : W) (number_v : Int), In G H ∧ RpA K G vs [(dS word_v), (dI number_v)] ∧ (wordB word_v = true) ∧ (List.length word_v ≤ 10000) ∧ (0 ≤ number_v ∧ number_v < List.length word_v) ∧ Ret K G H Q (dS (m_turn word_v number_v))
theorem c_turn {K : PySem.W.Frag} {ca : Str → Addr} {E : XK} (word_v : W) (number_v : Int) (p0 : wordB word_v = true) (p1 : List.length word_v ≤ 10000) (p2 : 0 ≤ number_v ∧ number_v < List.length word_v) : SpV K (sp_turn K ca) E [(dS word_v), (dI number_v)] (dS (m_turn word_v number_v)) := fun G H vs hi pv Q q => ⟨G, word_v, number_v, hi, pv, p0, p1, p2, q⟩
def t_turn (K : PySem.W.Frag) (ca : Str → Addr) (E : XK) : TS := (tSeq ((tDrop ((tCall (sp_need_word K ca) [] E ((tCons ((tVar 0)) (tNil))))))) ((tSeq ((tIfS ((tNot ((tB ((tCall (sp_is_between K ca) [] E ((tCons ((tVar 1)) ((tCons (tC (.int 0)) ((tCons ((tOp (rI0 fun i j => .int (i - j)) ((tCB (rLenU K) ((tCons ((tVar 0)) (tNil))))) (tC (.int 1)))) (tNil))))))))))))) ((tRaise (fun cls d _ H => E cls d H) (fun _ H Q => Q (.ref (ca "BadIndex")) none H))) (tNext))) ((tRet ((tCall (sp_turn_of K ca) [] E ((tCons ((tVar 0)) ((tCons ((tVar 1)) (tNil))))))))))))
theorem pure_turn {K : PySem.W.Frag} {ca : Str → Addr} (vs : List V) (H : Hp) (Q : VK) (E : XK) (h : sp_turn K ca vs H Q E) : vs.length = 2 ∧ t_turn K ca E { nx := fun _ H2 => Q .non H2, rt := Q } (start ["word", "number"] vs) H := by
  obtain ⟨G, word_v, number_v, hin, pv, p0, p1, p2, k⟩ := h
  obtain ⟨v_word_v, w0, rfl, h_word_v, pv0⟩ := rpa_cons pv
  obtain ⟨v_number_v, w1, rfl, h_number_v, pv1⟩ := rpa_cons pv0
  obtain rfl := rpa_nil pv1
  refine ⟨rfl, ?_⟩
  unfold m_turn at k
  unfold t_turn
  refine s_drop (ev_call (ea_cons (ev_var rfl h_word_v) ea_nil) (c_need_word (word_v) (by first | walk_at "sd" | (simp only [m_is_betweenI, Bool.not_eq_true, Bool.not_eq_false', Bool.and_eq_true, decide_eq_true_eq]; omega)) (by first | walk_at "sd" | (simp only [m_is_betweenI, Bool.not_eq_true, Bool.not_eq_false', Bool.and_eq_true, decide_eq_true_eq]; omega)))) hin fun v1 G1 H1 u1 r1 => ?_
  refine s_if (et_not (et_B (ev_call (ea_cons (ev_var rfl (Rp.mono u1.g h_number_v)) (ea_cons ev_int (ea_cons (ev_op (ev_cb (ea_cons (ev_var rfl (Rp.mono u1.g h_word_v)) ea_nil) (cav_lenS (by first | walk_at "sd" | (simp only [m_is_betweenI, Bool.not_eq_true, Bool.not_eq_false', Bool.and_eq_true, decide_eq_true_eq]; omega)))) ev_int opv_sub) ea_nil))) (c_is_betweenI (number_v) ((0 : Int)) (((List.length word_v : Int) - (1 : Int))) )))) u1.i (fun g2 G2 H2 u2 => absurd g2 (by first | walk_at "sd" | (simp only [m_is_betweenI, Bool.not_eq_true, Bool.not_eq_false', Bool.and_eq_true, decide_eq_true_eq]; omega))) (fun g2 G2 H2 u2 => ?_)
  exact s_ret (ev_call (ea_cons (ev_var rfl (Rp.mono u2.g (Rp.mono u1.g h_word_v))) (ea_cons (ev_var rfl (Rp.mono u2.g (Rp.mono u1.g h_number_v))) ea_nil)) (c_turn_of (word_v) (number_v) (by first | walk_at "sd" | (simp only [m_is_betweenI, Bool.not_eq_true, Bool.not_eq_false', Bool.and_eq_true, decide_eq_true_eq]; omega)))) u2.i (fun v G2 H2 w r => k v G2 H2 (Up.trans (Up.trans u1 u2) w) r)
end Z

namespace Z
open PySem PySem.Spec PyProof.Rows L2
/-! ### draws -/
abbrev kq (x : Str) : Key := Sum.inr x
def dkv (w c : Addr) (r t : Int) : List (Key × V) := [(kq "wide", .ref w), (kq "cells", .ref c), (kq "rest", .int r), (kq "turn", .int t)]
theorem k12 : decide ((kq "wide" : Key) = kq "cells") = false := by decide +kernel
theorem k13 : decide ((kq "wide" : Key) = kq "rest") = false := by decide +kernel
theorem k14 : decide ((kq "wide" : Key) = kq "turn") = false := by decide +kernel
theorem k23 : decide ((kq "cells" : Key) = kq "rest") = false := by decide +kernel
theorem k24 : decide ((kq "cells" : Key) = kq "turn") = false := by decide +kernel
theorem k34 : decide ((kq "rest" : Key) = kq "turn") = false := by decide +kernel
theorem k43 : decide ((kq "turn" : Key) = kq "rest") = false := by decide +kernel
theorem kd (k : Key) : decide (k = k) = true := by simp
section
variable (w c : Addr) (r t : Int)
theorem g_wide : valV (dkv w c r t) (kq "wide") = some (.ref w) := by
  unfold valV dkv; rw [List.find?_cons, kd]; rfl
theorem g_cells : valV (dkv w c r t) (kq "cells") = some (.ref c) := by
  unfold valV dkv; rw [List.find?_cons, k12, List.find?_cons, kd]; rfl
theorem g_rest : valV (dkv w c r t) (kq "rest") = some (.int r) := by
  unfold valV dkv; rw [List.find?_cons, k13, List.find?_cons, k23, List.find?_cons, kd]; rfl
theorem g_turn : valV (dkv w c r t) (kq "turn") = some (.int t) := by
  unfold valV dkv; rw [List.find?_cons, k14, List.find?_cons, k24, List.find?_cons, k34, List.find?_cons, kd]; rfl
theorem p_rest (r' : Int) : putK (dkv w c r t) (kq "rest") (.int r') = dkv w c r' t := by
  rw [putK_putE]
  unfold putE dkv
  rw [if_pos (by simp)]
  have e1 : ¬ (kq "wide" : Key) = kq "rest" := of_decide_eq_false k13
  have e2 : ¬ (kq "cells" : Key) = kq "rest" := of_decide_eq_false k23
  have e3 : ¬ (kq "turn" : Key) = kq "rest" := of_decide_eq_false k43
  simp only [List.map_cons, List.map_nil, if_neg e1, if_neg e2, if_neg e3, if_true]
theorem p_turn (t' : Int) : putK (dkv w c r t) (kq "turn") (.int t') = dkv w c r t' := by
  rw [putK_putE]
  unfold putE dkv
  rw [if_pos (by simp)]
  have e1 : ¬ (kq "wide" : Key) = kq "turn" := of_decide_eq_false k14
  have e2 : ¬ (kq "cells" : Key) = kq "turn" := of_decide_eq_false k24
  have e3 : ¬ (kq "rest" : Key) = kq "turn" := of_decide_eq_false k34
  simp only [List.map_cons, List.map_nil, if_neg e1, if_neg e2, if_neg e3, if_true]
end
/-- the draws' state at m, its wide numbers at w: n turns are left -/
def Drw (m w : Addr) (n : Nat) (G H : Hp) : Prop := ∃ (c : Addr) (ws cs : List Int) (r t : Int), H m = some (.dK (dkv w c r t)) ∧ H w = some (.lst (ws.map .int)) ∧ G c = some (.lst (cs.map .int)) ∧ c ≠ w ∧ (∀ x ∈ cs, 0 ≤ x ∧ x < 2147483648) ∧ 0 ≤ t ∧ t + n ≤ 1000000000000
theorem Drw.mono {m w : Addr} {n n' : Nat} {G H : Hp} (d : Drw m w n G H) (h : n' ≤ n) : Drw m w n' G H := by
  obtain ⟨c, ws, cs, r, t, h1, h2, h3, h4, h5, h6, h7⟩ := d
  exact ⟨c, ws, cs, r, t, h1, h2, h3, h4, h5, h6, by omega⟩
/-- a step that may change the draws alone -/
structure UpM (m w : Addr) (G H G2 H2 : Hp) : Prop where
  g : Le G G2
  i : In G2 H2
  h : ∀ a, a ≠ m → a ≠ w → ∀ o, H a = some o → H2 a = some o
  n : ∀ a o, G2 a = some o → G a = some o ∨ H a = none
theorem UpM.refl {m w : Addr} {G H : Hp} (i : In G H) : UpM m w G H G H := ⟨Le.refl _, i, fun _ _ _ _ e => e, fun _ _ e => .inl e⟩
theorem UpM.of {m w : Addr} {G H G2 H2 : Hp} (u : Up G H G2 H2) : UpM m w G H G2 H2 := ⟨u.g, u.i, fun a _ _ o e => u.h a o e, u.n⟩
/-- the draws are hidden, and they stand -/
structure DOk (m w : Addr) (n : Nat) (G H : Hp) : Prop where
  i : In G H
  gm : G m = none
  gw : G w = none
  d : Drw m w n G H
theorem DOk.hm {m w : Addr} {n : Nat} {G H : Hp} (d : DOk m w n G H) : H m ≠ none := by
  obtain ⟨c, ws, cs, r, t, h1, _⟩ := d.d
  rw [h1]; intro q; cases q
theorem DOk.hw {m w : Addr} {n : Nat} {G H : Hp} (d : DOk m w n G H) : H w ≠ none := by
  obtain ⟨c, ws, cs, r, t, h1, h2, _⟩ := d.d
  rw [h2]; intro q; cases q
theorem Drw.up {m w : Addr} {n : Nat} {G G2 H H2 : Hp} (d : Drw m w n G H) (g : Le G G2) (l : Le H H2) : Drw m w n G2 H2 := by
  obtain ⟨c, ws, cs, r, t, h1, h2, h3, h⟩ := d
  exact ⟨c, ws, cs, r, t, l _ _ h1, l _ _ h2, g _ _ h3, h⟩
theorem DOk.up {m w : Addr} {n : Nat} {G H G2 H2 : Hp} (d : DOk m w n G H) (u : Up G H G2 H2) : DOk m w n G2 H2 :=
  ⟨u.i, u.hide d.hm d.gm, u.hide d.hw d.gw, d.d.up u.g u.h⟩
theorem DOk.mono {m w : Addr} {n n' : Nat} {G H : Hp} (d : DOk m w n G H) (h : n' ≤ n) : DOk m w n' G H := ⟨d.i, d.gm, d.gw, d.d.mono h⟩
theorem UpM.trans {m w : Addr} {n : Nat} {G H G2 H2 G3 H3 : Hp} (d2 : DOk m w n G2 H2) (u : UpM m w G H G2 H2) (v : UpM m w G2 H2 G3 H3) : UpM m w G H G3 H3 :=
  ⟨u.g.trans v.g, v.i, fun a h1 h2 o e => v.h a h1 h2 o (u.h a h1 h2 o e), fun a o e => by
    rcases v.n a o e with q | q
    · exact u.n a o q
    · refine .inr ?_
      cases hh : H a with
      | none => rfl
      | some o' =>
        by_cases h1 : a = m
        · subst h1; exact absurd q d2.hm
        · by_cases h2 : a = w
          · subst h2; exact absurd q d2.hw
          · rw [u.h a h1 h2 o' hh] at q; cases q⟩
/-- the promise of a draw -/
def sp__law_take (K : PySem.W.Frag) (ca : Str → Addr) : Sp := fun vs H Q E => ∃ (G : Hp) (m w : Addr) (n : Nat) (tot : Int), vs = [.ref m, .int tot] ∧ DOk m w (n + 1) G H ∧ 0 < tot ∧ tot < 1000000000 ∧
  ∀ v H2, 0 ≤ v → v < tot → UpM m w G H G H2 → DOk m w n G H2 → Q (.int v) H2
def sp__law_mixed (K : PySem.W.Frag) (ca : Str → Addr) : Sp := fun vs H Q E => ∃ (m w c : Addr) (n : Nat) (ws cs : List Int) (r t : Int), vs = [.ref m] ∧ H m = some (.dK (dkv w c r t)) ∧ H w = some (.lst (ws.map .int)) ∧ H c = some (.lst (cs.map .int)) ∧ (∀ x ∈ cs, 0 ≤ x ∧ x < 2147483648) ∧ 0 ≤ t ∧ t + 1 ≤ 1000000000000 ∧
  ∀ v H2, (∀ a, a ≠ m → ∀ o, H a = some o → H2 a = some o) → H2 m = some (.dK (dkv w c r (t + 1))) → Q (.int v) H2
end Z

namespace Z
open PySem PySem.Spec PyProof.Rows L2
def t__law_mixed (K : PySem.W.Frag) (ca : Str → Addr) (E : XK) : TS := (tSeq ((tPar 1 2 ((tCons ((tOp (rI0 fun i j => .int (i + j)) ((tDGet ((tVar 0)) (tC (.str "turn")))) (tC (.int 1)))) ((tCons (tC (.int 0)) (tNil))))))) ((tSeq ((sDPut ((tVar 0)) (tC (.str "turn")) ((tVar 1)))) ((tSeq ((tFor ((iList K ((tLst ((tCons (tC (.int 2147483629)) ((tCons (tC (.int 2147483587)) ((tCons (tC (.int 2147483579)) ((tCons (tC (.int 2147483563)) (tNil))))))))))))) ((gName 3)) ((tSeq ((tAsg ((tOp (rI0 fun i j => .int (i + j)) ((tOp (rI CMul fun i j => .int (i * j)) (tC (.int 62617)) ((tVar 1)))) ((tOp (rI CDivN fun i j => .int (i.fdiv j)) ((tVar 3)) (tC (.int 31)))))) (gName 4))) ((tSeq ((tFor ((iList K ((tDGet ((tVar 0)) (tC (.str "cells")))))) ((gName 5)) ((tAsg ((tOp (rI (fun _ j => j ≠ 0) fun i j => .int (i.fmod j)) ((tCB (rInt1) ((tCons ((tOp (rI0 fun i j => .int (i + j)) ((tOp (rI0 fun i j => .int (i + j)) ((tOp (rI CMul fun i j => .int (i * j)) ((tVar 4)) (tC (.int 48271)))) ((tVar 5)))) ((tVar 1)))) (tNil))))) ((tVar 3)))) (gName 4))))) ((tAsg ((tOp (rI0 fun i j => .int (i + j)) ((tOp (rI CMul fun i j => .int (i * j)) ((tVar 2)) (tC (.int 2147483647)))) ((tOp (rI (fun _ j => j ≠ 0) fun i j => .int (i.fmod j)) ((tCB (rInt1) ((tCons ((tOp (rI CPow fun i j => .int (i ^ j.toNat)) ((tVar 4)) (tC (.int 5)))) (tNil))))) ((tVar 3)))))) (gName 2))))))))) ((tRet ((tVar 2)))))))))
def t__law_take (K : PySem.W.Frag) (ca : Str → Addr) (E : XK) : TS := (tSeq ((tIfS ((tTest (tOp (rEq) ((tDGet ((tVar 0)) (tC (.str "rest")))) (tC (.int 0))))) ((sDPut ((tVar 0)) (tC (.str "rest")) ((tIf ((tTest (tOp (rNeD K) ((tDGet ((tVar 0)) (tC (.str "wide")))) ((tLst (tNil)))))) ((tBM K "list" rPopAt ((tDGet ((tVar 0)) (tC (.str "wide")))) ((tCons (tC (.int 0)) (tNil))))) ((tCall (sp__law_mixed K ca) [] E ((tCons ((tVar 0)) (tNil))))))))) (tNext))) ((tSeq ((tAsg ((tOp (rI (fun _ j => j ≠ 0) fun i j => .int (i.fmod j)) ((tCB (rInt1) ((tCons ((tDGet ((tVar 0)) (tC (.str "rest")))) (tNil))))) ((tVar 1)))) (gName 2))) ((tSeq ((sDPut ((tVar 0)) (tC (.str "rest")) ((tOp (rI CDivN fun i j => .int (i.fdiv j)) ((tDGet ((tVar 0)) (tC (.str "rest")))) ((tVar 1)))))) ((tRet ((tVar 2)))))))))
theorem dget_of {H : Hp} {a : Addr} {kvs : List (Key × V)} {x : Str} {v : V} (h : H a = some (.dK kvs)) (e : valV kvs (kq x) = some v) : DGet H a (.str x) (some v) := .inl ⟨kvs, kq x, .inl h, rfl, e.symm⟩
theorem fmod_bd (a b : Int) (h : 0 < b) : 0 ≤ Int.fmod a b ∧ Int.fmod a b < b := by
  rw [Int.fmod_eq_emod_of_nonneg _ (by omega)]
  exact ⟨Int.emod_nonneg _ (by omega), Int.emod_lt_of_pos _ h⟩
theorem pure__law_mixed {K : PySem.W.Frag} {ca : Str → Addr} (vs : List V) (H : Hp) (Q : VK) (E : XK) (h : sp__law_mixed K ca vs H Q E) : vs.length = 1 ∧ t__law_mixed K ca E { nx := fun _ H2 => Q .non H2, rt := Q } (start ["_law_draw", "_law_tick", "_law_found", "_law_prime", "_law_blend", "_law_cell"] vs) H := by
  obtain ⟨m, w, c, n, ws, cs, r, t, rfl, hm, hw, hc, hcs, ht, htn, k⟩ := h
  refine ⟨rfl, ?_⟩
  refine ⟨.ref m, rfl, m, .int t, rfl, dget_of hm (g_turn w c r t), t, 1, rfl, rfl, .int (t + 1), .int 0, rfl, ?_⟩
  refine ⟨.int (t + 1), rfl, .ref m, rfl, m, upd H m (.dK (dkv w c r (t + 1))), rfl, .inl ⟨_, kq "turn", hm, rfl, by show 4 < sizeLine; decide, by rw [p_turn]⟩, ?_⟩
  refine ⟨by show 4 ≤ sizeLine; decide, fun p hp => ⟨p, rfl, ⟨_, .inl (.inl upd_same)⟩, ?_⟩⟩
  have npm : p ≠ m := fun e => by rw [e, upd_same] at hp; cases hp
  have ncm : c ≠ m := fun e => by rw [e, hm] at hc; cases hc
  have hp0 : H p = none := by rw [upd_ne npm] at hp; exact hp
  have ncp : c ≠ p := fun e => by rw [e, hp0] at hc; cases hc
  refine for_list (K := K) (a := p) (xs := [V.int 2147483629, V.int 2147483587, V.int 2147483579, V.int 2147483563]) (fun i σ H' => ∃ (f : Int) (v3 v4 v5 : Option V), σ = [some (.ref m), some (.int (t + 1)), some (.int f), v3, v4, v5] ∧ H' = upd (upd H m (.dK (dkv w c r (t + 1)))) p (.lst [V.int 2147483629, V.int 2147483587, V.int 2147483579, V.int 2147483563])) ⟨0, none, none, none, rfl, rfl⟩ (fun i σ H' _ ⟨_, _, _, _, _, e⟩ => by rw [e]; exact .inl (.inl upd_same)) ?_ ?_
  · rintro i x σ H' hx ⟨f, v3, v4, v5, rfl, eH⟩
    obtain ⟨pr, rfl, hpr⟩ : ∃ pr, x = V.int pr ∧ 2147483563 ≤ pr ∧ pr ≤ 2147483629 := by
      have hm2 := List.mem_of_getElem? hx
      simp only [List.mem_cons, List.not_mem_nil, or_false] at hm2
      rcases hm2 with e | e | e | e <;> exact ⟨_, e, by omega, by omega⟩
    have hm' : H' m = some (.dK (dkv w c r (t + 1))) := by rw [eH, upd_ne npm.symm, upd_same]
    have hc' : H' c = some (.lst (cs.map .int)) := by rw [eH, upd_ne ncp, upd_ne ncm]; exact hc
    refine ⟨.int (t + 1), rfl, 62617, t + 1, rfl, rfl, .inl ⟨by decide, by decide⟩, .int pr, rfl, pr, 31, rfl, rfl, ⟨by decide, by decide⟩, _, _, rfl, rfl, ?_⟩
    have hb0 : 0 ≤ 62617 * (t + 1) + Int.fdiv pr 31 ∧ 62617 * (t + 1) + Int.fdiv pr 31 < 1000000000000000000 := by
      rw [Int.fdiv_eq_ediv_of_nonneg _ (by omega)]
      omega
    refine ⟨.ref m, rfl, m, .ref c, rfl, dget_of hm' (g_cells w c r (t + 1)), c, rfl, ⟨_, .inl (.inl hc')⟩, ?_⟩
    refine for_list (K := K) (a := c) (xs := cs.map V.int) (fun j σ H'' => H'' = H' ∧ ∃ (b : Int) (u5 : Option V), σ = [some (.ref m), some (.int (t + 1)), some (.int f), some (.int pr), some (.int b), u5] ∧ 0 ≤ b ∧ b < 1000000000000000000) ⟨rfl, _, v5, rfl, hb0⟩ (fun j σ H'' _ ⟨e, _⟩ => by rw [e]; exact .inl (.inl hc')) ?_ ?_
    · rintro j y σ H'' hy ⟨rfl, b, u5, rfl, hb⟩
      obtain ⟨cv, rfl⟩ : ∃ cv, y = V.int cv := by
        rw [List.getElem?_map] at hy
        cases q : cs[j]? with
        | none => rw [q] at hy; cases hy
        | some cv => rw [q] at hy; exact ⟨cv, (Option.some.inj hy).symm⟩
      refine ⟨.int b, rfl, b, 48271, rfl, rfl, .inr ⟨by decide, by decide⟩, .int cv, rfl, _, cv, rfl, rfl, .int (t + 1), rfl, _, t + 1, rfl, rfl, .inl ⟨_, rfl, .int pr, rfl, _, pr, rfl, rfl, by omega, ?_⟩⟩
      have hf := fmod_bd (b * 48271 + cv + (t + 1)) pr (by omega)
      exact ⟨rfl, _, _, rfl, hf.1, by omega⟩
    · rintro σ H'' ⟨rfl, b, u5, rfl, hb⟩
      refine ⟨.int f, rfl, f, 2147483647, rfl, rfl, .inr ⟨by decide, by decide⟩, .int b, rfl, b, 5, rfl, rfl, ⟨by decide, by decide, by omega⟩, .inl ⟨_, rfl, .int pr, rfl, _, pr, rfl, rfl, by omega, _, _, rfl, rfl, ?_⟩⟩
      exact ⟨_, _, _, _, rfl, eH⟩
  · rintro σ H' ⟨f, v3, v4, v5, rfl, eH⟩
    refine ⟨.int f, rfl, k f H' (fun a ha o e => ?_) (by rw [eH, upd_ne npm.symm, upd_same])⟩
    have nap : a ≠ p := fun z => by rw [z, hp0] at e; cases e
    rw [eH, upd_ne nap, upd_ne ha]
    exact e
theorem pure__law_take {K : PySem.W.Frag} {ca : Str → Addr} (vs : List V) (H : Hp) (Q : VK) (E : XK) (h : sp__law_take K ca vs H Q E) : vs.length = 2 ∧ t__law_take K ca E { nx := fun _ H2 => Q .non H2, rt := Q } (start ["_law_draw", "_law_total", "_law_found"] vs) H := by
  obtain ⟨G, m, w, n, tot, rfl, ⟨hin, gm, gw, c, ws, cs, r, t, hm, hw, gc, hcw, hcs, ht, htn⟩, h0, h1, k⟩ := h
  refine ⟨rfl, ?_⟩
  have hc : H c = some (.lst (cs.map .int)) := hin.ex gc rfl
  have nmw : m ≠ w := fun e => by rw [e, hw] at hm; cases hm
  have ncm : c ≠ m := fun e => by rw [e, hm] at hc; cases hc
  -- what follows the first statement
  have tail : ∀ (H' : Hp) (ws' : List Int) (r' t' : Int), H' m = some (.dK (dkv w c r' t')) → H' w = some (.lst (ws'.map .int)) → (∀ a, a ≠ m → a ≠ w → ∀ o, H a = some o → H' a = some o) → 0 ≤ t' → t' ≤ t + 1 →
      tSeq (tAsg (tOp (rI (fun _ j => j ≠ 0) fun i j => .int (i.fmod j)) (tCB rInt1 (tCons (tDGet (tVar 0) (tC (.str "rest"))) tNil)) (tVar 1)) (gName 2)) (tSeq (sDPut (tVar 0) (tC (.str "rest")) (tOp (rI CDivN fun i j => .int (i.fdiv j)) (tDGet (tVar 0) (tC (.str "rest"))) (tVar 1))) (tRet (tVar 2)))
        { nx := fun _ H2 => Q .non H2, rt := Q } (start ["_law_draw", "_law_total", "_law_found"] [.ref m, .int tot]) H' := by
    intro H' ws' r' t' hm' hw' hk ht' htn'
    refine ⟨.ref m, rfl, m, .int r', rfl, dget_of hm' (g_rest w c r' t'), .inl ⟨r', rfl, .int tot, rfl, r', tot, rfl, rfl, by omega, ?_⟩⟩
    refine ⟨.ref m, rfl, m, .int r', rfl, dget_of hm' (g_rest w c r' t'), .int tot, rfl, r', tot, rfl, rfl, ⟨by omega, by omega⟩, .ref m, rfl, m, upd H' m (.dK (dkv w c (r'.fdiv tot) t')), rfl, .inl ⟨_, kq "rest", hm', rfl, by show 4 < sizeLine; decide, by rw [p_rest]⟩, ?_⟩
    have hf := fmod_bd r' tot h0
    have hc' : H' c = some (.lst (cs.map .int)) := hk c ncm hcw _ hc
    refine ⟨.int (r'.fmod tot), rfl, k _ _ hf.1 hf.2 ?_ ?_⟩
    · refine ⟨Le.refl _, fun a o e => ?_, fun a h1 h2 o e => by rw [upd_ne h1]; exact hk a h1 h2 o e, fun a o e => .inl e⟩
      have n1 : a ≠ m := fun z => by rw [z, gm] at e; cases e
      have n2 : a ≠ w := fun z => by rw [z, gw] at e; cases e
      rw [upd_ne n1]
      rcases hin a o e with q | ⟨q1, ob, q⟩
      · exact .inl (hk a n1 n2 _ q)
      · exact .inr ⟨q1, ob, hk a n1 n2 _ q⟩
    · refine ⟨fun a o e => ?_, gm, gw, c, ws', cs, r'.fdiv tot, t', upd_same, by rw [upd_ne nmw.symm]; exact hw', gc, hcw, hcs, ht', by omega⟩
      have n1 : a ≠ m := fun z => by rw [z, gm] at e; cases e
      have n2 : a ≠ w := fun z => by rw [z, gw] at e; cases e
      rw [upd_ne n1]
      rcases hin a o e with q | ⟨q1, ob, q⟩
      · exact .inl (hk a n1 n2 _ q)
      · exact .inr ⟨q1, ob, hk a n1 n2 _ q⟩
  refine ⟨.ref m, rfl, m, .int r, rfl, dget_of hm (g_rest w c r t), rfl, _, rfl, ?_⟩
  by_cases hr : V.int r = V.int 0
  · dsimp only
    rw [if_pos (decide_eq_true hr)]
    refine ⟨.ref m, rfl, m, .ref w, rfl, dget_of hm (g_wide w c r t), Nat.zero_le _, fun p hp => ?_⟩
    have npm : p ≠ m := fun e => by rw [e, hm] at hp; cases hp
    have npw : p ≠ w := fun e => by rw [e, hw] at hp; cases hp
    have npc : p ≠ c := fun e => by rw [e, hc] at hp; cases hp
    have hm1 : upd H p (.lst []) m = some (.dK (dkv w c r t)) := by rw [upd_ne npm.symm]; exact hm
    have hw1 : upd H p (.lst []) w = some (.lst (ws.map .int)) := by rw [upd_ne npw.symm]; exact hw
    have hc1 : upd H p (.lst []) c = some (.lst (cs.map .int)) := by rw [upd_ne npc.symm]; exact hc
    have dws : ∀ xs : List Int, DpAll K (upd H p (.lst [])) (xs.map V.int) (xs.map .int) := by
      intro xs
      induction xs with
      | nil => exact .nil
      | cons x xs ih => exact .cons (.int x) ih
    refine ⟨dL dI ws, dL dI [], .lst (.inl (.inl hw1)) (dws ws), .lst (.inl (.inl upd_same)) .nil, (eqt_L eqt_I).shaped (by decide) (fun _ _ => trivial), (eqt_L eqt_I).shaped (by decide) (fun _ _ => trivial), _, rfl, ?_⟩
    dsimp only
    rw [(eqt_L eqt_I).eq]
    cases ws with
    | nil =>
      rw [if_neg (by simp)]
      refine ⟨.ref m, rfl, m, w, c, n, [], cs, r, t, rfl, hm1, hw1, hc1, hcs, ht, by omega, fun v H2 k2 e2 => ?_⟩
      refine ⟨.ref m, rfl, m, upd H2 m (.dK (dkv w c v (t + 1))), rfl, .inl ⟨_, kq "rest", e2, rfl, by show 4 < sizeLine; decide, by rw [p_rest]⟩, ?_⟩
      refine tail _ [] v (t + 1) upd_same (by rw [upd_ne nmw.symm]; exact k2 w nmw.symm _ hw1) (fun a n1 n2 o e => ?_) (by omega) (by omega)
      have nap : a ≠ p := fun z => by rw [z, hp] at e; cases e
      rw [upd_ne n1]
      exact k2 a n1 o (by rw [upd_ne nap]; exact e)
    | cons x ws =>
      rw [if_pos (by simp)]
      refine ⟨.ref m, rfl, m, .ref w, rfl, dget_of hm1 (g_wide w c r t), .inl ⟨rfl, _, .inl (.inl hw1)⟩, w, _, 0, 0, .int x, rfl, rfl, hw1, by decide, by decide, ?_, rfl, ?_⟩
      · show seqIndex? 0 ((x :: ws).map V.int).length = some 0
        rw [List.length_map, List.length_cons]
        unfold seqIndex?
        simp
      · have hm2 : upd (upd H p (.lst [])) w (.lst (((x :: ws).map V.int).eraseIdx 0)) m = some (.dK (dkv w c r t)) := by rw [upd_ne nmw]; exact hm1
        refine ⟨.ref m, rfl, m, upd (upd (upd H p (.lst [])) w (.lst (((x :: ws).map V.int).eraseIdx 0))) m (.dK (dkv w c x t)), rfl, .inl ⟨_, kq "rest", hm2, rfl, by show 4 < sizeLine; decide, by rw [p_rest]⟩, ?_⟩
        refine tail _ ws x t upd_same (by rw [upd_ne nmw.symm, upd_same]; rfl) (fun a n1 n2 o e => ?_) ht (by omega)
        have nap : a ≠ p := fun z => by rw [z, hp] at e; cases e
        rw [upd_ne n1, upd_ne n2, upd_ne nap]
        exact e
  · dsimp only
    rw [if_neg (by simpa using hr)]
    exact tail H ws r t hm hw (fun _ _ _ _ e => e) ht (by omega)
end Z

namespace Z
open PySem PySem.Spec PyProof.Rows L2
/-! ### the script, the draws' beginning -/
theorem sql_in {K : PySem.W.Frag} {G H : Hp} {a : Addr} {xs : List V} (h : SqL K G a xs) (i : In G H) : SqL K H a xs := by
  rcases h with q | q
  · rcases q with q | ⟨o, q⟩
    · exact .inl (.inl (i.ex q rfl))
    · exact .inl (.inr ⟨o, i.ex q rfl⟩)
  · exact .inr q
theorem sql_le {K : PySem.W.Frag} {G H : Hp} {a : Addr} {xs : List V} (h : SqL K G a xs) (i : Le G H) : SqL K H a xs := by
  rcases h with q | q
  · rcases q with q | ⟨o, q⟩
    · exact .inl (.inl (i _ _ q))
    · exact .inl (.inr ⟨o, i _ _ q⟩)
  · exact .inr q
theorem wk_scr {K : PySem.W.Frag} {G : Hp} {a : Addr} {ns : List Int} (h : SqL K G a (ns.map .int)) : WkD K (Itl K a) G (ns.map .int) := fun G' H' l i => by
  have e : SqL K H' a (ns.map .int) := sql_in (sql_le h l) i
  have W := walk_list (K := K) (a := a) (xs := ns.map .int)
  refine ⟨by have := W.stops H' e; rw [List.length_map] at this ⊢; exact this, fun j d hd => ?_⟩
  rw [List.getElem?_map] at hd
  cases hn : ns[j]? with
  | none => rw [hn] at hd; cases hd
  | some n =>
    rw [hn] at hd
    cases hd
    have hj : j < (ns.map V.int).length := by rw [List.length_map]; exact (List.getElem?_eq_some_iff.mp hn).1
    refine ⟨W.goes j H' hj e, fun x H2 y => ?_⟩
    obtain ⟨e1, e2⟩ := W.yields j H' x H2 hj e y
    rw [List.getElem?_map, hn] at e2
    cases e2
    subst e1
    exact ⟨G', Up.refl i, .int n⟩
theorem ei_scr {K : PySem.W.Frag} {G : Hp} {σ : L2.St} {k : Nat} {a : Addr} {ns : List Int} (hv : σ[k]? = some (some (.ref a))) (h : SqL K G a (ns.map .int)) : EvI K (iList K (tVar k)) σ G (ns.map .int) := fun G1 H1 l i R q =>
  ⟨.ref a, hv, a, rfl, ⟨_, sql_in (sql_le h l) i⟩, q _ G1 H1 (Up.refl i) (wk_scr (sql_le h l))⟩
theorem merge4 (w c : Addr) : mergeK [] [(kq "wide", V.ref w), (kq "cells", .ref c), (kq "rest", .int 0), (kq "turn", .int 0)] = dkv w c 0 0 := by
  have e1 := of_decide_eq_false k12
  have e2 := of_decide_eq_false k13
  have e3 := of_decide_eq_false k14
  have e4 := of_decide_eq_false k23
  have e5 := of_decide_eq_false k24
  have e6 := of_decide_eq_false k34
  unfold mergeK dkv
  simp only [List.foldl_cons, List.foldl_nil, putK_putE]
  simp only [putE, List.any_nil, List.any_cons, List.nil_append, List.cons_append, decide_eq_false e1, decide_eq_false e2, decide_eq_false e3, decide_eq_false e4, decide_eq_false e5, decide_eq_false e6, Bool.or_false, if_false, Bool.false_eq_true]
def sp__law_begun (K : PySem.W.Frag) (ca : Str → Addr) : Sp := fun vs H Q E => ∃ (G : Hp) (a : Addr) (ns : List Int), vs = [.ref a] ∧ In G H ∧ SqL K G a (ns.map .int) ∧ ns.length ≤ 1000 ∧
  ∀ m w G2 H2, Le G G2 → Le H H2 → DOk m w 1000000000000 G2 H2 → Q (.ref m) H2
def t__law_begun (K : PySem.W.Frag) (ca : Str → Addr) (E : XK) : TS := (tSeq ((tAsg (tLc ((iList K ((tVar 0)))) ((gName 2)) ((tTest (tOp (rI0 fun i j => .bl (decide (j ≤ i))) ((tCB (rAbs) ((tCons ((tVar 2)) (tNil))))) ((tOp (rI CPow fun i j => .int (i ^ j.toNat)) (tC (.int 10)) (tC (.int 18))))))) ((tOp (rI0 fun i j => .int (i - j)) ((tCB (rAbs) ((tCons ((tVar 2)) (tNil))))) ((tOp (rI CPow fun i j => .int (i ^ j.toNat)) (tC (.int 10)) (tC (.int 18)))))) [2]) (gName 1))) ((tRet ((tDisp [(tC (.str "wide"), (tVar 1)), (tC (.str "cells"), (tLc ((iList K ((tVar 0)))) ((gName 2)) (tYes) ((tOp (rI (fun _ j => j ≠ 0) fun i j => .int (i.fmod j)) ((tCB (rInt1) ((tCons ((tCB (rAbs) ((tCons ((tVar 2)) (tNil))))) (tNil))))) (tC (.int 2147483629)))) [2])), (tC (.str "rest"), tC (.int 0)), (tC (.str "turn"), tC (.int 0))])))))
theorem pure__law_begun {K : PySem.W.Frag} {ca : Str → Addr} (vs : List V) (H : Hp) (Q : VK) (E : XK) (h : sp__law_begun K ca vs H Q E) : vs.length = 1 ∧ t__law_begun K ca E { nx := fun _ H2 => Q .non H2, rt := Q } (start ["_law_script", "_law_wide", "_law_cell"] vs) H := by
  obtain ⟨G, a, ns, rfl, hin, hs, hl, k⟩ := h
  refine ⟨rfl, ?_⟩
  unfold t__law_begun tSeq tAsg tRet tDisp
  refine lc_new (D := dI) (xs := ns) (p := fun c => decide ((10 : Int) ^ (18 : Int).toNat ≤ (c.natAbs : Int))) (f := fun c => dI ((c.natAbs : Int) - (10 : Int) ^ (18 : Int).toNat)) (B := fun z σ2 G => ∃ x, σ2 = (wipe (start ["_law_script", "_law_wide", "_law_cell"] [.ref a]) [2]).set 2 (some x) ∧ Rp K G x (dI z)) (ei_scr (k := 0) rfl hs) (fun z _ => bnd_name) (fun z _ σ2 G ⟨x, e, _⟩ => by rw [e]; exact wipe1) (fun z _ G1 σ2 l1 ⟨x, e, r⟩ => ?_) (fun z _ _ G1 σ2 l1 ⟨x, e, r⟩ => ?_) (fun z σ2 G1 G2 l2 ⟨x, e, r⟩ => ⟨x, e, r.mono l2⟩) (by omega) (Le.refl _) hin ?_
  · subst e
    exact et_test (ev_op (ev_cb (ea_cons (ev_var rfl r) ea_nil) cav_abs) (ev_op ev_int ev_int (opv_pow ⟨by decide, by decide, by decide⟩)) opv_ge)
  · subst e
    exact ev_op (ev_cb (ea_cons (ev_var rfl r) ea_nil) cav_abs) (ev_op ev_int ev_int (opv_pow ⟨by decide, by decide, by decide⟩)) opv_sub
  intro w G3 H3 acc hw gw u3 i3 e3 r3
  intro p hp
  unfold tPairs tC tPairs tVar
  refine ⟨.ref w, rfl, ?_⟩
  have i4 : In G3 (upd H3 p (.dK [])) := i3.mut (i3.no hp)
  refine lc_new (D := dI) (xs := ns) (p := fun _ => true) (f := fun c => dI ((c.natAbs : Int).fmod 2147483629)) (B := fun z σ2 G => ∃ x, σ2 = (wipe ((start ["_law_script", "_law_wide", "_law_cell"] [.ref a]).set 1 (some (.ref w))) [2]).set 2 (some x) ∧ Rp K G x (dI z)) (ei_scr (k := 0) rfl (sql_le hs u3.g)) (fun z _ => bnd_name) (fun z _ σ2 G ⟨x, e, _⟩ => by rw [e]; exact wipe1) (fun z _ G1 σ2 l1 ⟨x, e, r⟩ => ?_) (fun z _ _ G1 σ2 l1 ⟨x, e, r⟩ => ?_) (fun z σ2 G1 G2 l2 ⟨x, e, r⟩ => ⟨x, e, r.mono l2⟩) (by omega) (Le.refl _) i4 ?_
  · exact fun G1 H1 l i Q q => q G1 H1 (Up.refl i)
  · subst e
    exact ev_op (ev_cb (ea_cons (ev_cb (ea_cons (ev_var rfl r) ea_nil) cav_abs) ea_nil) cav_int) ev_int (opv_mod (by decide))
  intro c G5 H5 acc2 hc gc u5 i5 e5 r5
  have nwp : w ≠ p := fun e => by rw [e, hp] at e3; cases e3
  have ncp : c ≠ p := fun e => by rw [e, upd_same] at hc; cases hc
  have ncw : c ≠ w := fun e => by rw [e, upd_ne nwp, e3] at hc; cases hc
  have up5 : ∀ b, b ≠ c → ∀ o, upd H3 p (.dK []) b = some o → H5 b = some o := fun b nb o e => by
    have := u5.h b o e
    simp only [if_neg nb] at this
    exact this
  have hp5 : H5 p = some (.dK []) := up5 p ncp.symm _ upd_same
  have hw5 : H5 w = some (.lst acc) := up5 w ncw.symm _ (by rw [upd_ne nwp]; exact e3)
  have hp0 : H p = none := by
    cases q : H p with
    | none => rfl
    | some o =>
      have := u3.h p o q
      simp only [if_neg nwp.symm] at this
      rw [hp] at this; cases this
  have le5 : Le H H5 := fun b o e => by
    have nw : b ≠ w := fun z => by rw [z, hw] at e; cases e
    have np : b ≠ p := fun z => by rw [z, hp0] at e; cases e
    have h3 := u3.h b o e
    simp only [if_neg nw] at h3
    have nc : b ≠ c := fun z => by rw [← z, upd_ne np, h3] at hc; cases hc
    exact up5 b nc o (by rw [upd_ne np]; exact h3)
  refine ⟨hp5, [(kq "wide", V.ref w), (kq "cells", .ref c), (kq "rest", .int 0), (kq "turn", .int 0)], rfl, by show 4 ≤ 15; decide, ?_⟩
  rw [merge4]
  have gw0 : G w = none := hin.no hw
  have gp0 : G p = none := hin.no hp0
  have hc0 : H c = none := by
    cases q : H c with
    | none => rfl
    | some o =>
      have := u3.h c o q
      simp only [if_neg ncw] at this
      rw [upd_ne ncp, this] at hc; cases hc
  have gc0 : G c = none := hin.no hc0
  have le6 : Le H (upd H5 p (.dK (dkv w c 0 0))) := fun b o e => by
    rw [upd_ne (fun z => by rw [z, hp0] at e; cases e)]; exact le5 b o e
  refine k p w (upd G c (.lst acc2)) _ (fun b o e => ?_) le6 ⟨fun b o e => ?_, by rw [upd_ne ncp.symm]; exact gp0, by rw [upd_ne ncw.symm]; exact gw0, ?_⟩
  · rw [upd_ne (fun z => by rw [z, gc0] at e; cases e)]; exact e
  · by_cases hb : b = c
    · subst hb; rw [upd_same] at e; cases e; rw [upd_ne ncp]; exact .inl e5
    · rw [upd_ne hb] at e
      exact (hin.ge le6) b o e
  · have ea := rpa_ints (ns := (ns.filter fun c => decide ((10 : Int) ^ (18 : Int).toNat ≤ (c.natAbs : Int))).map fun c => (c.natAbs : Int) - (10 : Int) ^ (18 : Int).toNat) (by rw [List.map_map]; exact r3)
    have eb := rpa_ints (ns := ns.map fun c => (c.natAbs : Int).fmod 2147483629) (by rw [List.map_map]; rw [List.filter_eq_self.mpr (fun _ _ => rfl)] at r5; exact r5)
    refine ⟨c, _, _, 0, 0, upd_same, by rw [upd_ne nwp, hw5, ea], by rw [upd_same, eb], ncw, fun x hx => ?_, by decide, by decide⟩
    obtain ⟨y, _, rfl⟩ := List.mem_map.mp hx
    have := fmod_bd (y.natAbs : Int) 2147483629 (by decide)
    omega
end Z

namespace Z
open PySem PySem.Spec PyProof.Rows L2
def sp__law_shuffled (K : PySem.W.Frag) (ca : Str → Addr) : Sp := fun vs H Q E => ∃ (α : Type) (_ : DecidableEq α) (D : α → PyData) (ok : α → Prop) (dn : Nat) (G : Hp) (m w : Addr) (n : Nat) (v : V) (xs : List α), Eqt D ok dn ∧ dn < 64 ∧ (∀ x ∈ xs, ok x) ∧ vs = [.ref m, v] ∧ DOk m w (n + xs.length) G H ∧ Rp K G v (dL D xs) ∧ xs.length ≤ 100000 ∧
  ∀ u ys G2 H2, List.Perm ys xs → UpM m w G H G2 H2 → DOk m w n G2 H2 → Rp K G2 u (dL D ys) → Q u H2
theorem rpa_app {K : PySem.W.Frag} {G : Hp} : ∀ {v1 v2 : List V} {d1 d2 : List PyData}, RpA K G v1 d1 → RpA K G v2 d2 → RpA K G (v1 ++ v2) (d1 ++ d2)
  | _, _, _, _, .nil, h => h
  | _, _, _, _, .cons h a, h2 => .cons h (rpa_app a h2)
theorem rpa_erase {K : PySem.W.Frag} {G : Hp} : ∀ {v1 : List V} {d1 : List PyData} (k : Nat), RpA K G v1 d1 → RpA K G (v1.eraseIdx k) (d1.eraseIdx k)
  | _, _, _, .nil => .nil
  | _, _, 0, .cons h a => a
  | _, _, k + 1, .cons h a => .cons h (rpa_erase k a)
theorem perm_erase {α : Type} : ∀ (l : List α) (k : Nat) (y : α), l[k]? = some y → List.Perm (y :: l.eraseIdx k) l
  | [], _, _, h => by simp at h
  | x :: l, 0, y, h => by simp at h; subst h; exact List.Perm.refl _
  | x :: l, k + 1, y, h => by
    have := perm_erase l k y (by simpa using h)
    exact (List.Perm.swap x y _).trans (this.cons x)
theorem map_erase {α β : Type} (f : α → β) : ∀ (l : List α) (k : Nat), (l.eraseIdx k).map f = (l.map f).eraseIdx k
  | [], _ => rfl
  | x :: l, 0 => rfl
  | x :: l, k + 1 => by simp [List.eraseIdx, map_erase f l k]
def t__law_shuffled (K : PySem.W.Frag) (ca : Str → Addr) (E : XK) : TS := (tSeq ((tPar 2 3 ((tCons ((tCB (rListOf K) ((tCons ((tVar 1)) (tNil))))) ((tCons ((tLst (tNil))) (tNil))))))) ((tSeq ((tWhile ((tTest (tOp (rNeD K) ((tVar 2)) ((tLst (tNil)))))) ((tDrop ((tBM K "list" rAppend ((tVar 3)) ((tCons ((tBM K "list" rPopAt ((tVar 2)) ((tCons ((tCall (sp__law_take K ca) [] E ((tCons ((tVar 0)) ((tCons ((tCB (rLenU K) ((tCons ((tVar 2)) (tNil))))) (tNil))))))) (tNil))))) (tNil))))))))) ((tRet ((tVar 3)))))))
theorem pure__law_shuffled {K : PySem.W.Frag} {ca : Str → Addr} (vs : List V) (H : Hp) (Q : VK) (E : XK) (h : sp__law_shuffled K ca vs H Q E) : vs.length = 2 ∧ t__law_shuffled K ca E { nx := fun _ H2 => Q .non H2, rt := Q } (start ["_law_draw", "_law_some", "_law_left", "_law_found"] vs) H := by
  obtain ⟨α, _, D, ok, dn, G, m, w, n, v, xs, eq, hdn, hok, rfl, d, hv, hl, k⟩ := h
  refine ⟨rfl, ?_⟩
  obtain ⟨a, vs, rfl, ha, hvs⟩ := rp_ref hv
  refine ⟨.ref a, rfl, a, vs, rfl, .inl (.inl (.inl (d.i.ex ha rfl))), fun p1 hp1 => ⟨Nat.zero_le _, fun p2 hp2 => ⟨_, _, rfl, ?_⟩⟩⟩
  have n12 : p2 ≠ p1 := fun e => by rw [e, upd_same] at hp2; cases hp2
  have hp2' : H p2 = none := by rw [upd_ne n12] at hp2; exact hp2
  have hm0 := d.hm
  have hw0 := d.hw
  have m1 : p1 ≠ m := fun e => hm0 (by rw [← e]; exact hp1)
  have m2 : p2 ≠ m := fun e => hm0 (by rw [← e]; exact hp2')
  have w1 : p1 ≠ w := fun e => hw0 (by rw [← e]; exact hp1)
  have w2 : p2 ≠ w := fun e => hw0 (by rw [← e]; exact hp2')
  have g1 : G p1 = none := d.i.no hp1
  have g2 : G p2 = none := d.i.no hp2'
  have u1 := Up.hid (o := .lst vs) d.i hp1
  have u2 := u1.trans (Up.hid (o := .lst []) u1.i hp2)
  refine ⟨fun M σ H' => ∃ (ls fs : List α) (vl vf : List V), M = ls.length ∧ σ = [some (.ref m), some (.ref a), some (.ref p1), some (.ref p2)] ∧ H' p1 = some (.lst vl) ∧ H' p2 = some (.lst vf) ∧ RpA K G vl (ls.map D) ∧ RpA K G vf (fs.map D) ∧ List.Perm (fs ++ ls) xs ∧ (∀ b, b ≠ m → b ≠ w → ∀ o, H b = some o → H' b = some o) ∧ DOk m w (n + ls.length) G H',
    ⟨_, xs, [], vs, [], rfl, rfl, by rw [upd_ne n12.symm, upd_same], upd_same, hvs, .nil, List.Perm.refl _, fun b _ _ o e => u2.h b o e, d.up u2⟩, ?_⟩
  rintro M σ H' ⟨ls, fs, vl, vf, rfl, rfl, h1, h2, r1, r2, pm, hk, dk⟩
  refine ⟨.ref p1, rfl, Nat.zero_le _, fun q hq => ?_⟩
  have nq1 : p1 ≠ q := fun e => by rw [← e, h1] at hq; cases hq
  have nq2 : p2 ≠ q := fun e => by rw [← e, h2] at hq; cases hq
  have uq := Up.hid (o := .lst []) dk.i hq
  have okl : ∀ x ∈ ls, ok x := fun x hx => hok x (pm.subset (List.mem_append.mpr (.inr hx)))
  have sh1 : SeqAt.shaped (dL D ls) = true := (eqt_L eq).shaped (by omega) okl
  have sh2 : SeqAt.shaped (dL D []) = true := (eqt_L eq).shaped (by omega) (fun _ h => by cases h)
  have df1 : dicFs (ls.map D) = true := by
    have := dicF_of_lay _ (SeqAt.canLay_of_shaped sh1)
    simpa [dL, dicF] using this
  refine ⟨dL D ls, dL D [], .lst (.inl (.inl (by rw [upd_ne nq1]; exact h1))) (r1.dp uq.i df1), .lst (.inl (.inl upd_same)) .nil, sh1, sh2, _, rfl, ?_⟩
  dsimp only
  rw [(eqt_L eq).eq]
  cases ls with
  | nil =>
    rw [if_neg (by simp)]
    obtain rfl := rpa_nil r1
    refine ⟨.ref p2, rfl, ?_⟩
    have dq := dk.up uq
    have hh2 : upd H' q (.lst []) p2 = some (.lst vf) := by rw [upd_ne nq2]; exact h2
    have lg : Le G (upd G p2 (.lst vf)) := fun b o e => by
      rw [upd_ne (fun z => by rw [z, g2] at e; cases e)]; exact e
    have ig : In (upd G p2 (.lst vf)) (upd H' q (.lst [])) := fun b o e => by
      by_cases hb : b = p2
      · subst hb; rw [upd_same] at e; cases e; exact .inl hh2
      · rw [upd_ne hb] at e; exact dq.i b o e
    refine k _ fs _ _ (by simpa using pm) ⟨lg, ig, fun b n1 n2 o e => uq.h b o (hk b n1 n2 o e), fun b o e => ?_⟩ ⟨ig, by rw [upd_ne m2.symm]; exact dq.gm, by rw [upd_ne w2.symm]; exact dq.gw, dq.d.up lg (Le.refl _)⟩ (.lst upd_same (r2.mono lg))
    by_cases hb : b = p2
    · subst hb; exact .inr hp2'
    · rw [upd_ne hb] at e; exact .inl e
  | cons x ls =>
    rw [if_pos (by simp)]
    have dq := dk.up uq
    have hh1 : upd H' q (.lst []) p1 = some (.lst vl) := by rw [upd_ne nq1]; exact h1
    have hh2 : upd H' q (.lst []) p2 = some (.lst vf) := by rw [upd_ne nq2]; exact h2
    have hvl : vl.length = ls.length + 1 := by rw [r1.len, List.length_map, List.length_cons]
    have hlx : fs.length + (ls.length + 1) = xs.length := by have := pm.length_eq; rw [List.length_append, List.length_cons] at this; exact this
    refine ⟨fun σ' H' => ∃ m', m' < (x :: ls).length ∧ ∃ (ls fs : List α) (vl vf : List V), m' = ls.length ∧ σ' = [some (.ref m), some (.ref a), some (.ref p1), some (.ref p2)] ∧ H' p1 = some (.lst vl) ∧ H' p2 = some (.lst vf) ∧ RpA K G vl (ls.map D) ∧ RpA K G vf (fs.map D) ∧ List.Perm (fs ++ ls) xs ∧ (∀ b, b ≠ m → b ≠ w → ∀ o, H b = some o → H' b = some o) ∧ DOk m w (n + ls.length) G H', fun σ' H' z => z, ?_⟩
    refine ⟨.ref p2, rfl, .inl ⟨rfl, _, .inl (.inl hh2)⟩, .ref p1, rfl, .inl ⟨rfl, _, .inl (.inl hh1)⟩, .ref m, rfl, .ref p1, rfl, .ref p1, vl.length, rfl, .inl ⟨vl, .inl (.inl hh1), rfl⟩, ?_⟩
    refine ⟨G, m, w, n + ls.length, (vl.length : Int), rfl, dq.mono (by simp; omega), by omega, by omega, fun i H3 i0 i1 u3 d3 => ?_⟩
    have h31 : H3 p1 = some (.lst vl) := u3.h _ m1 w1 _ hh1
    have h32 : H3 p2 = some (.lst vf) := u3.h _ m2 w2 _ hh2
    obtain ⟨j, rfl⟩ : ∃ j : Nat, i = (j : Int) := ⟨i.toNat, by omega⟩
    have hj : j < (x :: ls).length := by rw [List.length_cons]; omega
    obtain ⟨y, hy1, hy2⟩ := r1.get (i := j) (d := D (x :: ls)[j]) (by rw [List.getElem?_map, List.getElem?_eq_getElem hj]; rfl)
    refine ⟨p1, vl, j, j, y, rfl, rfl, h31, by omega, by omega, ?_, hy1, p2, vf, y, rfl, rfl, by rw [upd_ne n12]; exact h32, ?_, ?_⟩
    · unfold seqIndex?
      simp [hvl]
      omega
    · have : vf.length = fs.length := by rw [r2.len, List.length_map]
      have : vf.length ≤ 100000 := by omega
      exact Nat.lt_of_le_of_lt this (by decide)
    · refine ⟨ls.length, by simp, (x :: ls).eraseIdx j, fs ++ [(x :: ls)[j]], vl.eraseIdx j, vf ++ [y], by rw [List.length_eraseIdx_of_lt hj]; simp, rfl, by rw [upd_ne n12.symm, upd_same], upd_same, by rw [map_erase]; exact rpa_erase j r1, by rw [List.map_append]; exact rpa_app r2 (.cons hy2 .nil), ?_, fun b n1 n2 o e => ?_, ?_⟩
      · rw [List.append_assoc]
        exact (List.Perm.append_left fs (perm_erase _ _ _ (List.getElem?_eq_getElem hj))).trans pm
      · have e1 : b ≠ p1 := fun z => by rw [z, hp1] at e; cases e
        have e2 : b ≠ p2 := fun z => by rw [z, hp2'] at e; cases e
        rw [upd_ne e2, upd_ne e1]
        exact u3.h b n1 n2 o (uq.h b o (hk b n1 n2 o e))
      · obtain ⟨c, ws, cs, r, t, e1, e2, e3, e4, e5, e6, e7⟩ := d3.d
        have hle : ((x :: ls).eraseIdx j).length = ls.length := by rw [List.length_eraseIdx_of_lt hj]; simp
        refine ⟨(d3.i.mut g1).mut g2, d3.gm, d3.gw, c, ws, cs, r, t, by rw [upd_ne m2.symm, upd_ne m1.symm]; exact e1, by rw [upd_ne w2.symm, upd_ne w1.symm]; exact e2, e3, e4, e5, e6, by rw [hle]; exact e7⟩
end Z

namespace Z
open PySem PySem.Spec PyProof.Rows L2
/-! ### expressions that draw -/
/-- t gives a thing of D, one of P, and takes b turns -/
def EvN (K : PySem.W.Frag) (m w : Addr) (b : Nat) (t : TE) (σ : L2.St) (G : Hp) {α : Type} (D : α → PyData) (P : α → Prop) : Prop :=
  ∀ n G1 H1, Le G G1 → DOk m w (n + b) G1 H1 → ∀ Q : VK, (∀ v a G2 H2, UpM m w G1 H1 G2 H2 → DOk m w n G2 H2 → P a → Rp K G2 v (D a) → Q v H2) → t σ H1 Q
def EaN (K : PySem.W.Frag) (m w : Addr) (b : Nat) (t : TA) (σ : L2.St) (G : Hp) (P : List PyData → Prop) : Prop :=
  ∀ n G1 H1, Le G G1 → DOk m w (n + b) G1 H1 → ∀ Q : List V → Hp → Prop, (∀ vs ds G2 H2, UpM m w G1 H1 G2 H2 → DOk m w n G2 H2 → P ds → RpA K G2 vs ds → Q vs H2) → t σ H1 Q
section
variable {K : PySem.W.Frag} {ca : Str → Addr} {E : XK} {σ : L2.St} {G H : Hp} {ta tb te tx : TE} {tt : TT} {wi : TI} {D : Ends} {m w : Addr} {b b' n : Nat}
theorem en_ev {α : Type} {DD : α → PyData} {a : α} (h : Ev K te σ G (DD a)) : EvN K m w 0 te σ G DD (fun x => x = a) := fun n G1 H1 l d Q q => h G1 H1 l d.i Q fun v G2 H2 u r => q v a G2 H2 (.of u) (d.up u) rfl r
theorem EvN.imp {α : Type} {DD : α → PyData} {P P' : α → Prop} (h : EvN K m w b te σ G DD P) (f : ∀ a, P a → P' a) : EvN K m w b te σ G DD P' := fun n G1 H1 l d Q q => h n G1 H1 l d Q fun v a G2 H2 u d2 p r => q v a G2 H2 u d2 (f a p) r
theorem EvN.mono {α : Type} {DD : α → PyData} {P : α → Prop} {G' : Hp} (l : Le G G') (h : EvN K m w b te σ G DD P) : EvN K m w b te σ G' DD P := fun n G1 H1 l1 d Q q => h n G1 H1 (l.trans l1) d Q q
theorem en_take {k : Nat} {tot : Int} (hv : σ[k]? = some (some (.ref m))) (ht : Ev K te σ G (.int tot)) (h0 : 0 < tot) (h1 : tot < 1000000000) : EvN K m w 1 (tCall (sp__law_take K ca) [] E (tCons (tVar k) (tCons te tNil))) σ G dI (fun i => 0 ≤ i ∧ i < tot) := fun n G1 H1 l d Q q =>
  ⟨.ref m, hv, ht G1 H1 l d.i _ fun v G2 H2 u2 r2 => by
    rw [rp_int r2]
    refine ⟨G2, m, w, n, tot, rfl, d.up u2, h0, h1, fun v H3 a1 a2 u3 d3 => q _ v G2 H3 (UpM.trans (d.up u2) (.of u2) u3) d3 ⟨a1, a2⟩ (.int _)⟩⟩
theorem en_op {α β γ : Type} {DA : α → PyData} {DB : β → PyData} {DC : γ → PyData} {PA : α → Prop} {PB : β → Prop} {r : R2} {f : α → β → γ} (ha : EvN K m w b ta σ G DA PA) (hb : EvN K m w b' tb σ G DB PB) (hr : ∀ x y, PA x → PB y → OpV K r (DA x) (DB y) (DC (f x y))) : EvN K m w (b' + b) (tOp r ta tb) σ G DC (fun c => ∃ x y, PA x ∧ PB y ∧ c = f x y) := fun n G1 H1 l d Q q =>
  ha (n + b') G1 H1 l (by rw [Nat.add_assoc]; exact d) _ fun v x G2 H2 u2 d2 p2 r2 => hb n G2 H2 (l.trans u2.g) d2 _ fun v' y G3 H3 u3 d3 p3 r3 =>
    hr x y p2 p3 G3 H3 v v' d3.i (r2.mono u3.g) r3 Q fun z G4 H4 u4 r4 => q z _ G4 H4 (UpM.trans d3 (UpM.trans d2 u2 u3) (.of u4)) (d3.up u4) ⟨x, y, p2, p3, rfl⟩ r4
theorem ean_nil : EaN K m w 0 tNil σ G (fun ds => ds = []) := fun n G1 H1 l d Q q => q [] [] G1 H1 (.refl d.i) d rfl .nil
theorem ean_cons {α : Type} {DA : α → PyData} {PA : α → Prop} {tr : TA} {P : List PyData → Prop} (ha : EvN K m w b ta σ G DA PA) (hr : EaN K m w b' tr σ G P) : EaN K m w (b' + b) (tCons ta tr) σ G (fun ds => ∃ a r, ds = DA a :: r ∧ PA a ∧ P r) := fun n G1 H1 l d Q q =>
  ha (n + b') G1 H1 l (by rw [Nat.add_assoc]; exact d) _ fun v x G2 H2 u2 d2 p2 r2 => hr n G2 H2 (l.trans u2.g) d2 _ fun vs ds G3 H3 u3 d3 p3 r3 =>
    q (v :: vs) (DA x :: ds) G3 H3 (UpM.trans d2 u2 u3) d3 ⟨x, ds, rfl, p2, p3⟩ (.cons (r2.mono u3.g) r3)
/-- a shuffled list -/
theorem en_shuffled {α : Type} [DecidableEq α] {DD : α → PyData} {ok : α → Prop} {dn : Nat} {xs : List α} {k : Nat} (hv : σ[k]? = some (some (.ref m))) (ht : Ev K te σ G (dL DD xs)) (eq : Eqt DD ok dn) (hdn : dn < 64) (hok : ∀ x ∈ xs, ok x) (hl : xs.length ≤ 100000) :
    EvN K m w xs.length (tCall (sp__law_shuffled K ca) [] E (tCons (tVar k) (tCons te tNil))) σ G (dL DD) (fun ys => List.Perm ys xs) := fun n G1 H1 l d Q q =>
  ⟨.ref m, hv, ht G1 H1 l d.i _ fun v G2 H2 u2 r2 => by
    refine ⟨α, inferInstance, DD, ok, dn, G2, m, w, n, v, xs, eq, hdn, hok, rfl, d.up u2, r2, hl, fun v ys G3 H3 pm u3 d3 r3 => q _ ys G3 H3 (UpM.trans (d.up u2) (.of u2) u3) d3 pm r3⟩⟩
theorem en_slL {α : Type} {DD : α → PyData} {P : List α → Prop} {tl th : TO} {lo hi : Option Int} (h : EvN K m w b te σ G (dL DD) P) (hl : ∀ G1, Le G G1 → EvO tl σ G1 lo) (hh : ∀ G1, Le G G1 → EvO th σ G1 hi) : EvN K m w b (tSl (rSlL K) te tl th) σ G (dL DD) (fun ys => ∃ xs, P xs ∧ ys = cutL xs lo hi) := fun n G1 H1 l d Q q =>
  h n G1 H1 l d _ fun v xs G2 H2 u2 d2 p2 r2 => by
    have e : Ev K (fun _ H Q => Q v H) σ G2 (dL DD xs) := fun G3 H3 l3 i3 Q q => q v G3 H3 (Up.refl i3) (r2.mono l3)
    exact ev_slLT e (hl G2 (l.trans u2.g)) (hh G2 (l.trans u2.g)) G2 H2 (Le.refl _) d2.i Q fun z G3 H3 u3 r3 => q z _ G3 H3 (UpM.trans d2 u2 (.of u3)) (d2.up u3) ⟨xs, p2, rfl⟩ r3
/-! statements that draw -/
theorem sn_set {α : Type} {DD : α → PyData} {P : α → Prop} {i : Nat} (h : EvN K m w b te σ G DD P) (d : DOk m w (n + b) G H) (k : ∀ v a G2 H2, UpM m w G H G2 H2 → DOk m w n G2 H2 → P a → Rp K G2 v (DD a) → D.nx (σ.set i (some v)) H2) : tAsg te (gName i) D σ H := h n G H (Le.refl _) d _ k
theorem sn_tup3 {tr : TA} {P : List PyData → Prop} {i j l : Nat} (h : EaN K m w b tr σ G P) (d : DOk m w (n + b) G H) (hP : ∀ ds, P ds → ds.length = 3) (k : ∀ v1 v2 v3 d1 d2 d3 G2 H2, UpM m w G H G2 H2 → DOk m w n G2 H2 → P [d1, d2, d3] → Rp K G2 v1 d1 → Rp K G2 v2 d2 → Rp K G2 v3 d3 → D.nx (((σ.set i (some v1)).set j (some v2)).set l (some v3)) H2) : tAsg (tTup tr) (gTup K 3 (gCons (gName i) (gCons (gName j) (gCons (gName l) gNil)))) D σ H :=
  h n G H (Le.refl _) d _ fun vs ds G2 H2 u2 d2 p2 r2 => by
    have h3 := hP ds p2
    match ds, h3, p2, r2 with
    | [e1, e2, e3], _, p2, r2 =>
      obtain ⟨v1, ws, rfl, q1, r2⟩ := rpa_cons r2
      obtain ⟨v2, ws, rfl, q2, r2⟩ := rpa_cons r2
      obtain ⟨v3, ws, rfl, q3, r2⟩ := rpa_cons r2
      obtain rfl := rpa_nil r2
      refine ⟨by show 3 ≤ sizeLine; decide, fun p hp => ⟨p, _, rfl, .inl (.inl upd_same), rfl, _, _, rfl, _, _, rfl, _, _, rfl, rfl, ?_⟩⟩
      have u3 := Up.hid (o := .tup [v1, v2, v3]) d2.i hp
      exact k v1 v2 v3 e1 e2 e3 G2 _ (UpM.trans d2 u2 (.of u3)) (d2.up u3) p2 q1 q2 q3
theorem sn_list2 {α : Type} {DD : α → PyData} {P : List α → Prop} {i j : Nat} (h : EvN K m w b te σ G (dL DD) P) (d : DOk m w (n + b) G H) (hP : ∀ ds, P ds → ds.length = 2) (k : ∀ v1 v2 a1 a2 G2 H2, UpM m w G H G2 H2 → DOk m w n G2 H2 → P [a1, a2] → Rp K G2 v1 (DD a1) → Rp K G2 v2 (DD a2) → D.nx ((σ.set i (some v1)).set j (some v2)) H2) : tAsg te (gUnl K 2 (gCons (gName i) (gCons (gName j) gNil))) D σ H :=
  h n G H (Le.refl _) d _ fun v ds G2 H2 u2 d2 p2 r2 => by
    have h3 := hP ds p2
    match ds, h3, p2, r2 with
    | [e1, e2], _, p2, r2 =>
      obtain ⟨p, xs, rfl, h1, r2⟩ := rp_ref r2
      have r2 : RpA K G2 xs [DD e1, DD e2] := r2
      obtain ⟨v1, ws, rfl, q1, r2⟩ := rpa_cons r2
      obtain ⟨v2, ws, rfl, q2, r2⟩ := rpa_cons r2
      obtain rfl := rpa_nil r2
      exact ⟨p, _, rfl, .inl (.inl (d2.i.ex h1 rfl)), rfl, _, _, rfl, _, _, rfl, rfl, k v1 v2 e1 e2 G2 H2 u2 d2 p2 q1 q2⟩
/-- a for whose turns draw: Sl is kept of the slots -/
theorem sn_for {α : Type} {DD : α → PyData} {xs : List α} {k : Nat} {tb : TS} (Sl : L2.St → Prop) (hi : EvI K wi σ G (xs.map DD)) (d : DOk m w (n + b * xs.length) G H) (h0 : Sl σ)
    (body : ∀ z ∈ xs, ∀ σ1 G1 H1 x r, Sl σ1 → Le G G1 → DOk m w (r + b) G1 H1 → Rp K G1 x (DD z) → ∀ D2 : Ends, (∀ σ2 G2 H2, Sl σ2 → Le G1 G2 → DOk m w r G2 H2 → D2.nx σ2 H2) → tb D2 (σ1.set k (some x)) H1)
    (hn : ∀ σ2 G2 H2, Sl σ2 → Le G G2 → DOk m w n G2 H2 → D.nx σ2 H2) : tFor wi (gName k) tb D σ H := by
  refine s_for hi d.i fun G0 H0 u0 => ⟨fun i σ1 G1 H1 => Sl σ1 ∧ Le G G1 ∧ Le G0 G1 ∧ DOk m w (n + b * (xs.length - i)) G1 H1, ⟨h0, u0.g, Le.refl _, d.up u0⟩, fun i σ1 G1 H1 h => ⟨h.2.2.1, h.2.2.2.i⟩, ?_, ?_⟩
  · rintro i e x σ1 G1 H1 G2 H2 hd ⟨h1, h2, h3, h4⟩ u2 r2
    rw [List.getElem?_map] at hd
    cases hz : xs[i]? with
    | none => rw [hz] at hd; cases hd
    | some z =>
      rw [hz] at hd
      cases hd
      have hlt : i < xs.length := (List.getElem?_eq_some_iff.mp hz).1
      show tb _ (σ1.set k (some x)) H2
      refine body z (List.mem_of_getElem? hz) σ1 G2 H2 x (n + b * (xs.length - (i + 1))) h1 (h2.trans u2.g) ?_ r2 _ (fun σ2 G3 H3 s3 l3 d3 => ⟨G3, s3, h2.trans (u2.g.trans l3), h3.trans (u2.g.trans l3), d3⟩)
      have e : n + b * (xs.length - (i + 1)) + b = n + b * (xs.length - i) := by
        have : xs.length - i = (xs.length - (i + 1)) + 1 := by omega
        rw [this, Nat.mul_add, Nat.mul_one, Nat.add_assoc]
      rw [e]
      exact h4.up u2
  · rintro σ1 G1 H1 ⟨h1, h2, _, h4⟩
    rw [List.length_map, Nat.sub_self, Nat.mul_zero, Nat.add_zero] at h4
    exact hn σ1 G1 H1 h1 h2 h4
end
end Z

namespace Z
open PySem PySem.Spec PyProof.Rows L2
section
variable {K : PySem.W.Frag} {σ : L2.St} {G H : Hp} {ta tb te tk tv : TE} {tt : TT} {wi : TI} {D : Ends}
/-! ### dict displays -/
def EvPs (K : PySem.W.Frag) (trs : List (TE × TE)) (σ : L2.St) (G : Hp) (es : List (Key × PyData)) : Prop :=
  ∀ G1 H1, Le G G1 → In G1 H1 → ∀ Q : List (V × V) → Hp → Prop, (∀ kvs G2 H2, Up G1 H1 G2 H2 → RpE K G2 kvs es → Q (kvs.map fun e => (kV e.1, e.2)) H2) → tPairs trs σ H1 Q
theorem ep_nil : EvPs K [] σ G [] := fun G1 H1 l i Q q => q [] G1 H1 (Up.refl i) .nil
theorem rp_key {v : V} {k : Key} (h : Rp K G v (kD k)) : v = kV k := by
  cases k with
  | inl i => exact rp_int h
  | inr x => exact rp_str h
theorem ep_cons {k : Key} {d : PyData} {trs : List (TE × TE)} {es : List (Key × PyData)} (ha : Ev K tk σ G (kD k)) (hb : Ev K tv σ G d) (hr : EvPs K trs σ G es) : EvPs K ((tk, tv) :: trs) σ G ((k, d) :: es) := fun G1 H1 l i Q q =>
  ha G1 H1 l i _ fun x G2 H2 u2 p2 => hb G2 H2 (l.trans u2.g) u2.i _ fun y G3 H3 u3 p3 => hr G3 H3 (l.trans (u2.g.trans u3.g)) u3.i _ fun kvs G4 H4 u4 r4 => by
    rw [rp_key p2]
    exact q ((k, y) :: kvs) G4 H4 ((u2.trans u3).trans u4) (.cons (p3.mono u4.g) r4)
theorem rpe_merge : ∀ {kvs : List (Key × V)} {es : List (Key × PyData)}, RpE K G kvs es → ∀ {k0 : List (Key × V)} {e0 : List (Key × PyData)}, RpE K G k0 e0 → RpE K G (kvs.foldl (fun acc kv => putK acc kv.1 kv.2) k0) (es.foldl (fun acc e => putE acc e.1 e.2) e0)
  | _, _, .nil, _, _, h => h
  | _, _, .cons p a, _, _, h => rpe_merge a (RpE.put h p)
theorem mrgE_map {α β : Type} (f : α → β) (es : List (Key × α)) : mrgE (es.map fun e => (e.1, f e.2)) = (mrgE es).map fun e => (e.1, f e.2) := by
  have put : ∀ (a : List (Key × α)) k v, putE (a.map fun e => (e.1, f e.2)) k (f v) = (putE a k v).map fun e => (e.1, f e.2) := by
    intro a k v
    unfold putE
    rw [List.any_map]
    have e : (fun e : Key × α => decide (e.1 = k)) = ((fun e : Key × β => decide (e.1 = k)) ∘ fun e : Key × α => (e.1, f e.2)) := rfl
    rw [← e]
    cases a.any fun e => decide (e.1 = k) with
    | true =>
      simp only [if_true, List.map_map]
      refine List.map_congr_left fun x _ => ?_
      simp only [Function.comp]
      split <;> rfl
    | false => simp
  have go : ∀ (es a : List (Key × α)), (es.map fun e => (e.1, f e.2)).foldl (fun acc e => putE acc e.1 e.2) (a.map fun e => (e.1, f e.2)) = (es.foldl (fun acc e => putE acc e.1 e.2) a).map fun e => (e.1, f e.2) := by
    intro es
    induction es with
    | nil => intro a; rfl
    | cons e es ih => intro a; simp only [List.map_cons, List.foldl_cons, put, ih]
  exact go es []
theorem ev_disp {α : Type} {DE : α → PyData} {trs : List (TE × TE)} {es : List (Key × α)} (h : EvPs K trs σ G (es.map fun e => (e.1, DE e.2))) (hl : es.length ≤ 15) : Ev K (tDisp trs) σ G (dM DE (mrgE es)) := fun G1 H1 l i Q q => fun p hp => by
  have i1 : In G1 (upd H1 p (.dK [])) := i.mut (i.no hp)
  refine h G1 _ l i1 _ fun kvs G2 H2 u2 r2 => ?_
  have hp2 : H2 p = some (.dK []) := u2.h _ _ upd_same
  have gp2 : G2 p = none := u2.hide (by rw [upd_same]; intro z; cases z) (i.no hp)
  refine ⟨hp2, kvs, rfl, by rw [r2.len, List.length_map]; exact hl, ?_⟩
  have lg : Le G2 (upd G2 p (.dK (mergeK [] kvs))) := fun b o e => by
    rw [upd_ne (fun z => by rw [z, gp2] at e; cases e)]; exact e
  refine q _ (upd G2 p (.dK (mergeK [] kvs))) _ ⟨fun b o e => lg b o (u2.g b o e), fun b o e => ?_, fun b o e => ?_, fun b o e => ?_⟩ ?_
  · by_cases hb : b = p
    · subst hb; rw [upd_same] at e ⊢; exact .inl e
    · rw [upd_ne hb] at e ⊢; exact u2.i b o e
  · have nb : b ≠ p := fun z => by rw [z, hp] at e; cases e
    rw [upd_ne nb]
    exact u2.h b o (by rw [upd_ne nb]; exact e)
  · by_cases hb : b = p
    · subst hb; exact .inr hp
    · rw [upd_ne hb] at e
      rcases u2.n b o e with z | z
      · exact .inl z
      · rw [upd_ne hb] at z; exact .inr z
  · have r3 : RpE K G2 (mergeK [] kvs) (mrgE (es.map fun e => (e.1, DE e.2))) := rpe_merge r2 .nil
    rw [mrgE_map] at r3
    exact .dic upd_same (rpe_to (r3.mono lg))
/-! ### `!=` of things that are the same -/
theorem opv_neSe {a b : W} (h : a = b) : OpV K rNe (dS a) (dS b) (.bool false) := by
  subst h; have := opv_neS (K := K) (a := a) (b := a); simpa using this
theorem opv_neIe {a b : Int} (h : a = b) : OpV K rNe (dI a) (dI b) (.bool false) := by
  subst h; have := opv_neI (K := K) (i := a) (j := a); simpa using this
theorem opv_neBe {a b : Bool} (h : a = b) : OpV K rNe (dB a) (dB b) (.bool false) := by
  subst h; have := opv_neB (K := K) (i := a) (j := a); simpa using this
theorem opv_neTe {α : Type} [DecidableEq α] {DD : α → PyData} {ok : α → Prop} {n : Nat} (e : Eqt DD ok n) {a b : α} (h : a = b) (hb : ok b) (hn : n ≤ 64) : OpV K (rNeD K) (DD a) (DD b) (.bool false) := by
  subst h; have := opv_neT (K := K) e (a := a) (b := a) ⟨hb, hb, hn⟩; simpa using this
theorem opv_neMI {a b : List (Key × Int)} (h : a = b) (hv : ∀ e ∈ b, valK b e.1 = some e.2) : OpV K rNeDic (dM dI a) (dM dI b) (.bool false) := by
  subst h
  refine opv_neDic rfl fun k d hm => ?_
  obtain ⟨e, he, eq⟩ := List.mem_map.mp hm
  obtain ⟨rfl, rfl⟩ := Prod.mk.inj eq
  have := hv e he
  refine ⟨?_, rfl⟩
  unfold valK at this ⊢
  rw [List.find?_map]
  cases q : a.find? (fun x => decide (x.1 = e.1)) with
  | none => rw [q] at this; cases this
  | some x =>
    rw [q] at this
    have e2 : (fun e_1 : Key × PyData => decide (e_1.1 = e.1)) ∘ (fun e : Key × Int => (e.1, dI e.2)) = fun x => decide (x.1 = e.1) := rfl
    rw [e2, q]
    simp only [Option.map_some, Option.some.injEq] at this ⊢
    rw [this]
/-! ### the script -/
theorem ev_lenScr {k : Nat} {a : Addr} {ns : List Int} (hv : σ[k]? = some (some (.ref a))) (h : SqL K G a (ns.map .int)) : Ev K (tCB (rLenU K) (tCons (tVar k) tNil)) σ G (.int (ns.length : Int)) := fun G1 H1 l i Q q =>
  ⟨.ref a, hv, .ref a, ns.length, rfl, .inl ⟨_, sql_in (sql_le h l) i, by rw [List.length_map]⟩, q _ G1 H1 (Up.refl i) (.int _)⟩
theorem and_dec {p : Prop} {b : Bool} [Decidable p] (h : (decide p && b) = true) : p ∧ b = true := by
  rw [Bool.and_eq_true] at h
  exact ⟨of_decide_eq_true h.1, h.2⟩
end
end Z

namespace Z
open PySem PySem.Spec PyProof.Rows L2
theorem walkW {l : PySem.W.OpenLaw} {n k : Nat} {q : Program} {loose : List Str} {XP : (Str → Option Value) → Heap → Prop} {YP : World → Heap → Prop} {d : DefRec} {CX : World → CXT} {x : Str}
    (hn : l.most = some n) (hn2 : n ≤ sizeLine) (hdf : d.params.defaults = []) (hr : Room k callerA)
    (F : ∀ (w : World) (mg : Str → Option Value) (fa : Addr) (h : Heap), YP w h → h.Ns mainGlobals mg → mg d.name = some (.ref fa) →
      ∃ (K : PySem.W.Frag) (fd : FuncData) (sp : Sp), K.In h ∧ (∀ (s : Shared) (u : Value), BindsTo s fd ⟨[u], []⟩ [(x, u)]) ∧
        (∀ (H : Hp) (a : Addr) (ns : List Int), ns.length ≤ n → Only H → SqL K H a (ns.map V.int) → sp [.ref a] H (fun v _ => v = .bl true) fun _ _ _ => False) ∧
        ∀ base : Heap, K.In base → base.Ns mainGlobals mg → FnOk l.prog w K mg base (CX w) k fa fd [x] sp)
    (hX : ∀ (w : World) (H : Hp) (s : Shared) (e : Value) (s' : Shared), CX w [] H s (fun _ _ _ => False) e s' → False) :
    PySem.W.WalkO q loose XP YP l.row.toRowW d [] (fun f vs => PySem.call f vs) := by
  refine Att.attach_call hn hdf fun w t0 t1 mg mb fa o pm cd doc a vs ns G Y ho hd hcd hmg hob hin hle hgn => ?_
  obtain ⟨K, fd, sp, KX, hb, hsp, hF⟩ := F w mg fa _ Y G.T.g hmg
  exact law_call KX G.T.g G.T.b G.T.builtins G.T.nolimit hgn hob hin (Nat.le_trans hle hn2) hr hF hb (fun H hO hS => hsp H a ns hle hO hS) fun H e s' => hX w H t1 e s'
end Z

namespace Z
open PySem PySem.Spec PyProof.Rows L2
def k08_law_text (x_v : Nat) (y_v : Nat) (i_v : Int) (j_v : Int) (many_v : Int) : W := (((List.replicate (i_v).toNat [x_v]).flatten ++ [y_v]) ++ (List.replicate (j_v).toNat [x_v]).flatten)
def k08_law_low (x_v : Nat) (y_v : Nat) (i_v : Int) (j_v : Int) (many_v : Int) : Int := (min i_v j_v)
def k08_law_whole (x_v : Nat) (y_v : Nat) (i_v : Int) (j_v : Int) (many_v : Int) : W := (List.replicate (many_v).toNat (k08_law_text x_v y_v i_v j_v many_v)).flatten
def k08_law_due (x_v : Nat) (y_v : Nat) (i_v : Int) (j_v : Int) (many_v : Int) : (List Int) := ((rng (1 : Int) (((k08_law_low x_v y_v i_v j_v many_v) + (1 : Int)) - (1 : Int)).toNat) ++ (List.map (fun law_k_v => ((List.length (k08_law_text x_v y_v i_v j_v many_v) : Int) * law_k_v)) (rng (1 : Int) (many_v - (1 : Int)).toNat)))
def k08_law_ring_here (x_v : Nat) (y_v : Nat) (i_v : Int) (j_v : Int) (many_v : Int) : W := (if (decide ([x_v] < [y_v])) then ((List.replicate ((i_v + j_v)).toNat [x_v]).flatten ++ [y_v]) else ([y_v] ++ (List.replicate ((i_v + j_v)).toNat [x_v]).flatten))
def k08_law_alone (x_v : Nat) (y_v : Nat) (i_v : Int) (j_v : Int) (many_v : Int) : W := (List.replicate (((1 : Int) + i_v)).toNat [x_v]).flatten
def fit08 (x_v : Nat) (y_v : Nat) (i_v : Int) (j_v : Int) (many_v : Int) : Bool := decide (List.length [x_v] * (i_v).toNat ≤ 10000000) && (decide (-1000000 ≤ i_v ∧ i_v ≤ 1000000) && (decide (List.length (List.replicate (i_v).toNat [x_v]).flatten + List.length [y_v] ≤ 10000000) && (decide (List.length [x_v] * (j_v).toNat ≤ 10000000) && (decide (-1000000 ≤ j_v ∧ j_v ≤ 1000000) && (decide (List.length ((List.replicate (i_v).toNat [x_v]).flatten ++ [y_v]) + List.length (List.replicate (j_v).toNat [x_v]).flatten ≤ 10000000) && (decide (wordB ((k08_law_text x_v y_v i_v j_v many_v)) = true) && (decide (List.length ((k08_law_text x_v y_v i_v j_v many_v)) ≤ 10000) && (decide (0 ≤ (1 : Int)) && (decide ((1 : Int) ≤ 1000000) && (decide (-1000000 ≤ ((k08_law_low x_v y_v i_v j_v many_v) + (1 : Int))) && (decide (((k08_law_low x_v y_v i_v j_v many_v) + (1 : Int)) ≤ 1000000) && (decide ((m_borders ((k08_law_text x_v y_v i_v j_v many_v))) = (rng (1 : Int) (((k08_law_low x_v y_v i_v j_v many_v) + (1 : Int)) - (1 : Int)).toNat)) && (decide (List.length ((k08_law_text x_v y_v i_v j_v many_v)) ≤ 2000) && (decide ((m_root ((k08_law_text x_v y_v i_v j_v many_v))) = ((k08_law_text x_v y_v i_v j_v many_v), (1 : Int))) && (decide (∀ c ∈ (Prod.fst ((k08_law_text x_v y_v i_v j_v many_v), (1 : Int))), c < 256) && (decide (List.length (k08_law_text x_v y_v i_v j_v many_v) * (many_v).toNat ≤ 10000000) && (decide (-1000000 ≤ many_v ∧ many_v ≤ 1000000) && (decide (-(2 ^ 62) ≤ (1 : Int)) && (decide ((1 : Int) < 2 ^ 62) && (decide (-(2 ^ 62) ≤ many_v) && (decide (many_v < 2 ^ 62) && (decide (List.length (rng (1 : Int) (((k08_law_low x_v y_v i_v j_v many_v) + (1 : Int)) - (1 : Int)).toNat) + List.length (List.map (fun law_k_v => ((List.length (k08_law_text x_v y_v i_v j_v many_v) : Int) * law_k_v)) (rng (1 : Int) (many_v - (1 : Int)).toNat)) ≤ 1000000) && (decide (wordB ((k08_law_whole x_v y_v i_v j_v many_v)) = true) && (decide (List.length ((k08_law_whole x_v y_v i_v j_v many_v)) ≤ 10000) && (decide ((m_borders ((k08_law_whole x_v y_v i_v j_v many_v))) = (k08_law_due x_v y_v i_v j_v many_v)) && (decide (List.length ((k08_law_whole x_v y_v i_v j_v many_v)) ≤ 2000) && (decide ((m_root ((k08_law_whole x_v y_v i_v j_v many_v))) = ((k08_law_text x_v y_v i_v j_v many_v), many_v)) && (decide (∀ c ∈ (Prod.fst ((k08_law_text x_v y_v i_v j_v many_v), many_v)), c < 256) && (decide (wordB ([y_v]) = true) && (decide (List.length ([y_v]) ≤ 10000) && (decide ((m_occurrences ((k08_law_whole x_v y_v i_v j_v many_v)) ([y_v])) = (List.map (fun law_k_v => (i_v + ((List.length (k08_law_text x_v y_v i_v j_v many_v) : Int) * law_k_v))) (rng 0 (many_v).toNat))) && (decide (((decide ([x_v] < [y_v])) = true) → List.length [x_v] * ((i_v + j_v)).toNat ≤ 10000000) && (decide (((decide ([x_v] < [y_v])) = true) → -1000000 ≤ (i_v + j_v) ∧ (i_v + j_v) ≤ 1000000) && (decide (((decide ([x_v] < [y_v])) = true) → List.length (List.replicate ((i_v + j_v)).toNat [x_v]).flatten + List.length [y_v] ≤ 10000000) && (decide (((decide ([x_v] < [y_v])) = false) → List.length [x_v] * ((i_v + j_v)).toNat ≤ 10000000) && (decide (((decide ([x_v] < [y_v])) = false) → -1000000 ≤ (i_v + j_v) ∧ (i_v + j_v) ≤ 1000000) && (decide (((decide ([x_v] < [y_v])) = false) → List.length [y_v] + List.length (List.replicate ((i_v + j_v)).toNat [x_v]).flatten ≤ 10000000) && (decide (List.length (k08_law_ring_here x_v y_v i_v j_v many_v) * (many_v).toNat ≤ 10000000) && (decide ((m_ring_of ((k08_law_whole x_v y_v i_v j_v many_v))) = (List.replicate (many_v).toNat (k08_law_ring_here x_v y_v i_v j_v many_v)).flatten) && (decide ((m_is_ringW ((k08_law_whole x_v y_v i_v j_v many_v))) = (decide ((k08_law_whole x_v y_v i_v j_v many_v) = (List.replicate (many_v).toNat (k08_law_ring_here x_v y_v i_v j_v many_v)).flatten))) && (decide (0 ≤ (i_v) ∧ (i_v) < List.length ((k08_law_text x_v y_v i_v j_v many_v))) && (decide (List.length [x_v] * ((j_v + i_v)).toNat ≤ 10000000) && (decide (-1000000 ≤ (j_v + i_v) ∧ (j_v + i_v) ≤ 1000000) && (decide (List.length [y_v] + List.length (List.replicate ((j_v + i_v)).toNat [x_v]).flatten ≤ 10000000) && (decide ((m_turn ((k08_law_text x_v y_v i_v j_v many_v)) (i_v)) = ([y_v] ++ (List.replicate ((j_v + i_v)).toNat [x_v]).flatten)) && (decide (wordB ((k08_law_ring_here x_v y_v i_v j_v many_v)) = true) && (decide (List.length ((k08_law_ring_here x_v y_v i_v j_v many_v)) ≤ 10000) && (decide (m_least_turn ((k08_law_ring_here x_v y_v i_v j_v many_v)) = ((k08_law_ring_here x_v y_v i_v j_v many_v))) && (decide ((List.length (m_ring_occurrences ((k08_law_ring_here x_v y_v i_v j_v many_v)) ([y_v])) : Int) = (1 : Int)) && (decide (List.length [x_v] * (((1 : Int) + i_v)).toNat ≤ 10000000) && (decide (-1000000 ≤ ((1 : Int) + i_v) ∧ ((1 : Int) + i_v) ≤ 1000000) && (decide (wordB ((k08_law_alone x_v y_v i_v j_v many_v)) = true) && (decide (List.length ((k08_law_alone x_v y_v i_v j_v many_v)) ≤ 10000) && (decide (-1000000 ≤ ((1 : Int) + i_v)) && (decide (((1 : Int) + i_v) ≤ 1000000) && (decide ((m_borders ((k08_law_alone x_v y_v i_v j_v many_v))) = (rng (1 : Int) (((1 : Int) + i_v) - (1 : Int)).toNat)) && (decide (List.length ((k08_law_alone x_v y_v i_v j_v many_v)) ≤ 2000) && (decide ((m_root ((k08_law_alone x_v y_v i_v j_v many_v))) = ([x_v], ((1 : Int) + i_v))) && (decide (∀ c ∈ (Prod.fst ([x_v], ((1 : Int) + i_v))), c < 256) && (decide (List.length ((k08_law_alone x_v y_v i_v j_v many_v)) ≤ 60) && (decide (1 ≤ ((1 : Int)) ∧ ((1 : Int)) ≤ 120) && (decide ((m_pieces ((k08_law_alone x_v y_v i_v j_v many_v)) ((1 : Int))) = (mrgE ([(((Sum.inr (S [x_v])) : Key), ((1 : Int) + i_v))] : List (Key × Int)))) && (decide (∀ e ∈ (mrgE ([(((Sum.inr (S [x_v])) : Key), ((1 : Int) + i_v))] : List (Key × Int))), valK (mrgE ([(((Sum.inr (S [x_v])) : Key), ((1 : Int) + i_v))] : List (Key × Int))) e.1 = some e.2) && (decide (m_least_turn ((k08_law_alone x_v y_v i_v j_v many_v)) = ((k08_law_alone x_v y_v i_v j_v many_v))) && (decide (1 ≤ ((9 : Int)) ∧ ((9 : Int)) ≤ 120) && (decide (List.length [x_v] * ((9 : Int)).toNat ≤ 10000000) && (decide (-1000000 ≤ (9 : Int) ∧ (9 : Int) ≤ 1000000) && (decide ((m_ring_pieces ((k08_law_alone x_v y_v i_v j_v many_v)) ((9 : Int))) = (mrgE ([(((Sum.inr (S (List.replicate ((9 : Int)).toNat [x_v]).flatten)) : Key), ((1 : Int) + i_v))] : List (Key × Int)))) && (decide (∀ e ∈ (mrgE ([(((Sum.inr (S (List.replicate ((9 : Int)).toNat [x_v]).flatten)) : Key), ((1 : Int) + i_v))] : List (Key × Int))), valK (mrgE ([(((Sum.inr (S (List.replicate ((9 : Int)).toNat [x_v]).flatten)) : Key), ((1 : Int) + i_v))] : List (Key × Int))) e.1 = some e.2) && (decide (wordB ((List.replicate (((1 : Int) + i_v)).toNat [x_v]).flatten) = true) && (decide (List.length ((List.replicate (((1 : Int) + i_v)).toNat [x_v]).flatten) ≤ 10000) && (decide ((m_occurrences ((k08_law_alone x_v y_v i_v j_v many_v)) ((List.replicate (((1 : Int) + i_v)).toNat [x_v]).flatten)) = ([(0 : Int)] : List Int)) && (decide (List.length ((k08_law_text x_v y_v i_v j_v many_v)) ≤ 60) && (decide (((decide ((0 : Int) < (i_v + j_v))) = true) → List.length [x_v] * ((min (max i_v j_v) ((1 : Int) + i_v))).toNat ≤ 10000000) && (decide (((decide ((0 : Int) < (i_v + j_v))) = true) → -1000000 ≤ (min (max i_v j_v) ((1 : Int) + i_v)) ∧ (min (max i_v j_v) ((1 : Int) + i_v)) ≤ 1000000) && (decide ((m_longest_common ((k08_law_text x_v y_v i_v j_v many_v)) ((k08_law_alone x_v y_v i_v j_v many_v))) = (if (decide ((0 : Int) < (i_v + j_v))) then ([(List.replicate ((min (max i_v j_v) ((1 : Int) + i_v))).toNat [x_v]).flatten] : List W) else ([] : List W))) && (decide (∀ x ∈ (if (decide ((0 : Int) < (i_v + j_v))) then ([(List.replicate ((min (max i_v j_v) ((1 : Int) + i_v))).toNat [x_v]).flatten] : List W) else ([] : List W)), ∀ c ∈ x, c < 256) && (true))))))))))))))))))))))))))))))))))))))))))))))))))))))))))))))))))))))))))))))
def dom08 (f : Nat → Nat → Int → Int → Int → Bool) (x y : Nat) : Bool := (rng 0 6).all fun i => (rng 0 6).all fun j => (rng 1 4).all fun m => f x y i j m
end Z

namespace Z
open PySem PySem.Spec PyProof.Rows L2
theorem fit_97_99 : dom08 fit08 97 99 = true := by decide +kernel
theorem fit_97_103 : dom08 fit08 97 103 = true := by decide +kernel
theorem fit_97_116 : dom08 fit08 97 116 = true := by decide +kernel
theorem fit_99_97 : dom08 fit08 99 97 = true := by decide +kernel
theorem fit_99_103 : dom08 fit08 99 103 = true := by decide +kernel
theorem fit_99_116 : dom08 fit08 99 116 = true := by decide +kernel
theorem fit_103_97 : dom08 fit08 103 97 = true := by decide +kernel
theorem fit_103_99 : dom08 fit08 103 99 = true := by decide +kernel
theorem fit_103_116 : dom08 fit08 103 116 = true := by decide +kernel
theorem fit_116_97 : dom08 fit08 116 97 = true := by decide +kernel
theorem fit_116_99 : dom08 fit08 116 99 = true := by decide +kernel
theorem fit_116_103 : dom08 fit08 116 103 = true := by decide +kernel
theorem mem_rng {a lo : Int} {n : Nat} (h : lo ≤ a ∧ a < lo + n) : a ∈ rng lo n := by
  unfold rng
  exact List.mem_map.mpr ⟨(a - lo).toNat, List.mem_range.mpr (by omega), by omega⟩
theorem dom08_at {f : Nat → Nat → Int → Int → Int → Bool} {x y : Nat} (h : dom08 f x y = true) {i j m : Int} (di : 0 ≤ i ∧ i < 6) (dj : 0 ≤ j ∧ j < 6) (dm : 1 ≤ m ∧ m < 5) : f x y i j m = true := by
  unfold dom08 at h
  exact List.all_eq_true.mp (List.all_eq_true.mp (List.all_eq_true.mp h i (mem_rng (by omega))) j (mem_rng (by omega))) m (mem_rng (by omega))
theorem fit08_ok (x_v y_v : Nat) (i_v j_v many_v : Int) (dx : x_v ∈ [97, 99, 103, 116]) (dy : y_v ∈ [97, 99, 103, 116]) (dxy : x_v ≠ y_v) (di : 0 ≤ i_v ∧ i_v < 6) (dj : 0 ≤ j_v ∧ j_v < 6) (dm : 1 ≤ many_v ∧ many_v < 5) : fit08 x_v y_v i_v j_v many_v = true := by
  simp only [List.mem_cons, List.not_mem_nil, or_false] at dx dy
  rcases dx with rfl | rfl | rfl | rfl <;> rcases dy with rfl | rfl | rfl | rfl
  · exact absurd rfl dxy
  · exact dom08_at fit_97_99 di dj dm
  · exact dom08_at fit_97_103 di dj dm
  · exact dom08_at fit_97_116 di dj dm
  · exact dom08_at fit_99_97 di dj dm
  · exact absurd rfl dxy
  · exact dom08_at fit_99_103 di dj dm
  · exact dom08_at fit_99_116 di dj dm
  · exact dom08_at fit_103_97 di dj dm
  · exact dom08_at fit_103_99 di dj dm
  · exact absurd rfl dxy
  · exact dom08_at fit_103_116 di dj dm
  · exact dom08_at fit_116_97 di dj dm
  · exact dom08_at fit_116_99 di dj dm
  · exact dom08_at fit_116_103 di dj dm
  · exact absurd rfl dxy
end Z

namespace Z
open PySem PySem.Spec PyProof.Rows L2
local macro_rules | `(tactic| walk_at "sd") => `(tactic| (first | assumption | omega | (simp only [rng_len, List.length_map]; omega) | (exact .inl ⟨by omega, by omega⟩) | (exact .inr ⟨by omega, by omega⟩)))
def sp_law (K : PySem.W.Frag) (ca : Str → Addr) : Sp := fun vs H Q E => ∃ (a : Addr) (ns : List Int), vs = [.ref a] ∧ SqL K H a (ns.map .int) ∧ ns.length ≤ 63 ∧ ∀ H2, Q (.bl true) H2
def t_law (K : PySem.W.Frag) (ca : Str → Addr) (E : XK) : TS := (tSeq ((tAsg ((tCall (sp__law_begun K ca) [] E ((tCons ((tVar 0)) (tNil))))) (gName 1))) ((tSeq ((tFor ((iRng1 ((tCons ((tOp (rI0 fun i j => .int (i + j)) (tC (.int 4)) ((tCB (rMin2) ((tCons ((tCB (rLenU K) ((tCons ((tVar 0)) (tNil))))) ((tCons (tC (.int 15)) (tNil))))))))) (tNil))))) ((gName 2)) ((tSeq ((tAsg ((tSl (rSlL K) ((tCall (sp__law_shuffled K ca) [] E ((tCons ((tVar 1)) ((tCons ((tCB (rListS) ((tCons (tC (.str "acgt")) (tNil))))) (tNil))))))) (tNoPart) ((tPart (tC (.int 2)))))) (gUnl K 2 (gCons (gName 9) (gCons (gName 10) gNil))))) ((tSeq ((tAsg ((tTup ((tCons ((tCall (sp__law_take K ca) [] E ((tCons ((tVar 1)) ((tCons (tC (.int 6)) (tNil))))))) ((tCons ((tCall (sp__law_take K ca) [] E ((tCons ((tVar 1)) ((tCons (tC (.int 6)) (tNil))))))) ((tCons ((tOp (rI0 fun i j => .int (i + j)) (tC (.int 1)) ((tCall (sp__law_take K ca) [] E ((tCons ((tVar 1)) ((tCons (tC (.int 4)) (tNil))))))))) (tNil))))))))) (gTup K 3 (gCons (gName 11) (gCons (gName 12) (gCons (gName 13) gNil)))))) ((tSeq ((tAsg ((tOp (rAddS) ((tOp (rAddS) ((tOp (rMulS) ((tVar 9)) ((tVar 11)))) ((tVar 10)))) ((tOp (rMulS) ((tVar 9)) ((tVar 12)))))) (gName 3))) ((tSeq ((tAsg ((tCB (rMin2) ((tCons ((tVar 11)) ((tCons ((tVar 12)) (tNil))))))) (gName 4))) ((tSeq ((tIfS ((tOr ((tTest (tOp (rNeD K) ((tCall (sp_borders K ca) [] E ((tCons ((tVar 3)) (tNil))))) ((tLstRg (tRg2 (tC (.int 1)) ((tOp (rI0 fun i j => .int (i + j)) ((tVar 4)) (tC (.int 1)))))))))) ((tTest (tOp (rNeD K) ((tCall (sp_root K ca) [] E ((tCons ((tVar 3)) (tNil))))) ((tTup ((tCons ((tVar 3)) ((tCons (tC (.int 1)) (tNil)))))))))))) ((tRet (tC (.bl false)))) (tNext))) ((tSeq ((tAsg ((tOp (rMulS) ((tVar 3)) ((tVar 13)))) (gName 5))) ((tSeq ((tAsg ((tOp (rCat) ((tLstRg (tRg2 (tC (.int 1)) ((tOp (rI0 fun i j => .int (i + j)) ((tVar 4)) (tC (.int 1))))))) ((tLc ((iRng2 ((tCons (tC (.int 1)) ((tCons ((tVar 13)) (tNil))))))) ((gName 14)) (tYes) ((tOp (rI CMul fun i j => .int (i * j)) ((tCB (rLenU K) ((tCons ((tVar 3)) (tNil))))) ((tVar 14)))) [14])))) (gName 6))) ((tSeq ((tIfS ((tOr ((tTest (tOp (rNeD K) ((tCall (sp_borders K ca) [] E ((tCons ((tVar 5)) (tNil))))) ((tVar 6))))) ((tTest (tOp (rNeD K) ((tCall (sp_root K ca) [] E ((tCons ((tVar 5)) (tNil))))) ((tTup ((tCons ((tVar 3)) ((tCons ((tVar 13)) (tNil)))))))))))) ((tRet (tC (.bl false)))) (tNext))) ((tSeq ((tIfS ((tTest (tOp (rNeD K) ((tCall (sp_occurrences K ca) [] E ((tCons ((tVar 5)) ((tCons ((tVar 10)) (tNil))))))) ((tLc ((iRng1 ((tCons ((tVar 13)) (tNil))))) ((gName 14)) (tYes) ((tOp (rI0 fun i j => .int (i + j)) ((tVar 11)) ((tOp (rI CMul fun i j => .int (i * j)) ((tCB (rLenU K) ((tCons ((tVar 3)) (tNil))))) ((tVar 14)))))) [14]))))) ((tRet (tC (.bl false)))) (tNext))) ((tSeq ((tAsg ((tIf ((tTest (tOp (rLtS) ((tVar 9)) ((tVar 10))))) ((tOp (rAddS) ((tOp (rMulS) ((tVar 9)) ((tOp (rI0 fun i j => .int (i + j)) ((tVar 11)) ((tVar 12)))))) ((tVar 10)))) ((tOp (rAddS) ((tVar 10)) ((tOp (rMulS) ((tVar 9)) ((tOp (rI0 fun i j => .int (i + j)) ((tVar 11)) ((tVar 12)))))))))) (gName 7))) ((tSeq ((tIfS ((tOr ((tTest (tOp (rNe) ((tCall (sp_ring_of K ca) [] E ((tCons ((tVar 5)) (tNil))))) ((tOp (rMulS) ((tVar 7)) ((tVar 13))))))) ((tTest (tOp (rNe) ((tCall (sp_is_ring K ca) [] E ((tCons ((tVar 5)) (tNil))))) ((tOp (rEq) ((tVar 5)) ((tOp (rMulS) ((tVar 7)) ((tVar 13))))))))))) ((tRet (tC (.bl false)))) (tNext))) ((tSeq ((tIfS ((tOr ((tTest (tOp (rNe) ((tCall (sp_turn K ca) [] E ((tCons ((tVar 3)) ((tCons ((tVar 11)) (tNil))))))) ((tOp (rAddS) ((tVar 10)) ((tOp (rMulS) ((tVar 9)) ((tOp (rI0 fun i j => .int (i + j)) ((tVar 12)) ((tVar 11))))))))))) ((tTest (tOp (rNe) ((tCB (rLenU K) ((tCons ((tCall (sp_ring_occurrences K ca) [] E ((tCons ((tVar 7)) ((tCons ((tVar 10)) (tNil))))))) (tNil))))) (tC (.int 1))))))) ((tRet (tC (.bl false)))) (tNext))) ((tSeq ((tAsg ((tOp (rMulS) ((tVar 9)) ((tOp (rI0 fun i j => .int (i + j)) (tC (.int 1)) ((tVar 11)))))) (gName 8))) ((tSeq ((tIfS ((tOr ((tTest (tOp (rNeD K) ((tCall (sp_borders K ca) [] E ((tCons ((tVar 8)) (tNil))))) ((tLstRg (tRg2 (tC (.int 1)) ((tOp (rI0 fun i j => .int (i + j)) (tC (.int 1)) ((tVar 11)))))))))) ((tOr ((tTest (tOp (rNeD K) ((tCall (sp_root K ca) [] E ((tCons ((tVar 8)) (tNil))))) ((tTup ((tCons ((tVar 9)) ((tCons ((tOp (rI0 fun i j => .int (i + j)) (tC (.int 1)) ((tVar 11)))) (tNil)))))))))) ((tTest (tOp (rNeDic) ((tCall (sp_pieces K ca) [] E ((tCons ((tVar 8)) ((tCons (tC (.int 1)) (tNil))))))) ((tDisp [((tVar 9), (tOp (rI0 fun i j => .int (i + j)) (tC (.int 1)) ((tVar 11))))]))))))))) ((tRet (tC (.bl false)))) (tNext))) ((tSeq ((tIfS ((tOr ((tTest (tOp (rNeDic) ((tCall (sp_ring_pieces K ca) [] E ((tCons ((tVar 8)) ((tCons (tC (.int 9)) (tNil))))))) ((tDisp [((tOp (rMulS) ((tVar 9)) (tC (.int 9))), (tOp (rI0 fun i j => .int (i + j)) (tC (.int 1)) ((tVar 11))))]))))) ((tTest (tOp (rNeD K) ((tCall (sp_occurrences K ca) [] E ((tCons ((tVar 8)) ((tCons ((tOp (rMulS) ((tVar 9)) ((tOp (rI0 fun i j => .int (i + j)) (tC (.int 1)) ((tVar 11)))))) (tNil))))))) ((tLst ((tCons (tC (.int 0)) (tNil)))))))))) ((tRet (tC (.bl false)))) (tNext))) ((tIfS ((tTest (tOp (rNeD K) ((tCall (sp_longest_common K ca) [] E ((tCons ((tVar 3)) ((tCons ((tVar 8)) (tNil))))))) ((tIf ((tTest (tOp (rI0 fun i j => .bl (decide (j < i))) ((tOp (rI0 fun i j => .int (i + j)) ((tVar 11)) ((tVar 12)))) (tC (.int 0))))) ((tLst ((tCons ((tOp (rMulS) ((tVar 9)) ((tCB (rMin2) ((tCons ((tCB (rMax2) ((tCons ((tVar 11)) ((tCons ((tVar 12)) (tNil))))))) ((tCons ((tOp (rI0 fun i j => .int (i + j)) (tC (.int 1)) ((tVar 11)))) (tNil))))))))) (tNil))))) ((tLst (tNil)))))))) ((tRet (tC (.bl false)))) (tNext))))))))))))))))))))))))))))))))))) ((tRet (tC (.bl true)))))))
theorem pure_law {K : PySem.W.Frag} {ca : Str → Addr} (vs : List V) (H : Hp) (Q : VK) (E : XK) (h : sp_law K ca vs H Q E) : vs.length = 1 ∧ t_law K ca E { nx := fun _ H2 => Q .non H2, rt := Q } (start ["_law_script", "_law_draw", "_law_lap", "_law_text", "_law_low", "_law_whole", "_law_due", "_law_ring_here", "_law_alone", "_law_x", "_law_y", "_law_i", "_law_j", "_law_many", "_law_k"] vs) H := by
  obtain ⟨a, ns, rfl, hs, hl, k⟩ := h
  refine ⟨rfl, ?_⟩
  unfold t_law
  have in0 : In (fun b => if b = a then H a else none) H := fun b o e => by
    by_cases hb : b = a
    · subst hb; simp only [if_true] at e; exact .inl e
    · simp only [if_neg hb] at e; cases e
  have sq0 : SqL K (fun b => if b = a then H a else none) a (ns.map .int) := by
    rcases hs with q | q
    · rcases q with q | ⟨o, q⟩
      · exact .inl (.inl (by simp only [if_true]; exact q))
      · exact .inl (.inr ⟨o, by simp only [if_true]; exact q⟩)
    · exact .inr q
  refine ⟨.ref a, rfl, _, a, ns, rfl, in0, sq0, by omega, fun m w G1 H1 l1 _ d1 => ?_⟩
  have sq1 := sql_le sq0 l1
  refine sn_for (K := K) (b := 7) (n := 0) (m := m) (w := w) (DD := dI) (xs := rng 0 ((4 : Int) + min (ns.length : Int) 15).toNat) (fun σ => ∃ y2 y3 y4 y5 y6 y7 y8 y9 y10 y11 y12 y13 y14, σ = [some (.ref a), some (.ref m), y2, y3, y4, y5, y6, y7, y8, y9, y10, y11, y12, y13, y14]) (ei_rng1 (ea_cons (ev_op ev_int (ev_cb (ea_cons (ev_lenScr (k := 0) rfl sq1) (ea_cons ev_int ea_nil)) cav_min2) opv_add) ea_nil) (by omega) (by omega)) (d1.mono (by rw [rng_len]; omega)) ⟨_, _, _, _, _, _, _, _, _, _, _, _, _, rfl⟩ ?_ (fun σ2 G2 H2 _ l2 d2 => k H2)
  rintro z hz σ1 G1 H1 x r ⟨y2, y3, y4, y5, y6, y7, y8, y9, y10, y11, y12, y13, y14, rfl⟩ l1 d1 rx D2 kn
  refine sn_list2 (n := r + 3) (en_slL (en_shuffled (k := 1) (xs := [97, 99, 103, 116]) (DD := dC) rfl (ev_cb (ea_cons (ev_lit (by decide +kernel)) ea_nil) (cav_listS (by decide))) eqt_C (by decide) (by decide) (by decide)) (fun G _ => eo_none) (fun G _ => eo_some (K := K) ev_int)) (d1.mono (by simp)) ?_ ?_
  · rintro ds ⟨xs, hp, rfl⟩
    have := hp.length_eq
    match xs, this with
    | [a1, a2, a3, a4], _ => rfl
  rintro v_x v_y x_v y_v G2 H2 um2 d2 ⟨xs, hp, hxy⟩ h_x_v h_y_v
  obtain ⟨dx, dy, dxy⟩ : x_v ∈ [97, 99, 103, 116] ∧ y_v ∈ [97, 99, 103, 116] ∧ x_v ≠ y_v := by
    have hl4 := hp.length_eq
    match xs, hl4, hp, hxy with
    | [a1, a2, a3, a4], _, hp, hxy =>
      have e : [x_v, y_v] = [a1, a2] := hxy
      simp only [List.cons.injEq, and_true] at e
      obtain ⟨rfl, rfl⟩ := e
      refine ⟨hp.subset (by simp), hp.subset (by simp), fun e => ?_⟩
      have nd : List.Nodup [x_v, y_v, a3, a4] := hp.nodup_iff.mpr (by decide)
      rw [e] at nd
      simp at nd
  refine sn_tup3 (n := r) (ean_cons (en_take (k := 1) (tot := 6) rfl ev_int (by decide) (by decide)) (ean_cons (en_take (k := 1) (tot := 6) rfl ev_int (by decide) (by decide)) (ean_cons (en_op (DC := dI) (f := fun a b => a + b) (en_ev (DD := dI) (a := 1) ev_int) (en_take (k := 1) (tot := 4) rfl ev_int (by decide) (by decide)) (fun x y _ _ => opv_add)) ean_nil))) d2 ?_ ?_
  · rintro ds ⟨_, _, rfl, _, _, _, rfl, _, _, _, rfl, _, rfl⟩
    rfl
  rintro v_i v_j v_m e1 e2 e3 G3 H3 um3 dd ⟨i_v, _, q1, di, j_v, _, q2, dj, many_v, _, q3, ⟨one, t_v, rfl, dt, hmany⟩, q4⟩ h_i_v h_j_v h_many_v
  cases q1; cases q2; cases q3
  replace h_x_v := h_x_v.mono um3.g
  replace h_y_v := h_y_v.mono um3.g
  have dm : 1 ≤ many_v ∧ many_v < 5 := by omega
  have hf := fit08_ok x_v y_v i_v j_v many_v dx dy dxy di dj dm
  unfold fit08 at hf
  obtain ⟨f0, hf⟩ := and_dec hf
  obtain ⟨f1, hf⟩ := and_dec hf
  obtain ⟨f2, hf⟩ := and_dec hf
  obtain ⟨f3, hf⟩ := and_dec hf
  obtain ⟨f4, hf⟩ := and_dec hf
  obtain ⟨f5, hf⟩ := and_dec hf
  obtain ⟨f6, hf⟩ := and_dec hf
  obtain ⟨f7, hf⟩ := and_dec hf
  obtain ⟨f8, hf⟩ := and_dec hf
  obtain ⟨f9, hf⟩ := and_dec hf
  obtain ⟨f10, hf⟩ := and_dec hf
  obtain ⟨f11, hf⟩ := and_dec hf
  obtain ⟨f12, hf⟩ := and_dec hf
  obtain ⟨f13, hf⟩ := and_dec hf
  obtain ⟨f14, hf⟩ := and_dec hf
  obtain ⟨f15, hf⟩ := and_dec hf
  obtain ⟨f16, hf⟩ := and_dec hf
  obtain ⟨f17, hf⟩ := and_dec hf
  obtain ⟨f18, hf⟩ := and_dec hf
  obtain ⟨f19, hf⟩ := and_dec hf
  obtain ⟨f20, hf⟩ := and_dec hf
  obtain ⟨f21, hf⟩ := and_dec hf
  obtain ⟨f22, hf⟩ := and_dec hf
  obtain ⟨f23, hf⟩ := and_dec hf
  obtain ⟨f24, hf⟩ := and_dec hf
  obtain ⟨f25, hf⟩ := and_dec hf
  obtain ⟨f26, hf⟩ := and_dec hf
  obtain ⟨f27, hf⟩ := and_dec hf
  obtain ⟨f28, hf⟩ := and_dec hf
  obtain ⟨f29, hf⟩ := and_dec hf
  obtain ⟨f30, hf⟩ := and_dec hf
  obtain ⟨f31, hf⟩ := and_dec hf
  obtain ⟨f32, hf⟩ := and_dec hf
  obtain ⟨f33, hf⟩ := and_dec hf
  obtain ⟨f34, hf⟩ := and_dec hf
  obtain ⟨f35, hf⟩ := and_dec hf
  obtain ⟨f36, hf⟩ := and_dec hf
  obtain ⟨f37, hf⟩ := and_dec hf
  obtain ⟨f38, hf⟩ := and_dec hf
  obtain ⟨f39, hf⟩ := and_dec hf
  obtain ⟨f40, hf⟩ := and_dec hf
  obtain ⟨f41, hf⟩ := and_dec hf
  obtain ⟨f42, hf⟩ := and_dec hf
  obtain ⟨f43, hf⟩ := and_dec hf
  obtain ⟨f44, hf⟩ := and_dec hf
  obtain ⟨f45, hf⟩ := and_dec hf
  obtain ⟨f46, hf⟩ := and_dec hf
  obtain ⟨f47, hf⟩ := and_dec hf
  obtain ⟨f48, hf⟩ := and_dec hf
  obtain ⟨f49, hf⟩ := and_dec hf
  obtain ⟨f50, hf⟩ := and_dec hf
  obtain ⟨f51, hf⟩ := and_dec hf
  obtain ⟨f52, hf⟩ := and_dec hf
  obtain ⟨f53, hf⟩ := and_dec hf
  obtain ⟨f54, hf⟩ := and_dec hf
  obtain ⟨f55, hf⟩ := and_dec hf
  obtain ⟨f56, hf⟩ := and_dec hf
  obtain ⟨f57, hf⟩ := and_dec hf
  obtain ⟨f58, hf⟩ := and_dec hf
  obtain ⟨f59, hf⟩ := and_dec hf
  obtain ⟨f60, hf⟩ := and_dec hf
  obtain ⟨f61, hf⟩ := and_dec hf
  obtain ⟨f62, hf⟩ := and_dec hf
  obtain ⟨f63, hf⟩ := and_dec hf
  obtain ⟨f64, hf⟩ := and_dec hf
  obtain ⟨f65, hf⟩ := and_dec hf
  obtain ⟨f66, hf⟩ := and_dec hf
  obtain ⟨f67, hf⟩ := and_dec hf
  obtain ⟨f68, hf⟩ := and_dec hf
  obtain ⟨f69, hf⟩ := and_dec hf
  obtain ⟨f70, hf⟩ := and_dec hf
  obtain ⟨f71, hf⟩ := and_dec hf
  obtain ⟨f72, hf⟩ := and_dec hf
  obtain ⟨f73, hf⟩ := and_dec hf
  obtain ⟨f74, hf⟩ := and_dec hf
  obtain ⟨f75, hf⟩ := and_dec hf
  obtain ⟨f76, hf⟩ := and_dec hf
  obtain ⟨f77, hf⟩ := and_dec hf
  refine s_set (ev_op (ev_op (ev_op (ev_var rfl h_x_v) (ev_var rfl h_i_v) (opv_mulSI f0 f1)) (ev_var rfl h_y_v) (opv_addS f2)) (ev_op (ev_var rfl h_x_v) (ev_var rfl h_j_v) (opv_mulSI f3 f4)) (opv_addS f5)) dd.i fun v1 G1 H1 u1 r1 => ?_
  replace r1 : Rp K G1 v1 (dS (k08_law_text x_v y_v i_v j_v many_v)) := r1
  refine s_set (ev_cb (ea_cons (ev_var rfl (Rp.mono u1.g h_i_v)) (ea_cons (ev_var rfl (Rp.mono u1.g h_j_v)) ea_nil)) cav_min2) u1.i fun v2 G2 H2 u2 r2 => ?_
  replace r2 : Rp K G2 v2 (dI (k08_law_low x_v y_v i_v j_v many_v)) := r2
  refine s_if (et_or (et_test (ev_op (ev_call (ea_cons (ev_var rfl (Rp.mono u2.g r1)) ea_nil) (c_borders ((k08_law_text x_v y_v i_v j_v many_v)) f6 f7)) (ev_lstRg2 ev_int (ev_op (ev_var rfl r2) ev_int opv_add) f8 f9 f10 f11) (opv_neTe (eqt_L (eqt_I)) f12 (fun _ _ => trivial) (by decide)))) (fun g4 => (et_test (ev_op (ev_call (ea_cons (ev_var rfl (Rp.mono u2.g r1)) ea_nil) (c_root ((k08_law_text x_v y_v i_v j_v many_v)) f6 f13)) (ev_tup (ea_cons (ev_var rfl (Rp.mono u2.g r1)) (ea_cons ev_int ea_nil)) (by simp)) (opv_neTe (eqt_P (eqt_S) (eqt_I)) f14 ⟨f15, trivial⟩ (by decide)))))) u2.i (fun g3 G3 H3 u3 => absurd g3 (by simp)) (fun g3 G3 H3 u3 => ?_)
  refine s_set (ev_op (ev_var rfl (Rp.mono u3.g (Rp.mono u2.g r1))) (ev_var rfl (Rp.mono u3.g (Rp.mono u2.g (Rp.mono u1.g h_many_v)))) (opv_mulSI f16 f17)) u3.i fun v5 G5 H5 u5 r5 => ?_
  replace r5 : Rp K G5 v5 (dS (k08_law_whole x_v y_v i_v j_v many_v)) := r5
  refine s_set (ev_op (ev_lstRg2 ev_int (ev_op (ev_var rfl (Rp.mono u5.g (Rp.mono u3.g r2))) ev_int opv_add) f8 f9 f10 f11) (ev_lcM (DE := dI) (ei_rng2 (ea_cons ev_int (ea_cons (ev_var rfl (Rp.mono u5.g (Rp.mono u3.g (Rp.mono u2.g (Rp.mono u1.g h_many_v))))) ea_nil)) f18 f19 f20 f21) (fun law_k_v z7 G7 x7 l7 h7 => (ev_op (ev_cb (ea_cons (ev_var rfl (Rp.mono l7 (Rp.mono u5.g (Rp.mono u3.g (Rp.mono u2.g r1))))) ea_nil) (cav_lenS (by walk_at "sd"))) (ev_var rfl h7) (opv_mul (by walk_at "sd")))) (by walk_at "sd")) (opv_catL f22)) u5.i fun v6 G6 H6 u6 r6 => ?_
  replace r6 : Rp K G6 v6 ((dL dI) (k08_law_due x_v y_v i_v j_v many_v)) := r6
  refine s_if (et_or (et_test (ev_op (ev_call (ea_cons (ev_var rfl (Rp.mono u6.g r5)) ea_nil) (c_borders ((k08_law_whole x_v y_v i_v j_v many_v)) f23 f24)) (ev_var rfl r6) (opv_neTe (eqt_L (eqt_I)) f25 (fun _ _ => trivial) (by decide)))) (fun g9 => (et_test (ev_op (ev_call (ea_cons (ev_var rfl (Rp.mono u6.g r5)) ea_nil) (c_root ((k08_law_whole x_v y_v i_v j_v many_v)) f23 f26)) (ev_tup (ea_cons (ev_var rfl (Rp.mono u6.g (Rp.mono u5.g (Rp.mono u3.g (Rp.mono u2.g r1))))) (ea_cons (ev_var rfl (Rp.mono u6.g (Rp.mono u5.g (Rp.mono u3.g (Rp.mono u2.g (Rp.mono u1.g h_many_v)))))) ea_nil)) (by simp)) (opv_neTe (eqt_P (eqt_S) (eqt_I)) f27 ⟨f28, trivial⟩ (by decide)))))) u6.i (fun g8 G8 H8 u8 => absurd g8 (by simp)) (fun g8 G8 H8 u8 => ?_)
  refine s_if (et_test (ev_op (ev_call (ea_cons (ev_var rfl (Rp.mono u8.g (Rp.mono u6.g r5))) (ea_cons (ev_var rfl (Rp.mono u8.g (Rp.mono u6.g (Rp.mono u5.g (Rp.mono u3.g (Rp.mono u2.g (Rp.mono u1.g h_y_v))))))) ea_nil)) (c_occurrences ((k08_law_whole x_v y_v i_v j_v many_v)) ([y_v]) f23 f24 f29 f30)) (ev_lcM (DE := dI) (ei_rng1 (ea_cons (ev_var rfl (Rp.mono u8.g (Rp.mono u6.g (Rp.mono u5.g (Rp.mono u3.g (Rp.mono u2.g (Rp.mono u1.g h_many_v))))))) ea_nil) f20 f21) (fun law_k_v z11 G11 x11 l11 h11 => (ev_op (ev_var rfl (Rp.mono l11 (Rp.mono u8.g (Rp.mono u6.g (Rp.mono u5.g (Rp.mono u3.g (Rp.mono u2.g (Rp.mono u1.g h_i_v)))))))) (ev_op (ev_cb (ea_cons (ev_var rfl (Rp.mono l11 (Rp.mono u8.g (Rp.mono u6.g (Rp.mono u5.g (Rp.mono u3.g (Rp.mono u2.g r1))))))) ea_nil) (cav_lenS (by walk_at "sd"))) (ev_var rfl h11) (opv_mul (by walk_at "sd"))) opv_add)) (by walk_at "sd")) (opv_neTe (eqt_L (eqt_I)) f31 (fun _ _ => trivial) (by decide)))) u8.i (fun g10 G10 H10 u10 => absurd g10 (by simp)) (fun g10 G10 H10 u10 => ?_)
  refine s_set (ev_ifD (D := dS) (et_test (ev_op (ev_var rfl (Rp.mono u10.g (Rp.mono u8.g (Rp.mono u6.g (Rp.mono u5.g (Rp.mono u3.g (Rp.mono u2.g (Rp.mono u1.g h_x_v)))))))) (ev_var rfl (Rp.mono u10.g (Rp.mono u8.g (Rp.mono u6.g (Rp.mono u5.g (Rp.mono u3.g (Rp.mono u2.g (Rp.mono u1.g h_y_v)))))))) opv_ltS)) (fun g13 => (ev_op (ev_op (ev_var rfl (Rp.mono u10.g (Rp.mono u8.g (Rp.mono u6.g (Rp.mono u5.g (Rp.mono u3.g (Rp.mono u2.g (Rp.mono u1.g h_x_v)))))))) (ev_op (ev_var rfl (Rp.mono u10.g (Rp.mono u8.g (Rp.mono u6.g (Rp.mono u5.g (Rp.mono u3.g (Rp.mono u2.g (Rp.mono u1.g h_i_v)))))))) (ev_var rfl (Rp.mono u10.g (Rp.mono u8.g (Rp.mono u6.g (Rp.mono u5.g (Rp.mono u3.g (Rp.mono u2.g (Rp.mono u1.g h_j_v)))))))) opv_add) (opv_mulSI (f32 g13) (f33 g13))) (ev_var rfl (Rp.mono u10.g (Rp.mono u8.g (Rp.mono u6.g (Rp.mono u5.g (Rp.mono u3.g (Rp.mono u2.g (Rp.mono u1.g h_y_v)))))))) (opv_addS (f34 g13)))) (fun g14 => (ev_op (ev_var rfl (Rp.mono u10.g (Rp.mono u8.g (Rp.mono u6.g (Rp.mono u5.g (Rp.mono u3.g (Rp.mono u2.g (Rp.mono u1.g h_y_v)))))))) (ev_op (ev_var rfl (Rp.mono u10.g (Rp.mono u8.g (Rp.mono u6.g (Rp.mono u5.g (Rp.mono u3.g (Rp.mono u2.g (Rp.mono u1.g h_x_v)))))))) (ev_op (ev_var rfl (Rp.mono u10.g (Rp.mono u8.g (Rp.mono u6.g (Rp.mono u5.g (Rp.mono u3.g (Rp.mono u2.g (Rp.mono u1.g h_i_v)))))))) (ev_var rfl (Rp.mono u10.g (Rp.mono u8.g (Rp.mono u6.g (Rp.mono u5.g (Rp.mono u3.g (Rp.mono u2.g (Rp.mono u1.g h_j_v)))))))) opv_add) (opv_mulSI (f35 g14) (f36 g14))) (opv_addS (f37 g14))))) u10.i fun v12 G12 H12 u12 r12 => ?_
  replace r12 : Rp K G12 v12 (dS (k08_law_ring_here x_v y_v i_v j_v many_v)) := r12
  refine s_if (et_or (et_test (ev_op (ev_call (ea_cons (ev_var rfl (Rp.mono u12.g (Rp.mono u10.g (Rp.mono u8.g (Rp.mono u6.g r5))))) ea_nil) (c_ring_of ((k08_law_whole x_v y_v i_v j_v many_v)) f23 f24)) (ev_op (ev_var rfl r12) (ev_var rfl (Rp.mono u12.g (Rp.mono u10.g (Rp.mono u8.g (Rp.mono u6.g (Rp.mono u5.g (Rp.mono u3.g (Rp.mono u2.g (Rp.mono u1.g h_many_v))))))))) (opv_mulSI f38 f17)) (opv_neSe f39))) (fun g16 => (et_test (ev_op (ev_call (ea_cons (ev_var rfl (Rp.mono u12.g (Rp.mono u10.g (Rp.mono u8.g (Rp.mono u6.g r5))))) ea_nil) (c_is_ring ((k08_law_whole x_v y_v i_v j_v many_v)) f24)) (ev_op (ev_var rfl (Rp.mono u12.g (Rp.mono u10.g (Rp.mono u8.g (Rp.mono u6.g r5))))) (ev_op (ev_var rfl r12) (ev_var rfl (Rp.mono u12.g (Rp.mono u10.g (Rp.mono u8.g (Rp.mono u6.g (Rp.mono u5.g (Rp.mono u3.g (Rp.mono u2.g (Rp.mono u1.g h_many_v))))))))) (opv_mulSI f38 f17)) opv_eqS) (opv_neBe f40))))) u12.i (fun g15 G15 H15 u15 => absurd g15 (by simp)) (fun g15 G15 H15 u15 => ?_)
  refine s_if (et_or (et_test (ev_op (ev_call (ea_cons (ev_var rfl (Rp.mono u15.g (Rp.mono u12.g (Rp.mono u10.g (Rp.mono u8.g (Rp.mono u6.g (Rp.mono u5.g (Rp.mono u3.g (Rp.mono u2.g r1))))))))) (ea_cons (ev_var rfl (Rp.mono u15.g (Rp.mono u12.g (Rp.mono u10.g (Rp.mono u8.g (Rp.mono u6.g (Rp.mono u5.g (Rp.mono u3.g (Rp.mono u2.g (Rp.mono u1.g h_i_v)))))))))) ea_nil)) (c_turn ((k08_law_text x_v y_v i_v j_v many_v)) (i_v) f6 f7 f41)) (ev_op (ev_var rfl (Rp.mono u15.g (Rp.mono u12.g (Rp.mono u10.g (Rp.mono u8.g (Rp.mono u6.g (Rp.mono u5.g (Rp.mono u3.g (Rp.mono u2.g (Rp.mono u1.g h_y_v)))))))))) (ev_op (ev_var rfl (Rp.mono u15.g (Rp.mono u12.g (Rp.mono u10.g (Rp.mono u8.g (Rp.mono u6.g (Rp.mono u5.g (Rp.mono u3.g (Rp.mono u2.g (Rp.mono u1.g h_x_v)))))))))) (ev_op (ev_var rfl (Rp.mono u15.g (Rp.mono u12.g (Rp.mono u10.g (Rp.mono u8.g (Rp.mono u6.g (Rp.mono u5.g (Rp.mono u3.g (Rp.mono u2.g (Rp.mono u1.g h_j_v)))))))))) (ev_var rfl (Rp.mono u15.g (Rp.mono u12.g (Rp.mono u10.g (Rp.mono u8.g (Rp.mono u6.g (Rp.mono u5.g (Rp.mono u3.g (Rp.mono u2.g (Rp.mono u1.g h_i_v)))))))))) opv_add) (opv_mulSI f42 f43)) (opv_addS f44)) (opv_neSe f45))) (fun g18 => (et_test (ev_op (ev_cb (ea_cons (ev_call (ea_cons (ev_var rfl (Rp.mono u15.g r12)) (ea_cons (ev_var rfl (Rp.mono u15.g (Rp.mono u12.g (Rp.mono u10.g (Rp.mono u8.g (Rp.mono u6.g (Rp.mono u5.g (Rp.mono u3.g (Rp.mono u2.g (Rp.mono u1.g h_y_v)))))))))) ea_nil)) (c_ring_occurrences ((k08_law_ring_here x_v y_v i_v j_v many_v)) ([y_v]) f46 f47 f48 f29 f30)) ea_nil) cav_lenLT) ev_int (opv_neIe f49))))) u15.i (fun g17 G17 H17 u17 => absurd g17 (by simp)) (fun g17 G17 H17 u17 => ?_)
  refine s_set (ev_op (ev_var rfl (Rp.mono u17.g (Rp.mono u15.g (Rp.mono u12.g (Rp.mono u10.g (Rp.mono u8.g (Rp.mono u6.g (Rp.mono u5.g (Rp.mono u3.g (Rp.mono u2.g (Rp.mono u1.g h_x_v))))))))))) (ev_op ev_int (ev_var rfl (Rp.mono u17.g (Rp.mono u15.g (Rp.mono u12.g (Rp.mono u10.g (Rp.mono u8.g (Rp.mono u6.g (Rp.mono u5.g (Rp.mono u3.g (Rp.mono u2.g (Rp.mono u1.g h_i_v))))))))))) opv_add) (opv_mulSI f50 f51)) u17.i fun v19 G19 H19 u19 r19 => ?_
  replace r19 : Rp K G19 v19 (dS (k08_law_alone x_v y_v i_v j_v many_v)) := r19
  refine s_if (et_or (et_test (ev_op (ev_call (ea_cons (ev_var rfl r19) ea_nil) (c_borders ((k08_law_alone x_v y_v i_v j_v many_v)) f52 f53)) (ev_lstRg2 ev_int (ev_op ev_int (ev_var rfl (Rp.mono u19.g (Rp.mono u17.g (Rp.mono u15.g (Rp.mono u12.g (Rp.mono u10.g (Rp.mono u8.g (Rp.mono u6.g (Rp.mono u5.g (Rp.mono u3.g (Rp.mono u2.g (Rp.mono u1.g h_i_v)))))))))))) opv_add) f8 f9 f54 f55) (opv_neTe (eqt_L (eqt_I)) f56 (fun _ _ => trivial) (by decide)))) (fun g22 => (et_or (et_test (ev_op (ev_call (ea_cons (ev_var rfl r19) ea_nil) (c_root ((k08_law_alone x_v y_v i_v j_v many_v)) f52 f57)) (ev_tup (ea_cons (ev_var rfl (Rp.mono u19.g (Rp.mono u17.g (Rp.mono u15.g (Rp.mono u12.g (Rp.mono u10.g (Rp.mono u8.g (Rp.mono u6.g (Rp.mono u5.g (Rp.mono u3.g (Rp.mono u2.g (Rp.mono u1.g h_x_v)))))))))))) (ea_cons (ev_op ev_int (ev_var rfl (Rp.mono u19.g (Rp.mono u17.g (Rp.mono u15.g (Rp.mono u12.g (Rp.mono u10.g (Rp.mono u8.g (Rp.mono u6.g (Rp.mono u5.g (Rp.mono u3.g (Rp.mono u2.g (Rp.mono u1.g h_i_v)))))))))))) opv_add) ea_nil)) (by simp)) (opv_neTe (eqt_P (eqt_S) (eqt_I)) f58 ⟨f59, trivial⟩ (by decide)))) (fun g21 => (et_test (ev_op (ev_call (ea_cons (ev_var rfl r19) (ea_cons ev_int ea_nil)) (c_pieces ((k08_law_alone x_v y_v i_v j_v many_v)) ((1 : Int)) f52 f60 f61)) (ev_disp (DE := dI) (ep_cons (ev_var rfl (Rp.mono u19.g (Rp.mono u17.g (Rp.mono u15.g (Rp.mono u12.g (Rp.mono u10.g (Rp.mono u8.g (Rp.mono u6.g (Rp.mono u5.g (Rp.mono u3.g (Rp.mono u2.g (Rp.mono u1.g h_x_v)))))))))))) (ev_op ev_int (ev_var rfl (Rp.mono u19.g (Rp.mono u17.g (Rp.mono u15.g (Rp.mono u12.g (Rp.mono u10.g (Rp.mono u8.g (Rp.mono u6.g (Rp.mono u5.g (Rp.mono u3.g (Rp.mono u2.g (Rp.mono u1.g h_i_v)))))))))))) opv_add) ep_nil) (by simp)) (opv_neMI f62 f63))))))) u19.i (fun g20 G20 H20 u20 => absurd g20 (by simp)) (fun g20 G20 H20 u20 => ?_)
  refine s_if (et_or (et_test (ev_op (ev_call (ea_cons (ev_var rfl (Rp.mono u20.g r19)) (ea_cons ev_int ea_nil)) (c_ring_pieces ((k08_law_alone x_v y_v i_v j_v many_v)) ((9 : Int)) f52 f60 f64 f65)) (ev_disp (DE := dI) (ep_cons (ev_op (ev_var rfl (Rp.mono u20.g (Rp.mono u19.g (Rp.mono u17.g (Rp.mono u15.g (Rp.mono u12.g (Rp.mono u10.g (Rp.mono u8.g (Rp.mono u6.g (Rp.mono u5.g (Rp.mono u3.g (Rp.mono u2.g (Rp.mono u1.g h_x_v))))))))))))) ev_int (opv_mulSI f66 f67)) (ev_op ev_int (ev_var rfl (Rp.mono u20.g (Rp.mono u19.g (Rp.mono u17.g (Rp.mono u15.g (Rp.mono u12.g (Rp.mono u10.g (Rp.mono u8.g (Rp.mono u6.g (Rp.mono u5.g (Rp.mono u3.g (Rp.mono u2.g (Rp.mono u1.g h_i_v))))))))))))) opv_add) ep_nil) (by simp)) (opv_neMI f68 f69))) (fun g24 => (et_test (ev_op (ev_call (ea_cons (ev_var rfl (Rp.mono u20.g r19)) (ea_cons (ev_op (ev_var rfl (Rp.mono u20.g (Rp.mono u19.g (Rp.mono u17.g (Rp.mono u15.g (Rp.mono u12.g (Rp.mono u10.g (Rp.mono u8.g (Rp.mono u6.g (Rp.mono u5.g (Rp.mono u3.g (Rp.mono u2.g (Rp.mono u1.g h_x_v))))))))))))) (ev_op ev_int (ev_var rfl (Rp.mono u20.g (Rp.mono u19.g (Rp.mono u17.g (Rp.mono u15.g (Rp.mono u12.g (Rp.mono u10.g (Rp.mono u8.g (Rp.mono u6.g (Rp.mono u5.g (Rp.mono u3.g (Rp.mono u2.g (Rp.mono u1.g h_i_v))))))))))))) opv_add) (opv_mulSI f50 f51)) ea_nil)) (c_occurrences ((k08_law_alone x_v y_v i_v j_v many_v)) ((List.replicate (((1 : Int) + i_v)).toNat [x_v]).flatten) f52 f53 f70 f71)) (ev_lst (ea_cons ev_int ea_nil) (by simp)) (opv_neTe (eqt_L (eqt_I)) f72 (fun _ _ => trivial) (by decide)))))) u20.i (fun g23 G23 H23 u23 => absurd g23 (by simp)) (fun g23 G23 H23 u23 => ?_)
  refine s_if (et_test (ev_op (ev_call (ea_cons (ev_var rfl (Rp.mono u23.g (Rp.mono u20.g (Rp.mono u19.g (Rp.mono u17.g (Rp.mono u15.g (Rp.mono u12.g (Rp.mono u10.g (Rp.mono u8.g (Rp.mono u6.g (Rp.mono u5.g (Rp.mono u3.g (Rp.mono u2.g r1))))))))))))) (ea_cons (ev_var rfl (Rp.mono u23.g (Rp.mono u20.g r19))) ea_nil)) (c_longest_common ((k08_law_text x_v y_v i_v j_v many_v)) ((k08_law_alone x_v y_v i_v j_v many_v)) f6 f73 f52 f60)) (ev_ifD (D := (dL dS)) (et_test (ev_op (ev_op (ev_var rfl (Rp.mono u23.g (Rp.mono u20.g (Rp.mono u19.g (Rp.mono u17.g (Rp.mono u15.g (Rp.mono u12.g (Rp.mono u10.g (Rp.mono u8.g (Rp.mono u6.g (Rp.mono u5.g (Rp.mono u3.g (Rp.mono u2.g (Rp.mono u1.g h_i_v)))))))))))))) (ev_var rfl (Rp.mono u23.g (Rp.mono u20.g (Rp.mono u19.g (Rp.mono u17.g (Rp.mono u15.g (Rp.mono u12.g (Rp.mono u10.g (Rp.mono u8.g (Rp.mono u6.g (Rp.mono u5.g (Rp.mono u3.g (Rp.mono u2.g (Rp.mono u1.g h_j_v)))))))))))))) opv_add) ev_int opv_gt)) (fun g26 => (ev_lst (ea_cons (ev_op (ev_var rfl (Rp.mono u23.g (Rp.mono u20.g (Rp.mono u19.g (Rp.mono u17.g (Rp.mono u15.g (Rp.mono u12.g (Rp.mono u10.g (Rp.mono u8.g (Rp.mono u6.g (Rp.mono u5.g (Rp.mono u3.g (Rp.mono u2.g (Rp.mono u1.g h_x_v)))))))))))))) (ev_cb (ea_cons (ev_cb (ea_cons (ev_var rfl (Rp.mono u23.g (Rp.mono u20.g (Rp.mono u19.g (Rp.mono u17.g (Rp.mono u15.g (Rp.mono u12.g (Rp.mono u10.g (Rp.mono u8.g (Rp.mono u6.g (Rp.mono u5.g (Rp.mono u3.g (Rp.mono u2.g (Rp.mono u1.g h_i_v)))))))))))))) (ea_cons (ev_var rfl (Rp.mono u23.g (Rp.mono u20.g (Rp.mono u19.g (Rp.mono u17.g (Rp.mono u15.g (Rp.mono u12.g (Rp.mono u10.g (Rp.mono u8.g (Rp.mono u6.g (Rp.mono u5.g (Rp.mono u3.g (Rp.mono u2.g (Rp.mono u1.g h_j_v)))))))))))))) ea_nil)) cav_max2) (ea_cons (ev_op ev_int (ev_var rfl (Rp.mono u23.g (Rp.mono u20.g (Rp.mono u19.g (Rp.mono u17.g (Rp.mono u15.g (Rp.mono u12.g (Rp.mono u10.g (Rp.mono u8.g (Rp.mono u6.g (Rp.mono u5.g (Rp.mono u3.g (Rp.mono u2.g (Rp.mono u1.g h_i_v)))))))))))))) opv_add) ea_nil)) cav_min2) (opv_mulSI (f74 g26) (f75 g26))) ea_nil) (by simp))) (fun g27 => (ev_lst ea_nil (by simp)))) (opv_neTe (eqt_L (eqt_S)) f76 f77 (by decide)))) u23.i (fun g25 G25 H25 u25 => absurd g25 (by simp)) (fun g25 G25 H25 u25 => ?_)
  exact kn _ _ _ ⟨_, _, _, _, _, _, _, _, _, _, _, _, _, rfl⟩ (um2.g.trans (um3.g.trans ((Up.trans (Up.trans (Up.trans (Up.trans (Up.trans (Up.trans (Up.trans (Up.trans (Up.trans (Up.trans (Up.trans (Up.trans (Up.trans u1 u2) u3) u5) u6) u8) u10) u12) u15) u17) u19) u20) u23) u25)).g)) (dd.up (Up.trans (Up.trans (Up.trans (Up.trans (Up.trans (Up.trans (Up.trans (Up.trans (Up.trans (Up.trans (Up.trans (Up.trans (Up.trans u1 u2) u3) u5) u6) u8) u10) u12) u15) u17) u19) u20) u23) u25))
end Z

namespace Z
open PySem PySem.Spec PyProof.Rows L2
def top (i : Nat) : Stmt := PySem.Challenge.pw_readhouse_k08_known_words_and_rings.main.body.getD i (.Pass ⟨0, 0, 0, 0⟩)
theorem sc_is_integer : FnScope ["value"] ["value"] (defScope (top 9)) := ⟨rfl, rfl, rfl, by decide +kernel, rfl, by decide +kernel, by decide +kernel⟩
theorem lk_is_integer {P : Program} {w : World} {K : PySem.W.Frag} {mg : Str → Option Value} {base : Heap} {ca : Str → Addr} {f : Addr} {fd : FuncData} (B : Blt mg) (F : FunD K "is_integer" "is_integer" (defArgs (top 9)) (defBody (top 9)) (defScope (top 9)) [] [] f fd) : FnOk P w K mg base (L2.CX P w) 1 f fd ["value"] (sp_is_integer K ca) := by
  refine F.ok sc_is_integer (fun vs H Q E h => (pure_is_integer vs H Q E h).1) (fun cdv A outer s H vs Q E hr h => ⟨t_is_integer K ca E, ?_, (pure_is_integer vs H Q E h).2⟩)
  have nd := sc_is_integer.nd
  have hu : A.units + 3 + 100 < cLine := by have := hr.un; have e : (A.deeper (envOfC "is_integer" (defScope (top 9)) s.heap.objs.size f cdv)).units = A.units + 3 := rfl; omega
  have hu1 : A.units + 3 + 1 < cLine := by omega
  have hu64 : A.units + 3 + 64 < cLine := by omega
  exact (pss_one (ps_ret (pe_and (pe_callB call_isi rfl B.z_isinstance (by decide +kernel) (pa_cons (pv 0) (pa_cons (pe_bltn (v := .ty "int") rfl B.z_int (by decide +kernel) rfl) pa_nil))) (pe_one (pe_not (pe_callB call_isi rfl B.z_isinstance (by decide +kernel) (pa_cons (pv 0) (pa_cons (pe_bltn (v := .ty "bool") rfl B.z_bool (by decide +kernel) rfl) pa_nil))))))))
theorem sc_is_between : FnScope ["value", "least", "most"] ["value", "least", "most"] (defScope (top 10)) := ⟨rfl, rfl, rfl, by decide +kernel, rfl, by decide +kernel, by decide +kernel⟩
theorem lk_is_between {P : Program} {w : World} {K : PySem.W.Frag} {mg : Str → Option Value} {base : Heap} {ca : Str → Addr} {f : Addr} {fd : FuncData} (B : Blt mg) (F_is_integer : FnIs P w K mg base 1 "is_integer" ["value"] (sp_is_integer K ca)) (F : FunD K "is_between" "is_between" (defArgs (top 10)) (defBody (top 10)) (defScope (top 10)) [] [] f fd) : FnOk P w K mg base (L2.CX P w) 2 f fd ["value", "least", "most"] (sp_is_between K ca) := by
  refine F.ok sc_is_between (fun vs H Q E h => (pure_is_between vs H Q E h).1) (fun cdv A outer s H vs Q E hr h => ⟨t_is_between K ca E, ?_, (pure_is_between vs H Q E h).2⟩)
  have nd := sc_is_between.nd
  have hu : A.units + 3 + 100 < cLine := by have := hr.un; have e : (A.deeper (envOfC "is_between" (defScope (top 10)) s.heap.objs.size f cdv)).units = A.units + 3 := rfl; omega
  have hu1 : A.units + 3 + 1 < cLine := by omega
  have hu64 : A.units + 3 + 64 < cLine := by omega
  exact (pss_one (ps_ret (pe_and (pe_fn F_is_integer (hr.mono (by decide)) rfl (passes_call (takes_of rfl rfl rfl rfl) (fun _ _ _ _ h => h)) (pa_cons (pv 0) pa_nil)) (pe_one (pe_chain op_le op_le (pv 1) (pv 0) (pv 2))))))
theorem sc_is_line : FnScope ["value", "sign"] ["value"] (defScope (top 11)) := ⟨rfl, rfl, rfl, by decide +kernel, rfl, by decide +kernel, by decide +kernel⟩
theorem lk_is_line {P : Program} {w : World} {K : PySem.W.Frag} {mg : Str → Option Value} {base : Heap} {ca : Str → Addr} {f : Addr} {fd : FuncData} (B : Blt mg) (g_LETTERS : ∃ t, mg "LETTERS" = some (.str "acgt" t)) (F : FunD K "is_line" "is_line" (defArgs (top 11)) (defBody (top 11)) (defScope (top 11)) [] [] f fd) : FnOk P w K mg base (L2.CX P w) 1 f fd ["value"] (sp_is_line K ca) := by
  refine F.ok sc_is_line (fun vs H Q E h => (pure_is_line vs H Q E h).1) (fun cdv A outer s H vs Q E hr h => ⟨t_is_line K ca E, ?_, (pure_is_line vs H Q E h).2⟩)
  have nd := sc_is_line.nd
  have hu : A.units + 3 + 100 < cLine := by have := hr.un; have e : (A.deeper (envOfC "is_line" (defScope (top 11)) s.heap.objs.size f cdv)).units = A.units + 3 := rfl; omega
  have hu1 : A.units + 3 + 1 < cLine := by omega
  have hu64 : A.units + 3 + 64 < cLine := by omega
  exact (pss_one (ps_ret (pe_and (pe_callB call_isi rfl B.z_isinstance (by decide +kernel) (pa_cons (pv 0) (pa_cons (pe_bltn (v := .ty "str") rfl B.z_str (by decide +kernel) rfl) pa_nil))) (pe_one (pe_callB (cr_all rfl) rfl B.z_all (by decide +kernel) (pa_cons (pe_lc (own := [("sign", 1)]) rfl nd (pi_str (pv 0)) (blkOk_by rfl) (fun _ _ _ _ _ => (pg_name (i := 1) nd rfl (by first | exact Or.inl rfl | exact Or.inr rfl))) (fun _ _ _ _ _ => pts_nil) (fun _ _ _ _ _ => (pe_cmpR op_in_sign (pv 1) (pe_gstr rfl g_LETTERS) rfl))) pa_nil))))))
theorem sc_is_word : FnScope ["value"] ["value"] (defScope (top 12)) := ⟨rfl, rfl, rfl, by decide +kernel, rfl, by decide +kernel, by decide +kernel⟩
theorem lk_is_word {P : Program} {w : World} {K : PySem.W.Frag} {mg : Str → Option Value} {base : Heap} {ca : Str → Addr} {f : Addr} {fd : FuncData} (B : Blt mg) (F_is_line : FnIs P w K mg base 1 "is_line" ["value"] (sp_is_line K ca)) (F : FunD K "is_word" "is_word" (defArgs (top 12)) (defBody (top 12)) (defScope (top 12)) [] [] f fd) : FnOk P w K mg base (L2.CX P w) 2 f fd ["value"] (sp_is_word K ca) := by
  refine F.ok sc_is_word (fun vs H Q E h => (pure_is_word vs H Q E h).1) (fun cdv A outer s H vs Q E hr h => ⟨t_is_word K ca E, ?_, (pure_is_word vs H Q E h).2⟩)
  have nd := sc_is_word.nd
  have hu : A.units + 3 + 100 < cLine := by have := hr.un; have e : (A.deeper (envOfC "is_word" (defScope (top 12)) s.heap.objs.size f cdv)).units = A.units + 3 := rfl; omega
  have hu1 : A.units + 3 + 1 < cLine := by omega
  have hu64 : A.units + 3 + 64 < cLine := by omega
  exact (pss_one (ps_ret (pe_and (pe_fn F_is_line (hr.mono (by decide)) rfl (passes_call (takes_of rfl rfl rfl rfl) (fun _ _ _ _ h => h)) (pa_cons (pv 0) pa_nil)) (pe_one (pe_cmpR op_gt (pe_callB call_len rfl B.z_len (by decide +kernel) (pa_cons (pv 0) pa_nil)) pe_int (nomark _))))))
theorem sc_need_word : FnScope ["word"] ["word"] (defScope (top 13)) := ⟨rfl, rfl, rfl, by decide +kernel, rfl, by decide +kernel, by decide +kernel⟩
theorem lk_need_word {P : Program} {w : World} {K : PySem.W.Frag} {mg : Str → Option Value} {base : Heap} {ca : Str → Addr} {f : Addr} {fd : FuncData} (B : Blt mg) (F_is_word : FnIs P w K mg base 2 "is_word" ["value"] (sp_is_word K ca)) (x_BadWord : ExcIs K mg "BadWord" (ca "BadWord")) (F : FunD K "need_word" "need_word" (defArgs (top 13)) (defBody (top 13)) (defScope (top 13)) [] [] f fd) : FnOk P w K mg base (L2.CX P w) 3 f fd ["word"] (sp_need_word K ca) := by
  refine F.ok sc_need_word (fun vs H Q E h => (pure_need_word vs H Q E h).1) (fun cdv A outer s H vs Q E hr h => ⟨t_need_word K ca E, ?_, (pure_need_word vs H Q E h).2⟩)
  have nd := sc_need_word.nd
  have hu : A.units + 3 + 100 < cLine := by have := hr.un; have e : (A.deeper (envOfC "need_word" (defScope (top 13)) s.heap.objs.size f cdv)).units = A.units + 3 := rfl; omega
  have hu1 : A.units + 3 + 1 < cLine := by omega
  have hu64 : A.units + 3 + 64 < cLine := by omega
  exact (pss_one (ps_if (pt_not (pt_val (pe_fn F_is_word (hr.mono (by decide)) rfl (passes_call (takes_of rfl rfl rfl rfl) (fun _ _ _ _ h => h)) (pa_cons (pv 0) pa_nil)))) (pss_one (ps_raise rfl (takes_of rfl rfl rfl rfl) (pmk_exc x_BadWord (by rfl)))) pss_nil))
theorem sc_need_length : FnScope ["length"] ["length"] (defScope (top 14)) := ⟨rfl, rfl, rfl, by decide +kernel, rfl, by decide +kernel, by decide +kernel⟩
theorem lk_need_length {P : Program} {w : World} {K : PySem.W.Frag} {mg : Str → Option Value} {base : Heap} {ca : Str → Addr} {f : Addr} {fd : FuncData} (B : Blt mg) (F_is_between : FnIs P w K mg base 2 "is_between" ["value", "least", "most"] (sp_is_between K ca)) (x_BadLength : ExcIs K mg "BadLength" (ca "BadLength")) (g_MOST_LETTERS : ∃ t, mg "MOST_LETTERS" = some (.int 120 t)) (F : FunD K "need_length" "need_length" (defArgs (top 14)) (defBody (top 14)) (defScope (top 14)) [] [] f fd) : FnOk P w K mg base (L2.CX P w) 3 f fd ["length"] (sp_need_length K ca) := by
  refine F.ok sc_need_length (fun vs H Q E h => (pure_need_length vs H Q E h).1) (fun cdv A outer s H vs Q E hr h => ⟨t_need_length K ca E, ?_, (pure_need_length vs H Q E h).2⟩)
  have nd := sc_need_length.nd
  have hu : A.units + 3 + 100 < cLine := by have := hr.un; have e : (A.deeper (envOfC "need_length" (defScope (top 14)) s.heap.objs.size f cdv)).units = A.units + 3 := rfl; omega
  have hu1 : A.units + 3 + 1 < cLine := by omega
  have hu64 : A.units + 3 + 64 < cLine := by omega
  exact (pss_one (ps_if (pt_not (pt_val (pe_fn F_is_between (hr.mono (by decide)) rfl (passes_call (takes_of rfl rfl rfl rfl) (fun _ _ _ _ h => h)) (pa_cons (pv 0) (pa_cons pe_int (pa_cons (pe_gint rfl g_MOST_LETTERS) pa_nil)))))) (pss_one (ps_raise rfl (takes_of rfl rfl rfl rfl) (pmk_exc x_BadLength (by rfl)))) pss_nil))
theorem sc_places_of : FnScope ["text", "piece", "at"] ["text", "piece"] (defScope (top 15)) := ⟨rfl, rfl, rfl, by decide +kernel, rfl, by decide +kernel, by decide +kernel⟩
theorem lk_places_of {P : Program} {w : World} {K : PySem.W.Frag} {mg : Str → Option Value} {base : Heap} {ca : Str → Addr} {f : Addr} {fd : FuncData} (B : Blt mg) (F : FunD K "places_of" "places_of" (defArgs (top 15)) (defBody (top 15)) (defScope (top 15)) [] [] f fd) : FnOk P w K mg base (L2.CX P w) 1 f fd ["text", "piece"] (sp_places_of K ca) := by
  refine F.ok sc_places_of (fun vs H Q E h => (pure_places_of vs H Q E h).1) (fun cdv A outer s H vs Q E hr h => ⟨t_places_of K ca E, ?_, (pure_places_of vs H Q E h).2⟩)
  have nd := sc_places_of.nd
  have hu : A.units + 3 + 100 < cLine := by have := hr.un; have e : (A.deeper (envOfC "places_of" (defScope (top 15)) s.heap.objs.size f cdv)).units = A.units + 3 := rfl; omega
  have hu1 : A.units + 3 + 1 < cLine := by omega
  have hu64 : A.units + 3 + 64 < cLine := by omega
  exact (pss_one (ps_ret (pe_lc (own := [("at", 2)]) rfl nd (pi_range1 rfl B.z_range (pa_cons (pe_op op_add (pe_op op_sub (pe_callB call_len rfl B.z_len (by decide +kernel) (pa_cons (pv 0) pa_nil)) (pe_callB call_len rfl B.z_len (by decide +kernel) (pa_cons (pv 1) pa_nil))) pe_int) pa_nil)) (blkOk_by rfl) (fun _ _ _ _ _ => (pg_name (i := 2) nd rfl (by first | exact Or.inl rfl | exact Or.inr rfl))) (fun _ _ _ _ _ => (pts_one (pt_cmpR op_eq (pe_slice sl_str (pv 0) (po_some (pv 2)) (po_some (pe_op op_add (pv 2) (pe_callB call_len rfl B.z_len (by decide +kernel) (pa_cons (pv 1) pa_nil))))) (pv 1) (nomark _)))) (fun _ _ _ _ _ => (pv 2)))))
theorem sc_occurrences : FnScope ["word", "piece"] ["word", "piece"] (defScope (top 16)) := ⟨rfl, rfl, rfl, by decide +kernel, rfl, by decide +kernel, by decide +kernel⟩
theorem lk_occurrences {P : Program} {w : World} {K : PySem.W.Frag} {mg : Str → Option Value} {base : Heap} {ca : Str → Addr} {f : Addr} {fd : FuncData} (B : Blt mg) (F_need_word : FnIs P w K mg base 3 "need_word" ["word"] (sp_need_word K ca)) (F_places_of : FnIs P w K mg base 1 "places_of" ["text", "piece"] (sp_places_of K ca)) (F : FunD K "occurrences" "occurrences" (defArgs (top 16)) (defBody (top 16)) (defScope (top 16)) [] [] f fd) : FnOk P w K mg base (L2.CX P w) 4 f fd ["word", "piece"] (sp_occurrences K ca) := by
  refine F.ok sc_occurrences (fun vs H Q E h => (pure_occurrences vs H Q E h).1) (fun cdv A outer s H vs Q E hr h => ⟨t_occurrences K ca E, ?_, (pure_occurrences vs H Q E h).2⟩)
  have nd := sc_occurrences.nd
  have hu : A.units + 3 + 100 < cLine := by have := hr.un; have e : (A.deeper (envOfC "occurrences" (defScope (top 16)) s.heap.objs.size f cdv)).units = A.units + 3 := rfl; omega
  have hu1 : A.units + 3 + 1 < cLine := by omega
  have hu64 : A.units + 3 + 64 < cLine := by omega
  exact (pss_cons (ps_expr (pe_fn F_need_word (hr.mono (by decide)) rfl (passes_call (takes_of rfl rfl rfl rfl) (fun _ _ _ _ h => h)) (pa_cons (pv 0) pa_nil))) (pss_cons (ps_expr (pe_fn F_need_word (hr.mono (by decide)) rfl (passes_call (takes_of rfl rfl rfl rfl) (fun _ _ _ _ h => h)) (pa_cons (pv 1) pa_nil))) (pss_one (ps_ret (pe_fn F_places_of (hr.mono (by decide)) rfl (passes_call (takes_of rfl rfl rfl rfl) (fun _ _ _ _ h => h)) (pa_cons (pv 0) (pa_cons (pv 1) pa_nil)))))))
theorem sc_counted : FnScope ["some", "found", "one"] ["some"] (defScope (top 17)) := ⟨rfl, rfl, rfl, by decide +kernel, rfl, by decide +kernel, by decide +kernel⟩
theorem lk_counted {P : Program} {w : World} {K : PySem.W.Frag} {mg : Str → Option Value} {base : Heap} {ca : Str → Addr} {f : Addr} {fd : FuncData} (B : Blt mg) (F : FunD K "counted" "counted" (defArgs (top 17)) (defBody (top 17)) (defScope (top 17)) [] [] f fd) : FnOk P w K mg base (L2.CX P w) 1 f fd ["some"] (sp_counted K ca) := by
  refine F.ok sc_counted (fun vs H Q E h => (pure_counted vs H Q E h).1) (fun cdv A outer s H vs Q E hr h => ⟨t_counted K ca E, ?_, (pure_counted vs H Q E h).2⟩)
  have nd := sc_counted.nd
  have hu : A.units + 3 + 100 < cLine := by have := hr.un; have e : (A.deeper (envOfC "counted" (defScope (top 17)) s.heap.objs.size f cdv)).units = A.units + 3 := rfl; omega
  have hu1 : A.units + 3 + 1 < cLine := by omega
  have hu64 : A.units + 3 + 64 < cLine := by omega
  exact (pss_cons (ps_set (i := 1) nd rfl (by first | exact Or.inl rfl | exact Or.inr rfl) pe_dnewK) (pss_cons (ps_for (passes_of rfl) rfl (pi_list (pv 0)) (pg_name (i := 2) nd rfl (by first | exact Or.inl rfl | exact Or.inr rfl)) (pss_one (ps_dput hu1 (pv 1) (pv 2) (pe_op op_add (pe_dget2 hu1 (pv 1) (pv 2) pe_int ⟨by rfl, by rfl, by rfl, by rfl⟩) pe_int) rfl))) (pss_one (ps_ret (pe_dc (own := [("one", 2)]) rfl nd (pi_list (pe_callB (call_sortedD rfl) rfl B.z_sorted (by decide +kernel) (pa_cons (pv 1) pa_nil))) (blkOk_by rfl) (fun _ _ _ _ _ => (pg_name (i := 2) nd rfl (by first | exact Or.inl rfl | exact Or.inr rfl))) (fun _ _ _ _ _ => pts_nil) (fun _ _ _ _ _ => (pv 2)) (fun _ _ _ _ _ => (pe_dget hu1 (pv 1) (pv 2) (fun _ _ => rfl))))))))
theorem sc_stretches : FnScope ["text", "length", "at"] ["text", "length"] (defScope (top 18)) := ⟨rfl, rfl, rfl, by decide +kernel, rfl, by decide +kernel, by decide +kernel⟩
theorem lk_stretches {P : Program} {w : World} {K : PySem.W.Frag} {mg : Str → Option Value} {base : Heap} {ca : Str → Addr} {f : Addr} {fd : FuncData} (B : Blt mg) (F : FunD K "stretches" "stretches" (defArgs (top 18)) (defBody (top 18)) (defScope (top 18)) [] [] f fd) : FnOk P w K mg base (L2.CX P w) 1 f fd ["text", "length"] (sp_stretches K ca) := by
  refine F.ok sc_stretches (fun vs H Q E h => (pure_stretches vs H Q E h).1) (fun cdv A outer s H vs Q E hr h => ⟨t_stretches K ca E, ?_, (pure_stretches vs H Q E h).2⟩)
  have nd := sc_stretches.nd
  have hu : A.units + 3 + 100 < cLine := by have := hr.un; have e : (A.deeper (envOfC "stretches" (defScope (top 18)) s.heap.objs.size f cdv)).units = A.units + 3 := rfl; omega
  have hu1 : A.units + 3 + 1 < cLine := by omega
  have hu64 : A.units + 3 + 64 < cLine := by omega
  exact (pss_one (ps_ret (pe_lc (own := [("at", 2)]) rfl nd (pi_range1 rfl B.z_range (pa_cons (pe_op op_add (pe_op op_sub (pe_callB call_len rfl B.z_len (by decide +kernel) (pa_cons (pv 0) pa_nil)) (pv 1)) pe_int) pa_nil)) (blkOk_by rfl) (fun _ _ _ _ _ => (pg_name (i := 2) nd rfl (by first | exact Or.inl rfl | exact Or.inr rfl))) (fun _ _ _ _ _ => pts_nil) (fun _ _ _ _ _ => (pe_slice sl_str (pv 0) (po_some (pv 2)) (po_some (pe_op op_add (pv 2) (pv 1))))))))
theorem sc_pieces : FnScope ["word", "length"] ["word", "length"] (defScope (top 19)) := ⟨rfl, rfl, rfl, by decide +kernel, rfl, by decide +kernel, by decide +kernel⟩
theorem lk_pieces {P : Program} {w : World} {K : PySem.W.Frag} {mg : Str → Option Value} {base : Heap} {ca : Str → Addr} {f : Addr} {fd : FuncData} (B : Blt mg) (F_need_word : FnIs P w K mg base 3 "need_word" ["word"] (sp_need_word K ca)) (F_need_length : FnIs P w K mg base 3 "need_length" ["length"] (sp_need_length K ca)) (F_counted : FnIs P w K mg base 1 "counted" ["some"] (sp_counted K ca)) (F_stretches : FnIs P w K mg base 1 "stretches" ["text", "length"] (sp_stretches K ca)) (F : FunD K "pieces" "pieces" (defArgs (top 19)) (defBody (top 19)) (defScope (top 19)) [] [] f fd) : FnOk P w K mg base (L2.CX P w) 4 f fd ["word", "length"] (sp_pieces K ca) := by
  refine F.ok sc_pieces (fun vs H Q E h => (pure_pieces vs H Q E h).1) (fun cdv A outer s H vs Q E hr h => ⟨t_pieces K ca E, ?_, (pure_pieces vs H Q E h).2⟩)
  have nd := sc_pieces.nd
  have hu : A.units + 3 + 100 < cLine := by have := hr.un; have e : (A.deeper (envOfC "pieces" (defScope (top 19)) s.heap.objs.size f cdv)).units = A.units + 3 := rfl; omega
  have hu1 : A.units + 3 + 1 < cLine := by omega
  have hu64 : A.units + 3 + 64 < cLine := by omega
  exact (pss_cons (ps_expr (pe_fn F_need_word (hr.mono (by decide)) rfl (passes_call (takes_of rfl rfl rfl rfl) (fun _ _ _ _ h => h)) (pa_cons (pv 0) pa_nil))) (pss_cons (ps_expr (pe_fn F_need_length (hr.mono (by decide)) rfl (passes_call (takes_of rfl rfl rfl rfl) (fun _ _ _ _ h => h)) (pa_cons (pv 1) pa_nil))) (pss_one (ps_ret (pe_fn F_counted (hr.mono (by decide)) rfl (passes_call (takes_of rfl rfl rfl rfl) (fun _ _ _ _ h => h)) (pa_cons (pe_fn F_stretches (hr.mono (by decide)) rfl (passes_call (takes_of rfl rfl rfl rfl) (fun _ _ _ _ h => h)) (pa_cons (pv 0) (pa_cons (pv 1) pa_nil))) pa_nil))))))
theorem sc_borders_of : FnScope ["text", "length"] ["text"] (defScope (top 20)) := ⟨rfl, rfl, rfl, by decide +kernel, rfl, by decide +kernel, by decide +kernel⟩
theorem lk_borders_of {P : Program} {w : World} {K : PySem.W.Frag} {mg : Str → Option Value} {base : Heap} {ca : Str → Addr} {f : Addr} {fd : FuncData} (B : Blt mg) (F : FunD K "borders_of" "borders_of" (defArgs (top 20)) (defBody (top 20)) (defScope (top 20)) [] [] f fd) : FnOk P w K mg base (L2.CX P w) 1 f fd ["text"] (sp_borders_of K ca) := by
  refine F.ok sc_borders_of (fun vs H Q E h => (pure_borders_of vs H Q E h).1) (fun cdv A outer s H vs Q E hr h => ⟨t_borders_of K ca E, ?_, (pure_borders_of vs H Q E h).2⟩)
  have nd := sc_borders_of.nd
  have hu : A.units + 3 + 100 < cLine := by have := hr.un; have e : (A.deeper (envOfC "borders_of" (defScope (top 20)) s.heap.objs.size f cdv)).units = A.units + 3 := rfl; omega
  have hu1 : A.units + 3 + 1 < cLine := by omega
  have hu64 : A.units + 3 + 64 < cLine := by omega
  exact (pss_one (ps_ret (pe_lc (own := [("length", 1)]) rfl nd (pi_range2 rfl B.z_range (pa_cons pe_int (pa_cons (pe_callB call_len rfl B.z_len (by decide +kernel) (pa_cons (pv 0) pa_nil)) pa_nil))) (blkOk_by rfl) (fun _ _ _ _ _ => (pg_name (i := 1) nd rfl (by first | exact Or.inl rfl | exact Or.inr rfl))) (fun _ _ _ _ _ => (pts_one (pt_cmpR op_eq (pe_slice sl_str (pv 0) po_none (po_some (pv 1))) (pe_slice sl_str (pv 0) (po_some (pe_op op_sub (pe_callB call_len rfl B.z_len (by decide +kernel) (pa_cons (pv 0) pa_nil)) (pv 1))) po_none) (nomark _)))) (fun _ _ _ _ _ => (pv 1)))))
theorem sc_borders : FnScope ["word"] ["word"] (defScope (top 21)) := ⟨rfl, rfl, rfl, by decide +kernel, rfl, by decide +kernel, by decide +kernel⟩
theorem lk_borders {P : Program} {w : World} {K : PySem.W.Frag} {mg : Str → Option Value} {base : Heap} {ca : Str → Addr} {f : Addr} {fd : FuncData} (B : Blt mg) (F_need_word : FnIs P w K mg base 3 "need_word" ["word"] (sp_need_word K ca)) (F_borders_of : FnIs P w K mg base 1 "borders_of" ["text"] (sp_borders_of K ca)) (F : FunD K "borders" "borders" (defArgs (top 21)) (defBody (top 21)) (defScope (top 21)) [] [] f fd) : FnOk P w K mg base (L2.CX P w) 4 f fd ["word"] (sp_borders K ca) := by
  refine F.ok sc_borders (fun vs H Q E h => (pure_borders vs H Q E h).1) (fun cdv A outer s H vs Q E hr h => ⟨t_borders K ca E, ?_, (pure_borders vs H Q E h).2⟩)
  have nd := sc_borders.nd
  have hu : A.units + 3 + 100 < cLine := by have := hr.un; have e : (A.deeper (envOfC "borders" (defScope (top 21)) s.heap.objs.size f cdv)).units = A.units + 3 := rfl; omega
  have hu1 : A.units + 3 + 1 < cLine := by omega
  have hu64 : A.units + 3 + 64 < cLine := by omega
  exact (pss_cons (ps_expr (pe_fn F_need_word (hr.mono (by decide)) rfl (passes_call (takes_of rfl rfl rfl rfl) (fun _ _ _ _ h => h)) (pa_cons (pv 0) pa_nil))) (pss_one (ps_ret (pe_fn F_borders_of (hr.mono (by decide)) rfl (passes_call (takes_of rfl rfl rfl rfl) (fun _ _ _ _ h => h)) (pa_cons (pv 0) pa_nil)))))
theorem sc_root_of : FnScope ["text", "length"] ["text"] (defScope (top 22)) := ⟨rfl, rfl, rfl, by decide +kernel, rfl, by decide +kernel, by decide +kernel⟩
theorem lk_root_of {P : Program} {w : World} {K : PySem.W.Frag} {mg : Str → Option Value} {base : Heap} {ca : Str → Addr} {f : Addr} {fd : FuncData} (B : Blt mg) (F : FunD K "root_of" "root_of" (defArgs (top 22)) (defBody (top 22)) (defScope (top 22)) [] [] f fd) : FnOk P w K mg base (L2.CX P w) 1 f fd ["text"] (sp_root_of K ca) := by
  refine F.ok sc_root_of (fun vs H Q E h => (pure_root_of vs H Q E h).1) (fun cdv A outer s H vs Q E hr h => ⟨t_root_of K ca E, ?_, (pure_root_of vs H Q E h).2⟩)
  have nd := sc_root_of.nd
  have hu : A.units + 3 + 100 < cLine := by have := hr.un; have e : (A.deeper (envOfC "root_of" (defScope (top 22)) s.heap.objs.size f cdv)).units = A.units + 3 := rfl; omega
  have hu1 : A.units + 3 + 1 < cLine := by omega
  have hu64 : A.units + 3 + 64 < cLine := by omega
  exact (pss_cons (ps_for (passes_of rfl) rfl (pi_range2 rfl B.z_range (pa_cons pe_int (pa_cons (pe_callB call_len rfl B.z_len (by decide +kernel) (pa_cons (pv 0) pa_nil)) pa_nil))) (pg_name (i := 1) nd rfl (by first | exact Or.inl rfl | exact Or.inr rfl)) (pss_one (ps_if (PW.pt (pw_and (pt_cmpR op_eq (pe_op op_modN (pe_callB call_len rfl B.z_len (by decide +kernel) (pa_cons (pv 0) pa_nil)) (pv 1)) pe_int (nomark _)) (pw_and1 (pt_cmpR op_eq (pe_op op_mulS (pe_slice sl_str (pv 0) po_none (po_some (pv 1))) (pe_op op_fdivN (pe_callB call_len rfl B.z_len (by decide +kernel) (pa_cons (pv 0) pa_nil)) (pv 1))) (pv 0) (nomark _))))) (pss_one (ps_ret (pe_tup (pa_cons (pe_slice sl_str (pv 0) po_none (po_some (pv 1))) (pa_cons (pe_op op_fdivN (pe_callB call_len rfl B.z_len (by decide +kernel) (pa_cons (pv 0) pa_nil)) (pv 1)) pa_nil))))) pss_nil))) (pss_one (ps_ret (pe_tup (pa_cons (pv 0) (pa_cons pe_int pa_nil))))))
theorem sc_root : FnScope ["word"] ["word"] (defScope (top 23)) := ⟨rfl, rfl, rfl, by decide +kernel, rfl, by decide +kernel, by decide +kernel⟩
theorem lk_root {P : Program} {w : World} {K : PySem.W.Frag} {mg : Str → Option Value} {base : Heap} {ca : Str → Addr} {f : Addr} {fd : FuncData} (B : Blt mg) (F_need_word : FnIs P w K mg base 3 "need_word" ["word"] (sp_need_word K ca)) (F_root_of : FnIs P w K mg base 1 "root_of" ["text"] (sp_root_of K ca)) (F : FunD K "root" "root" (defArgs (top 23)) (defBody (top 23)) (defScope (top 23)) [] [] f fd) : FnOk P w K mg base (L2.CX P w) 4 f fd ["word"] (sp_root K ca) := by
  refine F.ok sc_root (fun vs H Q E h => (pure_root vs H Q E h).1) (fun cdv A outer s H vs Q E hr h => ⟨t_root K ca E, ?_, (pure_root vs H Q E h).2⟩)
  have nd := sc_root.nd
  have hu : A.units + 3 + 100 < cLine := by have := hr.un; have e : (A.deeper (envOfC "root" (defScope (top 23)) s.heap.objs.size f cdv)).units = A.units + 3 := rfl; omega
  have hu1 : A.units + 3 + 1 < cLine := by omega
  have hu64 : A.units + 3 + 64 < cLine := by omega
  exact (pss_cons (ps_expr (pe_fn F_need_word (hr.mono (by decide)) rfl (passes_call (takes_of rfl rfl rfl rfl) (fun _ _ _ _ h => h)) (pa_cons (pv 0) pa_nil))) (pss_one (ps_ret (pe_fn F_root_of (hr.mono (by decide)) rfl (passes_call (takes_of rfl rfl rfl rfl) (fun _ _ _ _ h => h)) (pa_cons (pv 0) pa_nil)))))
theorem sc_longest_common : FnScope ["one", "other", "length", "known", "found", "piece"] ["one", "other"] (defScope (top 24)) := ⟨rfl, rfl, rfl, by decide +kernel, rfl, by decide +kernel, by decide +kernel⟩
theorem lk_longest_common {P : Program} {w : World} {K : PySem.W.Frag} {mg : Str → Option Value} {base : Heap} {ca : Str → Addr} {f : Addr} {fd : FuncData} (B : Blt mg) (F_need_word : FnIs P w K mg base 3 "need_word" ["word"] (sp_need_word K ca)) (F_stretches : FnIs P w K mg base 1 "stretches" ["text", "length"] (sp_stretches K ca)) (F : FunD K "longest_common" "longest_common" (defArgs (top 24)) (defBody (top 24)) (defScope (top 24)) [] [] f fd) : FnOk P w K mg base (L2.CX P w) 4 f fd ["one", "other"] (sp_longest_common K ca) := by
  refine F.ok sc_longest_common (fun vs H Q E h => (pure_longest_common vs H Q E h).1) (fun cdv A outer s H vs Q E hr h => ⟨t_longest_common K ca E, ?_, (pure_longest_common vs H Q E h).2⟩)
  have nd := sc_longest_common.nd
  have hu : A.units + 3 + 100 < cLine := by have := hr.un; have e : (A.deeper (envOfC "longest_common" (defScope (top 24)) s.heap.objs.size f cdv)).units = A.units + 3 := rfl; omega
  have hu1 : A.units + 3 + 1 < cLine := by omega
  have hu64 : A.units + 3 + 64 < cLine := by omega
  exact (pss_cons (ps_expr (pe_fn F_need_word (hr.mono (by decide)) rfl (passes_call (takes_of rfl rfl rfl rfl) (fun _ _ _ _ h => h)) (pa_cons (pv 0) pa_nil))) (pss_cons (ps_expr (pe_fn F_need_word (hr.mono (by decide)) rfl (passes_call (takes_of rfl rfl rfl rfl) (fun _ _ _ _ h => h)) (pa_cons (pv 1) pa_nil))) (pss_cons (ps_for (passes_of rfl) rfl (pi_range3 rfl B.z_range (pa_cons (pe_callB (call_min2 rfl) rfl B.z_min (by decide +kernel) (pa_cons (pe_callB call_len rfl B.z_len (by decide +kernel) (pa_cons (pv 0) pa_nil)) (pa_cons (pe_callB call_len rfl B.z_len (by decide +kernel) (pa_cons (pv 1) pa_nil)) pa_nil))) (pa_cons pe_int (pa_cons (pe_un un_neg pe_int) pa_nil)))) (pg_name (i := 2) nd rfl (by first | exact Or.inl rfl | exact Or.inr rfl)) (pss_cons (ps_set (i := 3) nd rfl (by first | exact Or.inl rfl | exact Or.inr rfl) (pe_dc (own := [("piece", 5)]) rfl nd (pi_list (pe_fn F_stretches (hr.mono (by decide)) rfl (passes_call (takes_of rfl rfl rfl rfl) (fun _ _ _ _ h => h)) (pa_cons (pv 1) (pa_cons (pv 2) pa_nil)))) (blkOk_by rfl) (fun _ _ _ _ _ => (pg_name (i := 5) nd rfl (by first | exact Or.inl rfl | exact Or.inr rfl))) (fun _ _ _ _ _ => pts_nil) (fun _ _ _ _ _ => (pv 5)) (fun _ _ _ _ _ => pe_bl))) (pss_cons (ps_setDc (i := 4) (own := [("piece", 5)]) rfl nd rfl rfl (sw_dict rfl rfl rfl (by decide +kernel)) (pi_list (pe_fn F_stretches (hr.mono (by decide)) rfl (passes_call (takes_of rfl rfl rfl rfl) (fun _ _ _ _ h => h)) (pa_cons (pv 0) (pa_cons (pv 2) pa_nil)))) (blkOk_by rfl) (fun _ _ _ _ _ => (pg_name (i := 5) nd rfl (by first | exact Or.inl rfl | exact Or.inr rfl))) (fun _ _ _ _ _ => (pts_one (pt_cmp (pc_din hu1 (pv 5) (pv 3)) rfl))) (fun _ _ _ _ _ => (pv 5)) (fun _ _ _ _ _ => pe_bl)) (pss_one (ps_if (pt_cmpR op_gt (pe_callB cr_lenD rfl B.z_len (by decide +kernel) (pa_cons (pv 4) pa_nil)) pe_int (nomark _)) (pss_one (ps_ret (pe_callB (call_sortedD rfl) rfl B.z_sorted (by decide +kernel) (pa_cons (pv 4) pa_nil)))) pss_nil))))) (pss_one (ps_ret (pe_lst pa_nil))))))
theorem sc_turn_of : FnScope ["text", "number"] ["text", "number"] (defScope (top 26)) := ⟨rfl, rfl, rfl, by decide +kernel, rfl, by decide +kernel, by decide +kernel⟩
theorem lk_turn_of {P : Program} {w : World} {K : PySem.W.Frag} {mg : Str → Option Value} {base : Heap} {ca : Str → Addr} {f : Addr} {fd : FuncData} (B : Blt mg) (F : FunD K "turn_of" "turn_of" (defArgs (top 26)) (defBody (top 26)) (defScope (top 26)) [] [] f fd) : FnOk P w K mg base (L2.CX P w) 1 f fd ["text", "number"] (sp_turn_of K ca) := by
  refine F.ok sc_turn_of (fun vs H Q E h => (pure_turn_of vs H Q E h).1) (fun cdv A outer s H vs Q E hr h => ⟨t_turn_of K ca E, ?_, (pure_turn_of vs H Q E h).2⟩)
  have nd := sc_turn_of.nd
  have hu : A.units + 3 + 100 < cLine := by have := hr.un; have e : (A.deeper (envOfC "turn_of" (defScope (top 26)) s.heap.objs.size f cdv)).units = A.units + 3 := rfl; omega
  have hu1 : A.units + 3 + 1 < cLine := by omega
  have hu64 : A.units + 3 + 64 < cLine := by omega
  exact (pss_one (ps_ret (pe_op op_add_str (pe_slice sl_str (pv 0) (po_some (pv 1)) po_none) (pe_slice sl_str (pv 0) po_none (po_some (pv 1))))))
theorem sc_least_turn : FnScope ["text", "number"] ["text"] (defScope (top 27)) := ⟨rfl, rfl, rfl, by decide +kernel, rfl, by decide +kernel, by decide +kernel⟩
theorem lk_least_turn {P : Program} {w : World} {K : PySem.W.Frag} {mg : Str → Option Value} {base : Heap} {ca : Str → Addr} {f : Addr} {fd : FuncData} (B : Blt mg) (F_turn_of : FnIs P w K mg base 1 "turn_of" ["text", "number"] (sp_turn_of K ca)) (F : FunD K "least_turn" "least_turn" (defArgs (top 27)) (defBody (top 27)) (defScope (top 27)) [] [] f fd) : FnOk P w K mg base (L2.CX P w) 2 f fd ["text"] (sp_least_turn K ca) := by
  refine F.ok sc_least_turn (fun vs H Q E h => (pure_least_turn vs H Q E h).1) (fun cdv A outer s H vs Q E hr h => ⟨t_least_turn K ca E, ?_, (pure_least_turn vs H Q E h).2⟩)
  have nd := sc_least_turn.nd
  have hu : A.units + 3 + 100 < cLine := by have := hr.un; have e : (A.deeper (envOfC "least_turn" (defScope (top 27)) s.heap.objs.size f cdv)).units = A.units + 3 := rfl; omega
  have hu1 : A.units + 3 + 1 < cLine := by omega
  have hu64 : A.units + 3 + 64 < cLine := by omega
  exact (pss_one (ps_ret (pe_callB (cr_minD rfl hu) rfl B.z_min (by decide +kernel) (pa_cons (pe_lc (own := [("number", 1)]) rfl nd (pi_range1 rfl B.z_range (pa_cons (pe_callB call_len rfl B.z_len (by decide +kernel) (pa_cons (pv 0) pa_nil)) pa_nil)) (blkOk_by rfl) (fun _ _ _ _ _ => (pg_name (i := 1) nd rfl (by first | exact Or.inl rfl | exact Or.inr rfl))) (fun _ _ _ _ _ => pts_nil) (fun _ _ _ _ _ => (pe_fn F_turn_of (hr.mono (by decide)) rfl passL (pa_cons (pv 0) (pa_cons (pv 1) pa_nil))))) pa_nil))))
theorem sc_is_ring : FnScope ["value"] ["value"] (defScope (top 28)) := ⟨rfl, rfl, rfl, by decide +kernel, rfl, by decide +kernel, by decide +kernel⟩
theorem lk_is_ring {P : Program} {w : World} {K : PySem.W.Frag} {mg : Str → Option Value} {base : Heap} {ca : Str → Addr} {f : Addr} {fd : FuncData} (B : Blt mg) (F_is_word : FnIs P w K mg base 2 "is_word" ["value"] (sp_is_word K ca)) (F_least_turn : FnIs P w K mg base 2 "least_turn" ["text"] (sp_least_turn K ca)) (F : FunD K "is_ring" "is_ring" (defArgs (top 28)) (defBody (top 28)) (defScope (top 28)) [] [] f fd) : FnOk P w K mg base (L2.CX P w) 3 f fd ["value"] (sp_is_ring K ca) := by
  refine F.ok sc_is_ring (fun vs H Q E h => (pure_is_ring vs H Q E h).1) (fun cdv A outer s H vs Q E hr h => ⟨t_is_ring K ca E, ?_, (pure_is_ring vs H Q E h).2⟩)
  have nd := sc_is_ring.nd
  have hu : A.units + 3 + 100 < cLine := by have := hr.un; have e : (A.deeper (envOfC "is_ring" (defScope (top 28)) s.heap.objs.size f cdv)).units = A.units + 3 := rfl; omega
  have hu1 : A.units + 3 + 1 < cLine := by omega
  have hu64 : A.units + 3 + 64 < cLine := by omega
  exact (pss_one (ps_ret (pe_and (pe_fn F_is_word (hr.mono (by decide)) rfl (passes_call (takes_of rfl rfl rfl rfl) (fun _ _ _ _ h => h)) (pa_cons (pv 0) pa_nil)) (pe_one (pe_cmpR op_eq (pe_fn F_least_turn (hr.mono (by decide)) rfl (passes_call (takes_of rfl rfl rfl rfl) (fun _ _ _ _ h => h)) (pa_cons (pv 0) pa_nil)) (pv 0) (nomark _))))))
theorem sc_need_ring : FnScope ["ring"] ["ring"] (defScope (top 29)) := ⟨rfl, rfl, rfl, by decide +kernel, rfl, by decide +kernel, by decide +kernel⟩
theorem lk_need_ring {P : Program} {w : World} {K : PySem.W.Frag} {mg : Str → Option Value} {base : Heap} {ca : Str → Addr} {f : Addr} {fd : FuncData} (B : Blt mg) (F_is_ring : FnIs P w K mg base 3 "is_ring" ["value"] (sp_is_ring K ca)) (x_BadRing : ExcIs K mg "BadRing" (ca "BadRing")) (F : FunD K "need_ring" "need_ring" (defArgs (top 29)) (defBody (top 29)) (defScope (top 29)) [] [] f fd) : FnOk P w K mg base (L2.CX P w) 4 f fd ["ring"] (sp_need_ring K ca) := by
  refine F.ok sc_need_ring (fun vs H Q E h => (pure_need_ring vs H Q E h).1) (fun cdv A outer s H vs Q E hr h => ⟨t_need_ring K ca E, ?_, (pure_need_ring vs H Q E h).2⟩)
  have nd := sc_need_ring.nd
  have hu : A.units + 3 + 100 < cLine := by have := hr.un; have e : (A.deeper (envOfC "need_ring" (defScope (top 29)) s.heap.objs.size f cdv)).units = A.units + 3 := rfl; omega
  have hu1 : A.units + 3 + 1 < cLine := by omega
  have hu64 : A.units + 3 + 64 < cLine := by omega
  exact (pss_one (ps_if (pt_not (pt_val (pe_fn F_is_ring (hr.mono (by decide)) rfl (passes_call (takes_of rfl rfl rfl rfl) (fun _ _ _ _ h => h)) (pa_cons (pv 0) pa_nil)))) (pss_one (ps_raise rfl (takes_of rfl rfl rfl rfl) (pmk_exc x_BadRing (by rfl)))) pss_nil))
theorem sc_turn : FnScope ["word", "number"] ["word", "number"] (defScope (top 30)) := ⟨rfl, rfl, rfl, by decide +kernel, rfl, by decide +kernel, by decide +kernel⟩
theorem lk_turn {P : Program} {w : World} {K : PySem.W.Frag} {mg : Str → Option Value} {base : Heap} {ca : Str → Addr} {f : Addr} {fd : FuncData} (B : Blt mg) (F_need_word : FnIs P w K mg base 3 "need_word" ["word"] (sp_need_word K ca)) (F_is_between : FnIs P w K mg base 2 "is_between" ["value", "least", "most"] (sp_is_between K ca)) (F_turn_of : FnIs P w K mg base 1 "turn_of" ["text", "number"] (sp_turn_of K ca)) (x_BadIndex : ExcIs K mg "BadIndex" (ca "BadIndex")) (F : FunD K "turn" "turn" (defArgs (top 30)) (defBody (top 30)) (defScope (top 30)) [] [] f fd) : FnOk P w K mg base (L2.CX P w) 4 f fd ["word", "number"] (sp_turn K ca) := by
  refine F.ok sc_turn (fun vs H Q E h => (pure_turn vs H Q E h).1) (fun cdv A outer s H vs Q E hr h => ⟨t_turn K ca E, ?_, (pure_turn vs H Q E h).2⟩)
  have nd := sc_turn.nd
  have hu : A.units + 3 + 100 < cLine := by have := hr.un; have e : (A.deeper (envOfC "turn" (defScope (top 30)) s.heap.objs.size f cdv)).units = A.units + 3 := rfl; omega
  have hu1 : A.units + 3 + 1 < cLine := by omega
  have hu64 : A.units + 3 + 64 < cLine := by omega
  exact (pss_cons (ps_expr (pe_fn F_need_word (hr.mono (by decide)) rfl (passes_call (takes_of rfl rfl rfl rfl) (fun _ _ _ _ h => h)) (pa_cons (pv 0) pa_nil))) (pss_cons (ps_if (pt_not (pt_val (pe_fn F_is_between (hr.mono (by decide)) rfl (passes_call (takes_of rfl rfl rfl rfl) (fun _ _ _ _ h => h)) (pa_cons (pv 1) (pa_cons pe_int (pa_cons (pe_op op_sub (pe_callB call_len rfl B.z_len (by decide +kernel) (pa_cons (pv 0) pa_nil)) pe_int) pa_nil)))))) (pss_one (ps_raise rfl (takes_of rfl rfl rfl rfl) (pmk_exc x_BadIndex (by rfl)))) pss_nil) (pss_one (ps_ret (pe_fn F_turn_of (hr.mono (by decide)) rfl (passes_call (takes_of rfl rfl rfl rfl) (fun _ _ _ _ h => h)) (pa_cons (pv 0) (pa_cons (pv 1) pa_nil)))))))
theorem sc_ring_of : FnScope ["word"] ["word"] (defScope (top 31)) := ⟨rfl, rfl, rfl, by decide +kernel, rfl, by decide +kernel, by decide +kernel⟩
theorem lk_ring_of {P : Program} {w : World} {K : PySem.W.Frag} {mg : Str → Option Value} {base : Heap} {ca : Str → Addr} {f : Addr} {fd : FuncData} (B : Blt mg) (F_need_word : FnIs P w K mg base 3 "need_word" ["word"] (sp_need_word K ca)) (F_least_turn : FnIs P w K mg base 2 "least_turn" ["text"] (sp_least_turn K ca)) (F : FunD K "ring_of" "ring_of" (defArgs (top 31)) (defBody (top 31)) (defScope (top 31)) [] [] f fd) : FnOk P w K mg base (L2.CX P w) 4 f fd ["word"] (sp_ring_of K ca) := by
  refine F.ok sc_ring_of (fun vs H Q E h => (pure_ring_of vs H Q E h).1) (fun cdv A outer s H vs Q E hr h => ⟨t_ring_of K ca E, ?_, (pure_ring_of vs H Q E h).2⟩)
  have nd := sc_ring_of.nd
  have hu : A.units + 3 + 100 < cLine := by have := hr.un; have e : (A.deeper (envOfC "ring_of" (defScope (top 31)) s.heap.objs.size f cdv)).units = A.units + 3 := rfl; omega
  have hu1 : A.units + 3 + 1 < cLine := by omega
  have hu64 : A.units + 3 + 64 < cLine := by omega
  exact (pss_cons (ps_expr (pe_fn F_need_word (hr.mono (by decide)) rfl (passes_call (takes_of rfl rfl rfl rfl) (fun _ _ _ _ h => h)) (pa_cons (pv 0) pa_nil))) (pss_one (ps_ret (pe_fn F_least_turn (hr.mono (by decide)) rfl (passes_call (takes_of rfl rfl rfl rfl) (fun _ _ _ _ h => h)) (pa_cons (pv 0) pa_nil)))))
theorem sc_read_on : FnScope ["text", "at", "length", "step"] ["text", "at", "length"] (defScope (top 32)) := ⟨rfl, rfl, rfl, by decide +kernel, rfl, by decide +kernel, by decide +kernel⟩
theorem lk_read_on {P : Program} {w : World} {K : PySem.W.Frag} {mg : Str → Option Value} {base : Heap} {ca : Str → Addr} {f : Addr} {fd : FuncData} (B : Blt mg) (F : FunD K "read_on" "read_on" (defArgs (top 32)) (defBody (top 32)) (defScope (top 32)) [] [] f fd) : FnOk P w K mg base (L2.CX P w) 1 f fd ["text", "at", "length"] (sp_read_on K ca) := by
  refine F.ok sc_read_on (fun vs H Q E h => (pure_read_on vs H Q E h).1) (fun cdv A outer s H vs Q E hr h => ⟨t_read_on K ca E, ?_, (pure_read_on vs H Q E h).2⟩)
  have nd := sc_read_on.nd
  have hu : A.units + 3 + 100 < cLine := by have := hr.un; have e : (A.deeper (envOfC "read_on" (defScope (top 32)) s.heap.objs.size f cdv)).units = A.units + 3 := rfl; omega
  have hu1 : A.units + 3 + 1 < cLine := by omega
  have hu64 : A.units + 3 + 64 < cLine := by omega
  exact (pss_one (ps_ret (pe_join pe_str (pe_lc (own := [("step", 3)]) rfl nd (pi_range1 rfl B.z_range (pa_cons (pv 2) pa_nil)) (blkOk_by rfl) (fun _ _ _ _ _ => (pg_name (i := 3) nd rfl (by first | exact Or.inl rfl | exact Or.inr rfl))) (fun _ _ _ _ _ => pts_nil) (fun _ _ _ _ _ => (pe_ix ix_seq (pv 0) (pe_op op_modN (pe_op op_add (pv 1) (pv 3)) (pe_callB call_len rfl B.z_len (by decide +kernel) (pa_cons (pv 0) pa_nil))) (fun _ _ => rfl)))))))
theorem sc_ring_stretches : FnScope ["text", "length", "at"] ["text", "length"] (defScope (top 33)) := ⟨rfl, rfl, rfl, by decide +kernel, rfl, by decide +kernel, by decide +kernel⟩
theorem lk_ring_stretches {P : Program} {w : World} {K : PySem.W.Frag} {mg : Str → Option Value} {base : Heap} {ca : Str → Addr} {f : Addr} {fd : FuncData} (B : Blt mg) (F_read_on : FnIs P w K mg base 1 "read_on" ["text", "at", "length"] (sp_read_on K ca)) (F : FunD K "ring_stretches" "ring_stretches" (defArgs (top 33)) (defBody (top 33)) (defScope (top 33)) [] [] f fd) : FnOk P w K mg base (L2.CX P w) 2 f fd ["text", "length"] (sp_ring_stretches K ca) := by
  refine F.ok sc_ring_stretches (fun vs H Q E h => (pure_ring_stretches vs H Q E h).1) (fun cdv A outer s H vs Q E hr h => ⟨t_ring_stretches K ca E, ?_, (pure_ring_stretches vs H Q E h).2⟩)
  have nd := sc_ring_stretches.nd
  have hu : A.units + 3 + 100 < cLine := by have := hr.un; have e : (A.deeper (envOfC "ring_stretches" (defScope (top 33)) s.heap.objs.size f cdv)).units = A.units + 3 := rfl; omega
  have hu1 : A.units + 3 + 1 < cLine := by omega
  have hu64 : A.units + 3 + 64 < cLine := by omega
  exact (pss_one (ps_ret (pe_lc (own := [("at", 2)]) rfl nd (pi_range1 rfl B.z_range (pa_cons (pe_callB call_len rfl B.z_len (by decide +kernel) (pa_cons (pv 0) pa_nil)) pa_nil)) (blkOk_by rfl) (fun _ _ _ _ _ => (pg_name (i := 2) nd rfl (by first | exact Or.inl rfl | exact Or.inr rfl))) (fun _ _ _ _ _ => pts_nil) (fun _ _ _ _ _ => (pe_fn F_read_on (hr.mono (by decide)) rfl passL (pa_cons (pv 0) (pa_cons (pv 2) (pa_cons (pv 1) pa_nil))))))))
theorem sc_ring_places : FnScope ["text", "piece", "at", "stretch"] ["text", "piece"] (defScope (top 34)) := ⟨rfl, rfl, rfl, by decide +kernel, rfl, by decide +kernel, by decide +kernel⟩
theorem lk_ring_places {P : Program} {w : World} {K : PySem.W.Frag} {mg : Str → Option Value} {base : Heap} {ca : Str → Addr} {f : Addr} {fd : FuncData} (B : Blt mg) (F_ring_stretches : FnIs P w K mg base 2 "ring_stretches" ["text", "length"] (sp_ring_stretches K ca)) (F : FunD K "ring_places" "ring_places" (defArgs (top 34)) (defBody (top 34)) (defScope (top 34)) [] [] f fd) : FnOk P w K mg base (L2.CX P w) 3 f fd ["text", "piece"] (sp_ring_places K ca) := by
  refine F.ok sc_ring_places (fun vs H Q E h => (pure_ring_places vs H Q E h).1) (fun cdv A outer s H vs Q E hr h => ⟨t_ring_places K ca E, ?_, (pure_ring_places vs H Q E h).2⟩)
  have nd := sc_ring_places.nd
  have hu : A.units + 3 + 100 < cLine := by have := hr.un; have e : (A.deeper (envOfC "ring_places" (defScope (top 34)) s.heap.objs.size f cdv)).units = A.units + 3 := rfl; omega
  have hu1 : A.units + 3 + 1 < cLine := by omega
  have hu64 : A.units + 3 + 64 < cLine := by omega
  exact (pss_one (ps_ret (pe_lc (own := [("at", 2), ("stretch", 3)]) rfl nd (pi_enum rfl B.z_enumerate (pa_cons (pe_fn F_ring_stretches (hr.mono (by decide)) rfl (passes_call (takes_of rfl rfl rfl rfl) (fun _ _ _ _ h => h)) (pa_cons (pv 0) (pa_cons (pe_callB call_len rfl B.z_len (by decide +kernel) (pa_cons (pv 1) pa_nil)) pa_nil))) pa_nil)) (blkOk_by rfl) (fun _ _ _ _ _ => (pg_tup rfl (pgs_cons (pg_name (i := 2) nd rfl (by first | exact Or.inl rfl | exact Or.inr rfl)) (pgs_cons (pg_name (i := 3) nd rfl (by first | exact Or.inl rfl | exact Or.inr rfl)) pgs_nil)))) (fun _ _ _ _ _ => (pts_one (pt_cmpR op_eq (pv 3) (pv 1) (nomark _)))) (fun _ _ _ _ _ => (pv 2)))))
theorem sc_ring_occurrences : FnScope ["ring", "piece"] ["ring", "piece"] (defScope (top 35)) := ⟨rfl, rfl, rfl, by decide +kernel, rfl, by decide +kernel, by decide +kernel⟩
theorem lk_ring_occurrences {P : Program} {w : World} {K : PySem.W.Frag} {mg : Str → Option Value} {base : Heap} {ca : Str → Addr} {f : Addr} {fd : FuncData} (B : Blt mg) (F_need_ring : FnIs P w K mg base 4 "need_ring" ["ring"] (sp_need_ring K ca)) (F_need_word : FnIs P w K mg base 3 "need_word" ["word"] (sp_need_word K ca)) (F_ring_places : FnIs P w K mg base 3 "ring_places" ["text", "piece"] (sp_ring_places K ca)) (F : FunD K "ring_occurrences" "ring_occurrences" (defArgs (top 35)) (defBody (top 35)) (defScope (top 35)) [] [] f fd) : FnOk P w K mg base (L2.CX P w) 5 f fd ["ring", "piece"] (sp_ring_occurrences K ca) := by
  refine F.ok sc_ring_occurrences (fun vs H Q E h => (pure_ring_occurrences vs H Q E h).1) (fun cdv A outer s H vs Q E hr h => ⟨t_ring_occurrences K ca E, ?_, (pure_ring_occurrences vs H Q E h).2⟩)
  have nd := sc_ring_occurrences.nd
  have hu : A.units + 3 + 100 < cLine := by have := hr.un; have e : (A.deeper (envOfC "ring_occurrences" (defScope (top 35)) s.heap.objs.size f cdv)).units = A.units + 3 := rfl; omega
  have hu1 : A.units + 3 + 1 < cLine := by omega
  have hu64 : A.units + 3 + 64 < cLine := by omega
  exact (pss_cons (ps_expr (pe_fn F_need_ring (hr.mono (by decide)) rfl (passes_call (takes_of rfl rfl rfl rfl) (fun _ _ _ _ h => h)) (pa_cons (pv 0) pa_nil))) (pss_cons (ps_expr (pe_fn F_need_word (hr.mono (by decide)) rfl (passes_call (takes_of rfl rfl rfl rfl) (fun _ _ _ _ h => h)) (pa_cons (pv 1) pa_nil))) (pss_one (ps_ret (pe_fn F_ring_places (hr.mono (by decide)) rfl (passes_call (takes_of rfl rfl rfl rfl) (fun _ _ _ _ h => h)) (pa_cons (pv 0) (pa_cons (pv 1) pa_nil)))))))
theorem sc_ring_pieces : FnScope ["ring", "length"] ["ring", "length"] (defScope (top 36)) := ⟨rfl, rfl, rfl, by decide +kernel, rfl, by decide +kernel, by decide +kernel⟩
theorem lk_ring_pieces {P : Program} {w : World} {K : PySem.W.Frag} {mg : Str → Option Value} {base : Heap} {ca : Str → Addr} {f : Addr} {fd : FuncData} (B : Blt mg) (F_need_ring : FnIs P w K mg base 4 "need_ring" ["ring"] (sp_need_ring K ca)) (F_need_length : FnIs P w K mg base 3 "need_length" ["length"] (sp_need_length K ca)) (F_counted : FnIs P w K mg base 1 "counted" ["some"] (sp_counted K ca)) (F_ring_stretches : FnIs P w K mg base 2 "ring_stretches" ["text", "length"] (sp_ring_stretches K ca)) (F : FunD K "ring_pieces" "ring_pieces" (defArgs (top 36)) (defBody (top 36)) (defScope (top 36)) [] [] f fd) : FnOk P w K mg base (L2.CX P w) 5 f fd ["ring", "length"] (sp_ring_pieces K ca) := by
  refine F.ok sc_ring_pieces (fun vs H Q E h => (pure_ring_pieces vs H Q E h).1) (fun cdv A outer s H vs Q E hr h => ⟨t_ring_pieces K ca E, ?_, (pure_ring_pieces vs H Q E h).2⟩)
  have nd := sc_ring_pieces.nd
  have hu : A.units + 3 + 100 < cLine := by have := hr.un; have e : (A.deeper (envOfC "ring_pieces" (defScope (top 36)) s.heap.objs.size f cdv)).units = A.units + 3 := rfl; omega
  have hu1 : A.units + 3 + 1 < cLine := by omega
  have hu64 : A.units + 3 + 64 < cLine := by omega
  exact (pss_cons (ps_expr (pe_fn F_need_ring (hr.mono (by decide)) rfl (passes_call (takes_of rfl rfl rfl rfl) (fun _ _ _ _ h => h)) (pa_cons (pv 0) pa_nil))) (pss_cons (ps_expr (pe_fn F_need_length (hr.mono (by decide)) rfl (passes_call (takes_of rfl rfl rfl rfl) (fun _ _ _ _ h => h)) (pa_cons (pv 1) pa_nil))) (pss_one (ps_ret (pe_fn F_counted (hr.mono (by decide)) rfl (passes_call (takes_of rfl rfl rfl rfl) (fun _ _ _ _ h => h)) (pa_cons (pe_fn F_ring_stretches (hr.mono (by decide)) rfl (passes_call (takes_of rfl rfl rfl rfl) (fun _ _ _ _ h => h)) (pa_cons (pv 0) (pa_cons (pv 1) pa_nil))) pa_nil))))))
theorem sc__law_begun : FnScope ["_law_script", "_law_wide", "_law_cell"] ["_law_script"] (defScope (top 38)) := ⟨rfl, rfl, rfl, by decide +kernel, rfl, by decide +kernel, by decide +kernel⟩
theorem lk__law_begun {P : Program} {w : World} {K : PySem.W.Frag} {mg : Str → Option Value} {base : Heap} {ca : Str → Addr} {f : Addr} {fd : FuncData} (B : Blt mg) (F : FunD K "_law_begun" "_law_begun" (defArgs (top 38)) (defBody (top 38)) (defScope (top 38)) [] [] f fd) : FnOk P w K mg base (L2.CX P w) 1 f fd ["_law_script"] (sp__law_begun K ca) := by
  refine F.ok sc__law_begun (fun vs H Q E h => (pure__law_begun vs H Q E h).1) (fun cdv A outer s H vs Q E hr h => ⟨t__law_begun K ca E, ?_, (pure__law_begun vs H Q E h).2⟩)
  have nd := sc__law_begun.nd
  have hu : A.units + 3 + 100 < cLine := by have := hr.un; have e : (A.deeper (envOfC "_law_begun" (defScope (top 38)) s.heap.objs.size f cdv)).units = A.units + 3 := rfl; omega
  have hu1 : A.units + 3 + 1 < cLine := by omega
  have hu64 : A.units + 3 + 64 < cLine := by omega
  exact (pss_cons (ps_setLc (i := 1) (own := [("_law_cell", 2)]) rfl nd rfl rfl (sw_true rfl rfl rfl (by decide +kernel)) (pi_list (pv 0)) (blkOk_by rfl) (fun _ _ _ _ _ => (pg_name (i := 2) nd rfl (by first | exact Or.inl rfl | exact Or.inr rfl))) (fun _ _ _ _ _ => (pts_one (pt_cmpR op_ge (pe_callB call_abs rfl B.z_abs (by decide +kernel) (pa_cons (pv 2) pa_nil)) (pe_op op_pow pe_int pe_int) (nomark _)))) (fun _ _ _ _ _ => (pe_op op_sub (pe_callB call_abs rfl B.z_abs (by decide +kernel) (pa_cons (pv 2) pa_nil)) (pe_op op_pow pe_int pe_int)))) (pss_one (ps_ret (pe_disp (pps_cons pe_str (pv 1) (pps_cons pe_str (pe_lc (own := [("_law_cell", 2)]) rfl nd (pi_list (pv 0)) (blkOk_by rfl) (fun _ _ _ _ _ => (pg_name (i := 2) nd rfl (by first | exact Or.inl rfl | exact Or.inr rfl))) (fun _ _ _ _ _ => pts_nil) (fun _ _ _ _ _ => (pe_op op_modN (pe_callTy call_int1 rfl B.z_int (by decide +kernel) (pa_cons (pe_callB call_abs rfl B.z_abs (by decide +kernel) (pa_cons (pv 2) pa_nil)) pa_nil)) pe_int))) (pps_cons pe_str pe_int (pps_cons pe_str pe_int pps_nil)))) (by rfl) (by rfl) (fun z => by cases z) (by decide)))))
theorem sc__law_mixed : FnScope ["_law_draw", "_law_tick", "_law_found", "_law_prime", "_law_blend", "_law_cell"] ["_law_draw"] (defScope (top 39)) := ⟨rfl, rfl, rfl, by decide +kernel, rfl, by decide +kernel, by decide +kernel⟩
theorem lk__law_mixed {P : Program} {w : World} {K : PySem.W.Frag} {mg : Str → Option Value} {base : Heap} {ca : Str → Addr} {f : Addr} {fd : FuncData} (B : Blt mg) (F : FunD K "_law_mixed" "_law_mixed" (defArgs (top 39)) (defBody (top 39)) (defScope (top 39)) [] [] f fd) : FnOk P w K mg base (L2.CX P w) 1 f fd ["_law_draw"] (sp__law_mixed K ca) := by
  refine F.ok sc__law_mixed (fun vs H Q E h => (pure__law_mixed vs H Q E h).1) (fun cdv A outer s H vs Q E hr h => ⟨t__law_mixed K ca E, ?_, (pure__law_mixed vs H Q E h).2⟩)
  have nd := sc__law_mixed.nd
  have hu : A.units + 3 + 100 < cLine := by have := hr.un; have e : (A.deeper (envOfC "_law_mixed" (defScope (top 39)) s.heap.objs.size f cdv)).units = A.units + 3 := rfl; omega
  have hu1 : A.units + 3 + 1 < cLine := by omega
  have hu64 : A.units + 3 + 64 < cLine := by omega
  exact (pss_cons (ps_par rfl nd rfl rfl (by decide) rfl rfl (pa_cons (pe_op op_add (pe_dget hu1 (pv 0) pe_str (fun _ _ => rfl)) pe_int) (pa_cons pe_int pa_nil)) rfl) (pss_cons (ps_dput hu1 (pv 0) pe_str (pv 1) rfl) (pss_cons (ps_for (passes_of rfl) rfl (pi_list (pe_lst (pa_cons pe_int (pa_cons pe_int (pa_cons pe_int (pa_cons pe_int pa_nil)))))) (pg_name (i := 3) nd rfl (by first | exact Or.inl rfl | exact Or.inr rfl)) (pss_cons (ps_set (i := 4) nd rfl (by first | exact Or.inl rfl | exact Or.inr rfl) (pe_op op_add (pe_op op_mul pe_int (pv 1)) (pe_op op_fdivN (pv 3) pe_int))) (pss_cons (ps_for (passes_of rfl) rfl (pi_list (pe_dget hu1 (pv 0) pe_str (fun _ _ => rfl))) (pg_name (i := 5) nd rfl (by first | exact Or.inl rfl | exact Or.inr rfl)) (pss_one (ps_set (i := 4) nd rfl (by first | exact Or.inl rfl | exact Or.inr rfl) (pe_op op_modN (pe_callTy call_int1 rfl B.z_int (by decide +kernel) (pa_cons (pe_op op_add (pe_op op_add (pe_op op_mul (pv 4) pe_int) (pv 5)) (pv 1)) pa_nil)) (pv 3))))) (pss_one (ps_set (i := 2) nd rfl (by first | exact Or.inl rfl | exact Or.inr rfl) (pe_op op_add (pe_op op_mul (pv 2) pe_int) (pe_op op_modN (pe_callTy call_int1 rfl B.z_int (by decide +kernel) (pa_cons (pe_op op_pow (pv 4) pe_int) pa_nil)) (pv 3)))))))) (pss_one (ps_ret (pv 2))))))
theorem sc__law_take : FnScope ["_law_draw", "_law_total", "_law_found"] ["_law_draw", "_law_total"] (defScope (top 40)) := ⟨rfl, rfl, rfl, by decide +kernel, rfl, by decide +kernel, by decide +kernel⟩
theorem lk__law_take {P : Program} {w : World} {K : PySem.W.Frag} {mg : Str → Option Value} {base : Heap} {ca : Str → Addr} {f : Addr} {fd : FuncData} (B : Blt mg) (F__law_mixed : FnIs P w K mg base 1 "_law_mixed" ["_law_draw"] (sp__law_mixed K ca)) (F : FunD K "_law_take" "_law_take" (defArgs (top 40)) (defBody (top 40)) (defScope (top 40)) [] [] f fd) : FnOk P w K mg base (L2.CX P w) 2 f fd ["_law_draw", "_law_total"] (sp__law_take K ca) := by
  refine F.ok sc__law_take (fun vs H Q E h => (pure__law_take vs H Q E h).1) (fun cdv A outer s H vs Q E hr h => ⟨t__law_take K ca E, ?_, (pure__law_take vs H Q E h).2⟩)
  have nd := sc__law_take.nd
  have hu : A.units + 3 + 100 < cLine := by have := hr.un; have e : (A.deeper (envOfC "_law_take" (defScope (top 40)) s.heap.objs.size f cdv)).units = A.units + 3 := rfl; omega
  have hu1 : A.units + 3 + 1 < cLine := by omega
  have hu64 : A.units + 3 + 64 < cLine := by omega
  exact (pss_cons (ps_if (pt_cmpR op_eq (pe_dget hu1 (pv 0) pe_str (fun _ _ => rfl)) pe_int (nomark _)) (pss_one (ps_dput hu1 (pv 0) pe_str (pe_ifExp (pt_cmpR (op_neD hu64) (pe_dget hu1 (pv 0) pe_str (fun _ _ => rfl)) (pe_lst pa_nil) (nomark _)) (pe_bm PySem.F.plainAttrs_list PySem.F.slot_list_pop PySem.F.type_list_pop mt_popAt (pe_dget hu1 (pv 0) pe_str (fun _ _ => rfl)) (pa_cons pe_int pa_nil)) (pe_fn F__law_mixed (hr.mono (by decide)) rfl (passes_call (takes_of rfl rfl rfl rfl) (fun _ _ _ _ h => h)) (pa_cons (pv 0) pa_nil))) rfl)) pss_nil) (pss_cons (ps_set (i := 2) nd rfl (by first | exact Or.inl rfl | exact Or.inr rfl) (pe_op op_modN (pe_callTy call_int1 rfl B.z_int (by decide +kernel) (pa_cons (pe_dget hu1 (pv 0) pe_str (fun _ _ => rfl)) pa_nil)) (pv 1))) (pss_cons (ps_dput hu1 (pv 0) pe_str (pe_op op_fdivN (pe_dget hu1 (pv 0) pe_str (fun _ _ => rfl)) (pv 1)) rfl) (pss_one (ps_ret (pv 2))))))
theorem sc__law_shuffled : FnScope ["_law_draw", "_law_some", "_law_left", "_law_found"] ["_law_draw", "_law_some"] (defScope (top 41)) := ⟨rfl, rfl, rfl, by decide +kernel, rfl, by decide +kernel, by decide +kernel⟩
theorem lk__law_shuffled {P : Program} {w : World} {K : PySem.W.Frag} {mg : Str → Option Value} {base : Heap} {ca : Str → Addr} {f : Addr} {fd : FuncData} (B : Blt mg) (F__law_take : FnIs P w K mg base 2 "_law_take" ["_law_draw", "_law_total"] (sp__law_take K ca)) (F : FunD K "_law_shuffled" "_law_shuffled" (defArgs (top 41)) (defBody (top 41)) (defScope (top 41)) [] [] f fd) : FnOk P w K mg base (L2.CX P w) 3 f fd ["_law_draw", "_law_some"] (sp__law_shuffled K ca) := by
  refine F.ok sc__law_shuffled (fun vs H Q E h => (pure__law_shuffled vs H Q E h).1) (fun cdv A outer s H vs Q E hr h => ⟨t__law_shuffled K ca E, ?_, (pure__law_shuffled vs H Q E h).2⟩)
  have nd := sc__law_shuffled.nd
  have hu : A.units + 3 + 100 < cLine := by have := hr.un; have e : (A.deeper (envOfC "_law_shuffled" (defScope (top 41)) s.heap.objs.size f cdv)).units = A.units + 3 := rfl; omega
  have hu1 : A.units + 3 + 1 < cLine := by omega
  have hu64 : A.units + 3 + 64 < cLine := by omega
  exact (pss_cons (ps_par rfl nd rfl rfl (by decide) rfl rfl (pa_cons (pe_callTy call_list_of rfl B.z_list (by decide +kernel) (pa_cons (pv 1) pa_nil)) (pa_cons (pe_lst pa_nil) pa_nil)) rfl) (pss_cons (ps_while (passes_of rfl) (pt_cmpR (op_neD hu64) (pv 2) (pe_lst pa_nil) (nomark _)) (pss_one (ps_expr (pe_bm PySem.F.plainAttrs_list PySem.F.slot_list_append PySem.F.type_list_append mt_append (pv 3) (pa_cons (pe_bm PySem.F.plainAttrs_list PySem.F.slot_list_pop PySem.F.type_list_pop mt_popAt (pv 2) (pa_cons (pe_fn F__law_take (hr.mono (by decide)) rfl (passes_call (takes_of rfl rfl rfl rfl) (fun _ _ _ _ h => h)) (pa_cons (pv 0) (pa_cons (pe_callB call_len rfl B.z_len (by decide +kernel) (pa_cons (pv 2) pa_nil)) pa_nil))) pa_nil)) pa_nil))))) (pss_one (ps_ret (pv 3)))))
theorem sc_law : FnScope ["_law_script", "_law_draw", "_law_lap", "_law_text", "_law_low", "_law_whole", "_law_due", "_law_ring_here", "_law_alone", "_law_x", "_law_y", "_law_i", "_law_j", "_law_many", "_law_k"] ["_law_script"] (defScope (top 42)) := ⟨rfl, rfl, rfl, by decide +kernel, rfl, by decide +kernel, by decide +kernel⟩
theorem lk_law {P : Program} {w : World} {K : PySem.W.Frag} {mg : Str → Option Value} {base : Heap} {ca : Str → Addr} {f : Addr} {fd : FuncData} (B : Blt mg) (F__law_begun : FnIs P w K mg base 1 "_law_begun" ["_law_script"] (sp__law_begun K ca)) (F__law_shuffled : FnIs P w K mg base 3 "_law_shuffled" ["_law_draw", "_law_some"] (sp__law_shuffled K ca)) (F__law_take : FnIs P w K mg base 2 "_law_take" ["_law_draw", "_law_total"] (sp__law_take K ca)) (F_borders : FnIs P w K mg base 4 "borders" ["word"] (sp_borders K ca)) (F_root : FnIs P w K mg base 4 "root" ["word"] (sp_root K ca)) (F_occurrences : FnIs P w K mg base 4 "occurrences" ["word", "piece"] (sp_occurrences K ca)) (F_ring_of : FnIs P w K mg base 4 "ring_of" ["word"] (sp_ring_of K ca)) (F_is_ring : FnIs P w K mg base 3 "is_ring" ["value"] (sp_is_ring K ca)) (F_turn : FnIs P w K mg base 4 "turn" ["word", "number"] (sp_turn K ca)) (F_ring_occurrences : FnIs P w K mg base 5 "ring_occurrences" ["ring", "piece"] (sp_ring_occurrences K ca)) (F_pieces : FnIs P w K mg base 4 "pieces" ["word", "length"] (sp_pieces K ca)) (F_ring_pieces : FnIs P w K mg base 5 "ring_pieces" ["ring", "length"] (sp_ring_pieces K ca)) (F_longest_common : FnIs P w K mg base 4 "longest_common" ["one", "other"] (sp_longest_common K ca)) (F : FunD K "law" "law" (defArgs (top 42)) (defBody (top 42)) (defScope (top 42)) [] [] f fd) : FnOk P w K mg base (L2.CX P w) 6 f fd ["_law_script"] (sp_law K ca) := by
  refine F.ok sc_law (fun vs H Q E h => (pure_law vs H Q E h).1) (fun cdv A outer s H vs Q E hr h => ⟨t_law K ca E, ?_, (pure_law vs H Q E h).2⟩)
  have nd := sc_law.nd
  have hu : A.units + 3 + 100 < cLine := by have := hr.un; have e : (A.deeper (envOfC "law" (defScope (top 42)) s.heap.objs.size f cdv)).units = A.units + 3 := rfl; omega
  have hu1 : A.units + 3 + 1 < cLine := by omega
  have hu64 : A.units + 3 + 64 < cLine := by omega
  exact (pss_cons (ps_set (i := 1) nd rfl (by first | exact Or.inl rfl | exact Or.inr rfl) (pe_fn F__law_begun (hr.mono (by decide)) rfl (passes_call (takes_of rfl rfl rfl rfl) (fun _ _ _ _ h => h)) (pa_cons (pv 0) pa_nil))) (pss_cons (ps_for (passes_of rfl) rfl (pi_range1 rfl B.z_range (pa_cons (pe_op op_add pe_int (pe_callB (call_min2 rfl) rfl B.z_min (by decide +kernel) (pa_cons (pe_callB call_len rfl B.z_len (by decide +kernel) (pa_cons (pv 0) pa_nil)) (pa_cons pe_int pa_nil)))) pa_nil)) (pg_name (i := 2) nd rfl (by first | exact Or.inl rfl | exact Or.inr rfl)) (pss_cons (ps_asg (pe_slice sl_list (pe_fn F__law_shuffled (hr.mono (by decide)) rfl (passes_call (takes_of rfl rfl rfl rfl) (fun _ _ _ _ h => h)) (pa_cons (pv 1) (pa_cons (pe_callTy (cr_listS rfl) rfl B.z_list (by decide +kernel) (pa_cons pe_str pa_nil)) pa_nil))) po_none (po_some pe_int)) (pg_unl rfl (pgs_cons (pg_name (i := 9) nd rfl (by first | exact Or.inl rfl | exact Or.inr rfl)) (pgs_cons (pg_name (i := 10) nd rfl (by first | exact Or.inl rfl | exact Or.inr rfl)) pgs_nil)))) (pss_cons (ps_asg (pe_tup (pa_cons (pe_fn F__law_take (hr.mono (by decide)) rfl (passes_call (takes_of rfl rfl rfl rfl) (fun _ _ _ _ h => h)) (pa_cons (pv 1) (pa_cons pe_int pa_nil))) (pa_cons (pe_fn F__law_take (hr.mono (by decide)) rfl (passes_call (takes_of rfl rfl rfl rfl) (fun _ _ _ _ h => h)) (pa_cons (pv 1) (pa_cons pe_int pa_nil))) (pa_cons (pe_op op_add pe_int (pe_fn F__law_take (hr.mono (by decide)) rfl (passes_call (takes_of rfl rfl rfl rfl) (fun _ _ _ _ h => h)) (pa_cons (pv 1) (pa_cons pe_int pa_nil)))) pa_nil)))) (pg_tup rfl (pgs_cons (pg_name (i := 11) nd rfl (by first | exact Or.inl rfl | exact Or.inr rfl)) (pgs_cons (pg_name (i := 12) nd rfl (by first | exact Or.inl rfl | exact Or.inr rfl)) (pgs_cons (pg_name (i := 13) nd rfl (by first | exact Or.inl rfl | exact Or.inr rfl)) pgs_nil))))) (pss_cons (ps_set (i := 3) nd rfl (by first | exact Or.inl rfl | exact Or.inr rfl) (pe_op op_add_str (pe_op op_add_str (pe_op op_mulS (pv 9) (pv 11)) (pv 10)) (pe_op op_mulS (pv 9) (pv 12)))) (pss_cons (ps_set (i := 4) nd rfl (by first | exact Or.inl rfl | exact Or.inr rfl) (pe_callB (call_min2 rfl) rfl B.z_min (by decide +kernel) (pa_cons (pv 11) (pa_cons (pv 12) pa_nil)))) (pss_cons (ps_if (PW.pt (pw_or (pt_cmpR (op_neD hu64) (pe_fn F_borders (hr.mono (by decide)) rfl (passes_call (takes_of rfl rfl rfl rfl) (fun _ _ _ _ h => h)) (pa_cons (pv 3) pa_nil)) (pe_listRg rfl rfl B.z_list (prg_2 rfl B.z_range pe_int (pe_op op_add (pv 4) pe_int))) (nomark _)) (pw_or1 (pt_cmpR (op_neD hu64) (pe_fn F_root (hr.mono (by decide)) rfl (passes_call (takes_of rfl rfl rfl rfl) (fun _ _ _ _ h => h)) (pa_cons (pv 3) pa_nil)) (pe_tup (pa_cons (pv 3) (pa_cons pe_int pa_nil))) (nomark _))))) (pss_one (ps_ret pe_bl)) pss_nil) (pss_cons (ps_set (i := 5) nd rfl (by first | exact Or.inl rfl | exact Or.inr rfl) (pe_op op_mulS (pv 3) (pv 13))) (pss_cons (ps_set (i := 6) nd rfl (by first | exact Or.inl rfl | exact Or.inr rfl) (pe_op op_cat (pe_listRg rfl rfl B.z_list (prg_2 rfl B.z_range pe_int (pe_op op_add (pv 4) pe_int))) (pe_lc (own := [("_law_k", 14)]) rfl nd (pi_range2 rfl B.z_range (pa_cons pe_int (pa_cons (pv 13) pa_nil))) (blkOk_by rfl) (fun _ _ _ _ _ => (pg_name (i := 14) nd rfl (by first | exact Or.inl rfl | exact Or.inr rfl))) (fun _ _ _ _ _ => pts_nil) (fun _ _ _ _ _ => (pe_op op_mul (pe_callB call_len rfl B.z_len (by decide +kernel) (pa_cons (pv 3) pa_nil)) (pv 14)))))) (pss_cons (ps_if (PW.pt (pw_or (pt_cmpR (op_neD hu64) (pe_fn F_borders (hr.mono (by decide)) rfl (passes_call (takes_of rfl rfl rfl rfl) (fun _ _ _ _ h => h)) (pa_cons (pv 5) pa_nil)) (pv 6) (nomark _)) (pw_or1 (pt_cmpR (op_neD hu64) (pe_fn F_root (hr.mono (by decide)) rfl (passes_call (takes_of rfl rfl rfl rfl) (fun _ _ _ _ h => h)) (pa_cons (pv 5) pa_nil)) (pe_tup (pa_cons (pv 3) (pa_cons (pv 13) pa_nil))) (nomark _))))) (pss_one (ps_ret pe_bl)) pss_nil) (pss_cons (ps_if (pt_cmpR (op_neD hu64) (pe_fn F_occurrences (hr.mono (by decide)) rfl (passes_call (takes_of rfl rfl rfl rfl) (fun _ _ _ _ h => h)) (pa_cons (pv 5) (pa_cons (pv 10) pa_nil))) (pe_lc (own := [("_law_k", 14)]) rfl nd (pi_range1 rfl B.z_range (pa_cons (pv 13) pa_nil)) (blkOk_by rfl) (fun _ _ _ _ _ => (pg_name (i := 14) nd rfl (by first | exact Or.inl rfl | exact Or.inr rfl))) (fun _ _ _ _ _ => pts_nil) (fun _ _ _ _ _ => (pe_op op_add (pv 11) (pe_op op_mul (pe_callB call_len rfl B.z_len (by decide +kernel) (pa_cons (pv 3) pa_nil)) (pv 14))))) (nomark _)) (pss_one (ps_ret pe_bl)) pss_nil) (pss_cons (ps_set (i := 7) nd rfl (by first | exact Or.inl rfl | exact Or.inr rfl) (pe_ifExp (pt_cmpR op_lt_str (pv 9) (pv 10) (nomark _)) (pe_op op_add_str (pe_op op_mulS (pv 9) (pe_op op_add (pv 11) (pv 12))) (pv 10)) (pe_op op_add_str (pv 10) (pe_op op_mulS (pv 9) (pe_op op_add (pv 11) (pv 12)))))) (pss_cons (ps_if (PW.pt (pw_or (pt_cmpR op_ne (pe_fn F_ring_of (hr.mono (by decide)) rfl (passes_call (takes_of rfl rfl rfl rfl) (fun _ _ _ _ h => h)) (pa_cons (pv 5) pa_nil)) (pe_op op_mulS (pv 7) (pv 13)) (nomark _)) (pw_or1 (pt_cmpR op_ne (pe_fn F_is_ring (hr.mono (by decide)) rfl (passes_call (takes_of rfl rfl rfl rfl) (fun _ _ _ _ h => h)) (pa_cons (pv 5) pa_nil)) (pe_cmpR op_eq (pv 5) (pe_op op_mulS (pv 7) (pv 13)) (nomark _)) (nomark _))))) (pss_one (ps_ret pe_bl)) pss_nil) (pss_cons (ps_if (PW.pt (pw_or (pt_cmpR op_ne (pe_fn F_turn (hr.mono (by decide)) rfl (passes_call (takes_of rfl rfl rfl rfl) (fun _ _ _ _ h => h)) (pa_cons (pv 3) (pa_cons (pv 11) pa_nil))) (pe_op op_add_str (pv 10) (pe_op op_mulS (pv 9) (pe_op op_add (pv 12) (pv 11)))) (nomark _)) (pw_or1 (pt_cmpR op_ne (pe_callB call_len rfl B.z_len (by decide +kernel) (pa_cons (pe_fn F_ring_occurrences (hr.mono (by decide)) rfl (passes_call (takes_of rfl rfl rfl rfl) (fun _ _ _ _ h => h)) (pa_cons (pv 7) (pa_cons (pv 10) pa_nil))) pa_nil)) pe_int (nomark _))))) (pss_one (ps_ret pe_bl)) pss_nil) (pss_cons (ps_set (i := 8) nd rfl (by first | exact Or.inl rfl | exact Or.inr rfl) (pe_op op_mulS (pv 9) (pe_op op_add pe_int (pv 11)))) (pss_cons (ps_if (PW.pt (pw_or (pt_cmpR (op_neD hu64) (pe_fn F_borders (hr.mono (by decide)) rfl (passes_call (takes_of rfl rfl rfl rfl) (fun _ _ _ _ h => h)) (pa_cons (pv 8) pa_nil)) (pe_listRg rfl rfl B.z_list (prg_2 rfl B.z_range pe_int (pe_op op_add pe_int (pv 11)))) (nomark _)) (pw_or (pt_cmpR (op_neD hu64) (pe_fn F_root (hr.mono (by decide)) rfl (passes_call (takes_of rfl rfl rfl rfl) (fun _ _ _ _ h => h)) (pa_cons (pv 8) pa_nil)) (pe_tup (pa_cons (pv 9) (pa_cons (pe_op op_add pe_int (pv 11)) pa_nil))) (nomark _)) (pw_or1 (pt_cmpR (op_neDic hu1) (pe_fn F_pieces (hr.mono (by decide)) rfl (passes_call (takes_of rfl rfl rfl rfl) (fun _ _ _ _ h => h)) (pa_cons (pv 8) (pa_cons pe_int pa_nil))) (pe_disp (pps_cons (pv 9) (pe_op op_add pe_int (pv 11)) pps_nil) (by rfl) (by rfl) (fun z => by cases z) (by decide)) (nomark _)))))) (pss_one (ps_ret pe_bl)) pss_nil) (pss_cons (ps_if (PW.pt (pw_or (pt_cmpR (op_neDic hu1) (pe_fn F_ring_pieces (hr.mono (by decide)) rfl (passes_call (takes_of rfl rfl rfl rfl) (fun _ _ _ _ h => h)) (pa_cons (pv 8) (pa_cons pe_int pa_nil))) (pe_disp (pps_cons (pe_op op_mulS (pv 9) pe_int) (pe_op op_add pe_int (pv 11)) pps_nil) (by rfl) (by rfl) (fun z => by cases z) (by decide)) (nomark _)) (pw_or1 (pt_cmpR (op_neD hu64) (pe_fn F_occurrences (hr.mono (by decide)) rfl (passes_call (takes_of rfl rfl rfl rfl) (fun _ _ _ _ h => h)) (pa_cons (pv 8) (pa_cons (pe_op op_mulS (pv 9) (pe_op op_add pe_int (pv 11))) pa_nil))) (pe_lst (pa_cons pe_int pa_nil)) (nomark _))))) (pss_one (ps_ret pe_bl)) pss_nil) (pss_one (ps_if (pt_cmpR (op_neD hu64) (pe_fn F_longest_common (hr.mono (by decide)) rfl (passes_call (takes_of rfl rfl rfl rfl) (fun _ _ _ _ h => h)) (pa_cons (pv 3) (pa_cons (pv 8) pa_nil))) (pe_ifExp (pt_cmpR op_gt (pe_op op_add (pv 11) (pv 12)) pe_int (nomark _)) (pe_lst (pa_cons (pe_op op_mulS (pv 9) (pe_callB (call_min2 rfl) rfl B.z_min (by decide +kernel) (pa_cons (pe_callB (call_max2 rfl) rfl B.z_max (by decide +kernel) (pa_cons (pv 11) (pa_cons (pv 12) pa_nil))) (pa_cons (pe_op op_add pe_int (pv 11)) pa_nil)))) pa_nil)) (pe_lst pa_nil)) (nomark _)) (pss_one (ps_ret pe_bl)) pss_nil)))))))))))))))))) (pss_one (ps_ret pe_bl))))
def d_is_integer : He.DefD := ⟨("is_integer", none), "is_integer", "is_integer", defArgs (top 9), defBody (top 9), defScope (top 9), [], []⟩
def d_is_between : He.DefD := ⟨("is_between", none), "is_between", "is_between", defArgs (top 10), defBody (top 10), defScope (top 10), [], []⟩
def d_is_line : He.DefD := ⟨("is_line", none), "is_line", "is_line", defArgs (top 11), defBody (top 11), defScope (top 11), [], []⟩
def d_is_word : He.DefD := ⟨("is_word", none), "is_word", "is_word", defArgs (top 12), defBody (top 12), defScope (top 12), [], []⟩
def d_need_word : He.DefD := ⟨("need_word", none), "need_word", "need_word", defArgs (top 13), defBody (top 13), defScope (top 13), [], []⟩
def d_need_length : He.DefD := ⟨("need_length", none), "need_length", "need_length", defArgs (top 14), defBody (top 14), defScope (top 14), [], []⟩
def d_places_of : He.DefD := ⟨("places_of", none), "places_of", "places_of", defArgs (top 15), defBody (top 15), defScope (top 15), [], []⟩
def d_occurrences : He.DefD := ⟨("occurrences", none), "occurrences", "occurrences", defArgs (top 16), defBody (top 16), defScope (top 16), [], []⟩
def d_counted : He.DefD := ⟨("counted", none), "counted", "counted", defArgs (top 17), defBody (top 17), defScope (top 17), [], []⟩
def d_stretches : He.DefD := ⟨("stretches", none), "stretches", "stretches", defArgs (top 18), defBody (top 18), defScope (top 18), [], []⟩
def d_pieces : He.DefD := ⟨("pieces", none), "pieces", "pieces", defArgs (top 19), defBody (top 19), defScope (top 19), [], []⟩
def d_borders_of : He.DefD := ⟨("borders_of", none), "borders_of", "borders_of", defArgs (top 20), defBody (top 20), defScope (top 20), [], []⟩
def d_borders : He.DefD := ⟨("borders", none), "borders", "borders", defArgs (top 21), defBody (top 21), defScope (top 21), [], []⟩
def d_root_of : He.DefD := ⟨("root_of", none), "root_of", "root_of", defArgs (top 22), defBody (top 22), defScope (top 22), [], []⟩
def d_root : He.DefD := ⟨("root", none), "root", "root", defArgs (top 23), defBody (top 23), defScope (top 23), [], []⟩
def d_longest_common : He.DefD := ⟨("longest_common", none), "longest_common", "longest_common", defArgs (top 24), defBody (top 24), defScope (top 24), [], []⟩
def d_turn_of : He.DefD := ⟨("turn_of", none), "turn_of", "turn_of", defArgs (top 26), defBody (top 26), defScope (top 26), [], []⟩
def d_least_turn : He.DefD := ⟨("least_turn", none), "least_turn", "least_turn", defArgs (top 27), defBody (top 27), defScope (top 27), [], []⟩
def d_is_ring : He.DefD := ⟨("is_ring", none), "is_ring", "is_ring", defArgs (top 28), defBody (top 28), defScope (top 28), [], []⟩
def d_need_ring : He.DefD := ⟨("need_ring", none), "need_ring", "need_ring", defArgs (top 29), defBody (top 29), defScope (top 29), [], []⟩
def d_turn : He.DefD := ⟨("turn", none), "turn", "turn", defArgs (top 30), defBody (top 30), defScope (top 30), [], []⟩
def d_ring_of : He.DefD := ⟨("ring_of", none), "ring_of", "ring_of", defArgs (top 31), defBody (top 31), defScope (top 31), [], []⟩
def d_read_on : He.DefD := ⟨("read_on", none), "read_on", "read_on", defArgs (top 32), defBody (top 32), defScope (top 32), [], []⟩
def d_ring_stretches : He.DefD := ⟨("ring_stretches", none), "ring_stretches", "ring_stretches", defArgs (top 33), defBody (top 33), defScope (top 33), [], []⟩
def d_ring_places : He.DefD := ⟨("ring_places", none), "ring_places", "ring_places", defArgs (top 34), defBody (top 34), defScope (top 34), [], []⟩
def d_ring_occurrences : He.DefD := ⟨("ring_occurrences", none), "ring_occurrences", "ring_occurrences", defArgs (top 35), defBody (top 35), defScope (top 35), [], []⟩
def d_ring_pieces : He.DefD := ⟨("ring_pieces", none), "ring_pieces", "ring_pieces", defArgs (top 36), defBody (top 36), defScope (top 36), [], []⟩
def d__law_begun : He.DefD := ⟨("_law_begun", none), "_law_begun", "_law_begun", defArgs (top 38), defBody (top 38), defScope (top 38), [], []⟩
def d__law_mixed : He.DefD := ⟨("_law_mixed", none), "_law_mixed", "_law_mixed", defArgs (top 39), defBody (top 39), defScope (top 39), [], []⟩
def d__law_take : He.DefD := ⟨("_law_take", none), "_law_take", "_law_take", defArgs (top 40), defBody (top 40), defScope (top 40), [], []⟩
def d__law_shuffled : He.DefD := ⟨("_law_shuffled", none), "_law_shuffled", "_law_shuffled", defArgs (top 41), defBody (top 41), defScope (top 41), [], []⟩
def d_law : He.DefD := ⟨("law", none), "law", "law", defArgs (top 42), defBody (top 42), defScope (top 42), [], []⟩
def fn : List He.DefD := ([d_is_integer, d_is_between, d_is_line, d_is_word, d_need_word, d_need_length, d_places_of, d_occurrences, d_counted, d_stretches, d_pieces, d_borders_of, d_borders, d_root_of, d_root, d_longest_common, d_turn_of, d_least_turn, d_is_ring, d_need_ring, d_turn, d_ring_of, d_read_on, d_ring_stretches] : List He.DefD) ++ ([d_ring_places, d_ring_occurrences, d_ring_pieces, d__law_begun, d__law_mixed, d__law_take, d__law_shuffled, d_law] : List He.DefD)
def fa : List He.Fa := ([.glo "is_integer", .glo "is_between", .glo "is_line", .glo "is_word", .glo "need_word", .glo "need_length", .glo "places_of", .glo "occurrences", .glo "counted", .glo "stretches", .glo "pieces", .glo "borders_of", .glo "borders", .glo "root_of", .glo "root", .glo "longest_common", .glo "turn_of", .glo "least_turn", .glo "is_ring", .glo "need_ring", .glo "turn", .glo "ring_of", .glo "read_on", .glo "ring_stretches"] : List He.Fa) ++ ([.glo "ring_places", .glo "ring_occurrences", .glo "ring_pieces", .glo "_law_begun", .glo "_law_mixed", .glo "_law_take", .glo "_law_shuffled", .glo "law", .free "abs", .free "all", .free "any", .free "bool", .free "dict", .free "enumerate", .free "int", .free "isinstance", .free "len", .free "list", .free "max", .free "min", .free "range", .free "repr", .free "set", .free "sorted"] : List He.Fa) ++ ([.free "str", .free "sum", .free "tuple", .free "zip", .glo "BadIndex", .glo "BadLength", .glo "BadRing", .glo "BadWord", .exc "BadIndex", .exc "BadLength", .exc "BadRing", .exc "BadWord", .str "LETTERS" "acgt", .int "MOST_LETTERS" 120] : List He.Fa)
abbrev R : PySem.W.OpenRow := PySem.W.OpenLaw.row PySem.Challenge.rw_readhouse_k08_known_words_and_rings
abbrev hk : PySem.W.Hook := He.hookD 4 fa fn
def ob (s : PySem.W.SharedT) : He.AlD := He.obsDG 4 fa fn (HandSHeadRun.getT s)
theorem ob_eq (s : PySem.W.SharedT) : ob s = hk.obs s.abs := He.obsDG_eq (HandSHeadRun.getT_eq s)
def loose : List Str := (["ReadError", "BadWord", "BadRing", "BadLength", "BadIndex", "LETTERS", "MOST_LETTERS", "is_integer", "is_between", "is_line", "is_word", "need_word", "need_length", "places_of", "occurrences", "counted", "stretches", "pieces", "borders_of", "borders", "root_of", "root", "longest_common", "turn_of"] : List Str) ++ (["least_turn", "is_ring", "need_ring", "turn", "ring_of", "read_on", "ring_stretches", "ring_places", "ring_occurrences", "ring_pieces", "_law_begun", "_law_mixed", "_law_take", "_law_shuffled"] : List Str)
theorem run (w : World) : HandSHeadRun.RunEq R (PySem.W.view R.prog [42]) hk ob 3000 loose w := by
  intro os
  kernel_rfl
theorem facts {P : Program} {w : World} {K : PySem.W.Frag} {h : Heap} {mg : Str → Option Value} {f : Addr} (X : K.In h) (G : h.Ns mainGlobals mg) (hfa : mg ("law" : Str) = some (.ref f)) (c : He.SaysD fa fn K) :
    ∃ fd : FuncData, (∀ (s : Shared) (v : Value), BindsTo s fd ⟨[v], []⟩ [("_law_script", v)]) ∧ ∀ base : Heap, K.In base → base.Ns mainGlobals mg → FnOk P w K mg base (L2.CX P w) 6 f fd ["_law_script"] (sp_law K (He.ga K)) := by
  have B : Blt mg := ⟨He.free_ok X G (c.fact 32 (f := .free "abs") rfl), He.free_ok X G (c.fact 33 (f := .free "all") rfl), He.free_ok X G (c.fact 34 (f := .free "any") rfl), He.free_ok X G (c.fact 35 (f := .free "bool") rfl), He.free_ok X G (c.fact 36 (f := .free "dict") rfl), He.free_ok X G (c.fact 37 (f := .free "enumerate") rfl), He.free_ok X G (c.fact 38 (f := .free "int") rfl), He.free_ok X G (c.fact 39 (f := .free "isinstance") rfl), He.free_ok X G (c.fact 40 (f := .free "len") rfl), He.free_ok X G (c.fact 41 (f := .free "list") rfl), He.free_ok X G (c.fact 42 (f := .free "max") rfl), He.free_ok X G (c.fact 43 (f := .free "min") rfl), He.free_ok X G (c.fact 44 (f := .free "range") rfl), He.free_ok X G (c.fact 45 (f := .free "repr") rfl), He.free_ok X G (c.fact 46 (f := .free "set") rfl), He.free_ok X G (c.fact 47 (f := .free "sorted") rfl), He.free_ok X G (c.fact 48 (f := .free "str") rfl), He.free_ok X G (c.fact 49 (f := .free "sum") rfl), He.free_ok X G (c.fact 50 (f := .free "tuple") rfl), He.free_ok X G (c.fact 51 (f := .free "zip") rfl)⟩
  have x_BadIndex : ExcIs K mg "BadIndex" (He.ga K "BadIndex") := ⟨He.glo_ok X G (c.fact 52 (f := .glo "BadIndex") rfl), He.exc_ok (c.fact 56 (f := .exc "BadIndex") rfl)⟩
  have x_BadLength : ExcIs K mg "BadLength" (He.ga K "BadLength") := ⟨He.glo_ok X G (c.fact 53 (f := .glo "BadLength") rfl), He.exc_ok (c.fact 57 (f := .exc "BadLength") rfl)⟩
  have x_BadRing : ExcIs K mg "BadRing" (He.ga K "BadRing") := ⟨He.glo_ok X G (c.fact 54 (f := .glo "BadRing") rfl), He.exc_ok (c.fact 58 (f := .exc "BadRing") rfl)⟩
  have x_BadWord : ExcIs K mg "BadWord" (He.ga K "BadWord") := ⟨He.glo_ok X G (c.fact 55 (f := .glo "BadWord") rfl), He.exc_ok (c.fact 59 (f := .exc "BadWord") rfl)⟩
  have g_LETTERS : ∃ t, mg "LETTERS" = some (.str "acgt" t) := He.str_ok X G (c.fact 60 (f := .str "LETTERS" "acgt") rfl)
  have g_MOST_LETTERS : ∃ t, mg "MOST_LETTERS" = some (.int 120 t) := He.int_ok X G (c.fact 61 (f := .int "MOST_LETTERS" 120) rfl)
  obtain ⟨fd_is_integer, D_is_integer⟩ := c.def_ 0 (d := d_is_integer) rfl
  obtain ⟨fd_is_between, D_is_between⟩ := c.def_ 1 (d := d_is_between) rfl
  obtain ⟨fd_is_line, D_is_line⟩ := c.def_ 2 (d := d_is_line) rfl
  obtain ⟨fd_is_word, D_is_word⟩ := c.def_ 3 (d := d_is_word) rfl
  obtain ⟨fd_need_word, D_need_word⟩ := c.def_ 4 (d := d_need_word) rfl
  obtain ⟨fd_need_length, D_need_length⟩ := c.def_ 5 (d := d_need_length) rfl
  obtain ⟨fd_places_of, D_places_of⟩ := c.def_ 6 (d := d_places_of) rfl
  obtain ⟨fd_occurrences, D_occurrences⟩ := c.def_ 7 (d := d_occurrences) rfl
  obtain ⟨fd_counted, D_counted⟩ := c.def_ 8 (d := d_counted) rfl
  obtain ⟨fd_stretches, D_stretches⟩ := c.def_ 9 (d := d_stretches) rfl
  obtain ⟨fd_pieces, D_pieces⟩ := c.def_ 10 (d := d_pieces) rfl
  obtain ⟨fd_borders_of, D_borders_of⟩ := c.def_ 11 (d := d_borders_of) rfl
  obtain ⟨fd_borders, D_borders⟩ := c.def_ 12 (d := d_borders) rfl
  obtain ⟨fd_root_of, D_root_of⟩ := c.def_ 13 (d := d_root_of) rfl
  obtain ⟨fd_root, D_root⟩ := c.def_ 14 (d := d_root) rfl
  obtain ⟨fd_longest_common, D_longest_common⟩ := c.def_ 15 (d := d_longest_common) rfl
  obtain ⟨fd_turn_of, D_turn_of⟩ := c.def_ 16 (d := d_turn_of) rfl
  obtain ⟨fd_least_turn, D_least_turn⟩ := c.def_ 17 (d := d_least_turn) rfl
  obtain ⟨fd_is_ring, D_is_ring⟩ := c.def_ 18 (d := d_is_ring) rfl
  obtain ⟨fd_need_ring, D_need_ring⟩ := c.def_ 19 (d := d_need_ring) rfl
  obtain ⟨fd_turn, D_turn⟩ := c.def_ 20 (d := d_turn) rfl
  obtain ⟨fd_ring_of, D_ring_of⟩ := c.def_ 21 (d := d_ring_of) rfl
  obtain ⟨fd_read_on, D_read_on⟩ := c.def_ 22 (d := d_read_on) rfl
  obtain ⟨fd_ring_stretches, D_ring_stretches⟩ := c.def_ 23 (d := d_ring_stretches) rfl
  obtain ⟨fd_ring_places, D_ring_places⟩ := c.def_ 24 (d := d_ring_places) rfl
  obtain ⟨fd_ring_occurrences, D_ring_occurrences⟩ := c.def_ 25 (d := d_ring_occurrences) rfl
  obtain ⟨fd_ring_pieces, D_ring_pieces⟩ := c.def_ 26 (d := d_ring_pieces) rfl
  obtain ⟨fd__law_begun, D__law_begun⟩ := c.def_ 27 (d := d__law_begun) rfl
  obtain ⟨fd__law_mixed, D__law_mixed⟩ := c.def_ 28 (d := d__law_mixed) rfl
  obtain ⟨fd__law_take, D__law_take⟩ := c.def_ 29 (d := d__law_take) rfl
  obtain ⟨fd__law_shuffled, D__law_shuffled⟩ := c.def_ 30 (d := d__law_shuffled) rfl
  obtain ⟨fd_law, D_law⟩ := c.def_ 31 (d := d_law) rfl
  have e := hfa.symm.trans (He.glo_ok X G (c.fact 31 (f := .glo "law") rfl))
  cases e
  have b := FunD.bindsA (ps := ["_law_script"]) D_law fun _ _ _ _ _ _ us hl => match us, hl with | [_], _ => rfl
  refine ⟨fd_law, fun s v => b s [v] rfl, fun base _ _ => ?_⟩
  have F_is_integer : FnIs P w K mg base 1 "is_integer" ["value"] (sp_is_integer K (He.ga K)) := ⟨_, fd_is_integer, lk_is_integer B D_is_integer, He.glo_ok X G (c.fact 0 (f := .glo "is_integer") rfl), D_is_integer.kp, D_is_integer.bindsN fun _ _ _ _ _ _ us hl => match us, hl with | [_], _ => rfl⟩
  have F_is_line : FnIs P w K mg base 1 "is_line" ["value"] (sp_is_line K (He.ga K)) := ⟨_, fd_is_line, lk_is_line B g_LETTERS D_is_line, He.glo_ok X G (c.fact 2 (f := .glo "is_line") rfl), D_is_line.kp, D_is_line.bindsN fun _ _ _ _ _ _ us hl => match us, hl with | [_], _ => rfl⟩
  have F_places_of : FnIs P w K mg base 1 "places_of" ["text", "piece"] (sp_places_of K (He.ga K)) := ⟨_, fd_places_of, lk_places_of B D_places_of, He.glo_ok X G (c.fact 6 (f := .glo "places_of") rfl), D_places_of.kp, D_places_of.bindsN fun _ _ _ _ _ _ us hl => match us, hl with | [_, _], _ => rfl⟩
  have F_counted : FnIs P w K mg base 1 "counted" ["some"] (sp_counted K (He.ga K)) := ⟨_, fd_counted, lk_counted B D_counted, He.glo_ok X G (c.fact 8 (f := .glo "counted") rfl), D_counted.kp, D_counted.bindsN fun _ _ _ _ _ _ us hl => match us, hl with | [_], _ => rfl⟩
  have F_stretches : FnIs P w K mg base 1 "stretches" ["text", "length"] (sp_stretches K (He.ga K)) := ⟨_, fd_stretches, lk_stretches B D_stretches, He.glo_ok X G (c.fact 9 (f := .glo "stretches") rfl), D_stretches.kp, D_stretches.bindsN fun _ _ _ _ _ _ us hl => match us, hl with | [_, _], _ => rfl⟩
  have F_borders_of : FnIs P w K mg base 1 "borders_of" ["text"] (sp_borders_of K (He.ga K)) := ⟨_, fd_borders_of, lk_borders_of B D_borders_of, He.glo_ok X G (c.fact 11 (f := .glo "borders_of") rfl), D_borders_of.kp, D_borders_of.bindsN fun _ _ _ _ _ _ us hl => match us, hl with | [_], _ => rfl⟩
  have F_root_of : FnIs P w K mg base 1 "root_of" ["text"] (sp_root_of K (He.ga K)) := ⟨_, fd_root_of, lk_root_of B D_root_of, He.glo_ok X G (c.fact 13 (f := .glo "root_of") rfl), D_root_of.kp, D_root_of.bindsN fun _ _ _ _ _ _ us hl => match us, hl with | [_], _ => rfl⟩
  have F_turn_of : FnIs P w K mg base 1 "turn_of" ["text", "number"] (sp_turn_of K (He.ga K)) := ⟨_, fd_turn_of, lk_turn_of B D_turn_of, He.glo_ok X G (c.fact 16 (f := .glo "turn_of") rfl), D_turn_of.kp, D_turn_of.bindsN fun _ _ _ _ _ _ us hl => match us, hl with | [_, _], _ => rfl⟩
  have F_read_on : FnIs P w K mg base 1 "read_on" ["text", "at", "length"] (sp_read_on K (He.ga K)) := ⟨_, fd_read_on, lk_read_on B D_read_on, He.glo_ok X G (c.fact 22 (f := .glo "read_on") rfl), D_read_on.kp, D_read_on.bindsN fun _ _ _ _ _ _ us hl => match us, hl with | [_, _, _], _ => rfl⟩
  have F__law_begun : FnIs P w K mg base 1 "_law_begun" ["_law_script"] (sp__law_begun K (He.ga K)) := ⟨_, fd__law_begun, lk__law_begun B D__law_begun, He.glo_ok X G (c.fact 27 (f := .glo "_law_begun") rfl), D__law_begun.kp, D__law_begun.bindsN fun _ _ _ _ _ _ us hl => match us, hl with | [_], _ => rfl⟩
  have F__law_mixed : FnIs P w K mg base 1 "_law_mixed" ["_law_draw"] (sp__law_mixed K (He.ga K)) := ⟨_, fd__law_mixed, lk__law_mixed B D__law_mixed, He.glo_ok X G (c.fact 28 (f := .glo "_law_mixed") rfl), D__law_mixed.kp, D__law_mixed.bindsN fun _ _ _ _ _ _ us hl => match us, hl with | [_], _ => rfl⟩
  have F_is_between : FnIs P w K mg base 2 "is_between" ["value", "least", "most"] (sp_is_between K (He.ga K)) := ⟨_, fd_is_between, lk_is_between B F_is_integer D_is_between, He.glo_ok X G (c.fact 1 (f := .glo "is_between") rfl), D_is_between.kp, D_is_between.bindsN fun _ _ _ _ _ _ us hl => match us, hl with | [_, _, _], _ => rfl⟩
  have F_is_word : FnIs P w K mg base 2 "is_word" ["value"] (sp_is_word K (He.ga K)) := ⟨_, fd_is_word, lk_is_word B F_is_line D_is_word, He.glo_ok X G (c.fact 3 (f := .glo "is_word") rfl), D_is_word.kp, D_is_word.bindsN fun _ _ _ _ _ _ us hl => match us, hl with | [_], _ => rfl⟩
  have F_least_turn : FnIs P w K mg base 2 "least_turn" ["text"] (sp_least_turn K (He.ga K)) := ⟨_, fd_least_turn, lk_least_turn B F_turn_of D_least_turn, He.glo_ok X G (c.fact 17 (f := .glo "least_turn") rfl), D_least_turn.kp, D_least_turn.bindsN fun _ _ _ _ _ _ us hl => match us, hl with | [_], _ => rfl⟩
  have F_ring_stretches : FnIs P w K mg base 2 "ring_stretches" ["text", "length"] (sp_ring_stretches K (He.ga K)) := ⟨_, fd_ring_stretches, lk_ring_stretches B F_read_on D_ring_stretches, He.glo_ok X G (c.fact 23 (f := .glo "ring_stretches") rfl), D_ring_stretches.kp, D_ring_stretches.bindsN fun _ _ _ _ _ _ us hl => match us, hl with | [_, _], _ => rfl⟩
  have F__law_take : FnIs P w K mg base 2 "_law_take" ["_law_draw", "_law_total"] (sp__law_take K (He.ga K)) := ⟨_, fd__law_take, lk__law_take B F__law_mixed D__law_take, He.glo_ok X G (c.fact 29 (f := .glo "_law_take") rfl), D__law_take.kp, D__law_take.bindsN fun _ _ _ _ _ _ us hl => match us, hl with | [_, _], _ => rfl⟩
  have F_need_word : FnIs P w K mg base 3 "need_word" ["word"] (sp_need_word K (He.ga K)) := ⟨_, fd_need_word, lk_need_word B F_is_word x_BadWord D_need_word, He.glo_ok X G (c.fact 4 (f := .glo "need_word") rfl), D_need_word.kp, D_need_word.bindsN fun _ _ _ _ _ _ us hl => match us, hl with | [_], _ => rfl⟩
  have F_need_length : FnIs P w K mg base 3 "need_length" ["length"] (sp_need_length K (He.ga K)) := ⟨_, fd_need_length, lk_need_length B F_is_between x_BadLength g_MOST_LETTERS D_need_length, He.glo_ok X G (c.fact 5 (f := .glo "need_length") rfl), D_need_length.kp, D_need_length.bindsN fun _ _ _ _ _ _ us hl => match us, hl with | [_], _ => rfl⟩
  have F_is_ring : FnIs P w K mg base 3 "is_ring" ["value"] (sp_is_ring K (He.ga K)) := ⟨_, fd_is_ring, lk_is_ring B F_is_word F_least_turn D_is_ring, He.glo_ok X G (c.fact 18 (f := .glo "is_ring") rfl), D_is_ring.kp, D_is_ring.bindsN fun _ _ _ _ _ _ us hl => match us, hl with | [_], _ => rfl⟩
  have F_ring_places : FnIs P w K mg base 3 "ring_places" ["text", "piece"] (sp_ring_places K (He.ga K)) := ⟨_, fd_ring_places, lk_ring_places B F_ring_stretches D_ring_places, He.glo_ok X G (c.fact 24 (f := .glo "ring_places") rfl), D_ring_places.kp, D_ring_places.bindsN fun _ _ _ _ _ _ us hl => match us, hl with | [_, _], _ => rfl⟩
  have F__law_shuffled : FnIs P w K mg base 3 "_law_shuffled" ["_law_draw", "_law_some"] (sp__law_shuffled K (He.ga K)) := ⟨_, fd__law_shuffled, lk__law_shuffled B F__law_take D__law_shuffled, He.glo_ok X G (c.fact 30 (f := .glo "_law_shuffled") rfl), D__law_shuffled.kp, D__law_shuffled.bindsN fun _ _ _ _ _ _ us hl => match us, hl with | [_, _], _ => rfl⟩
  have F_occurrences : FnIs P w K mg base 4 "occurrences" ["word", "piece"] (sp_occurrences K (He.ga K)) := ⟨_, fd_occurrences, lk_occurrences B F_need_word F_places_of D_occurrences, He.glo_ok X G (c.fact 7 (f := .glo "occurrences") rfl), D_occurrences.kp, D_occurrences.bindsN fun _ _ _ _ _ _ us hl => match us, hl with | [_, _], _ => rfl⟩
  have F_pieces : FnIs P w K mg base 4 "pieces" ["word", "length"] (sp_pieces K (He.ga K)) := ⟨_, fd_pieces, lk_pieces B F_need_word F_need_length F_counted F_stretches D_pieces, He.glo_ok X G (c.fact 10 (f := .glo "pieces") rfl), D_pieces.kp, D_pieces.bindsN fun _ _ _ _ _ _ us hl => match us, hl with | [_, _], _ => rfl⟩
  have F_borders : FnIs P w K mg base 4 "borders" ["word"] (sp_borders K (He.ga K)) := ⟨_, fd_borders, lk_borders B F_need_word F_borders_of D_borders, He.glo_ok X G (c.fact 12 (f := .glo "borders") rfl), D_borders.kp, D_borders.bindsN fun _ _ _ _ _ _ us hl => match us, hl with | [_], _ => rfl⟩
  have F_root : FnIs P w K mg base 4 "root" ["word"] (sp_root K (He.ga K)) := ⟨_, fd_root, lk_root B F_need_word F_root_of D_root, He.glo_ok X G (c.fact 14 (f := .glo "root") rfl), D_root.kp, D_root.bindsN fun _ _ _ _ _ _ us hl => match us, hl with | [_], _ => rfl⟩
  have F_longest_common : FnIs P w K mg base 4 "longest_common" ["one", "other"] (sp_longest_common K (He.ga K)) := ⟨_, fd_longest_common, lk_longest_common B F_need_word F_stretches D_longest_common, He.glo_ok X G (c.fact 15 (f := .glo "longest_common") rfl), D_longest_common.kp, D_longest_common.bindsN fun _ _ _ _ _ _ us hl => match us, hl with | [_, _], _ => rfl⟩
  have F_need_ring : FnIs P w K mg base 4 "need_ring" ["ring"] (sp_need_ring K (He.ga K)) := ⟨_, fd_need_ring, lk_need_ring B F_is_ring x_BadRing D_need_ring, He.glo_ok X G (c.fact 19 (f := .glo "need_ring") rfl), D_need_ring.kp, D_need_ring.bindsN fun _ _ _ _ _ _ us hl => match us, hl with | [_], _ => rfl⟩
  have F_turn : FnIs P w K mg base 4 "turn" ["word", "number"] (sp_turn K (He.ga K)) := ⟨_, fd_turn, lk_turn B F_need_word F_is_between F_turn_of x_BadIndex D_turn, He.glo_ok X G (c.fact 20 (f := .glo "turn") rfl), D_turn.kp, D_turn.bindsN fun _ _ _ _ _ _ us hl => match us, hl with | [_, _], _ => rfl⟩
  have F_ring_of : FnIs P w K mg base 4 "ring_of" ["word"] (sp_ring_of K (He.ga K)) := ⟨_, fd_ring_of, lk_ring_of B F_need_word F_least_turn D_ring_of, He.glo_ok X G (c.fact 21 (f := .glo "ring_of") rfl), D_ring_of.kp, D_ring_of.bindsN fun _ _ _ _ _ _ us hl => match us, hl with | [_], _ => rfl⟩
  have F_ring_occurrences : FnIs P w K mg base 5 "ring_occurrences" ["ring", "piece"] (sp_ring_occurrences K (He.ga K)) := ⟨_, fd_ring_occurrences, lk_ring_occurrences B F_need_ring F_need_word F_ring_places D_ring_occurrences, He.glo_ok X G (c.fact 25 (f := .glo "ring_occurrences") rfl), D_ring_occurrences.kp, D_ring_occurrences.bindsN fun _ _ _ _ _ _ us hl => match us, hl with | [_, _], _ => rfl⟩
  have F_ring_pieces : FnIs P w K mg base 5 "ring_pieces" ["ring", "length"] (sp_ring_pieces K (He.ga K)) := ⟨_, fd_ring_pieces, lk_ring_pieces B F_need_ring F_need_length F_counted F_ring_stretches D_ring_pieces, He.glo_ok X G (c.fact 26 (f := .glo "ring_pieces") rfl), D_ring_pieces.kp, D_ring_pieces.bindsN fun _ _ _ _ _ _ us hl => match us, hl with | [_, _], _ => rfl⟩
  exact lk_law B F__law_begun F__law_shuffled F__law_take F_borders F_root F_occurrences F_ring_of F_is_ring F_turn F_ring_occurrences F_pieces F_ring_pieces F_longest_common D_law
end Z
open PySem PySem.W PySem.Calls PyProof.Rows
theorem PySem.Challenge.cw_readhouse_k08_known_words_and_rings_holds : PySem.Challenge.rw_readhouse_k08_known_words_and_rings.Holds := by
  w_on; o_law
  refine HandSHeadRun.head_any (r := OpenLaw.row PySem.Challenge.rw_readhouse_k08_known_words_and_rings) (q := view (OpenLaw.row PySem.Challenge.rw_readhouse_k08_known_words_and_rings).prog [42]) (H := Z.hk) (ob := Z.ob) (M := 3000) (loose := Z.loose) (d := HandSHeadRun.topDef (OpenLaw.row PySem.Challenge.rw_readhouse_k08_known_words_and_rings).prog 42) (kwd := []) Z.ob_eq
    (by kernel_rfl) (fun s => by kernel_rfl) Z.run (by kernel_rfl) (by kernel_rfl) (by kernel_rfl) (by rfl) (by first | assumption | decide +kernel) (by decide +kernel) ⟨rfl, rfl, rfl, rfl, rfl, by decide +kernel⟩ ?hw ?hc
  case hw => w_witness2
  case hc =>
    refine Z.walkW (l := PySem.Challenge.rw_readhouse_k08_known_words_and_rings) (n := 63) (k := 6) (x := "_law_script") (CX := fun w => L2.CX (PySem.Challenge.rw_readhouse_k08_known_words_and_rings).prog w) rfl (by decide) (by kernel_rfl) ⟨rfl, by decide, by decide⟩ ?F (fun _ _ _ _ _ ⟨_, _, _, _, _, _, _, _, _, _, _, _, z⟩ => z)
    intro w mg fa h Y G hmg0
    obtain ⟨K, KX, c⟩ := Y
    have hmg : mg ("law" : PySem.Str) = some (.ref fa) := by
      have e : (HandSHeadRun.topDef (OpenLaw.row PySem.Challenge.rw_readhouse_k08_known_words_and_rings).prog 42).name = ("law" : PySem.Str) := by kernel_rfl
      rw [← e]
      exact hmg0
    obtain ⟨fd, hb, hF⟩ := Z.facts (P := (PySem.Challenge.rw_readhouse_k08_known_words_and_rings).prog) (w := w) KX G hmg c
    exact ⟨K, fd, Z.sp_law K (He.ga K), KX, hb, fun H a ns hl _ hS => ⟨a, ns, rfl, hS, hl, fun _ => rfl⟩, hF⟩
