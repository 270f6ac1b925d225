import PyProof.Rows.All
import Wide.All
import OpenK.AllK
import Wide.FinOn
import HandS.ForMost
import HandS.Exc
import HandS.ExcOwn
import HandS.WordsExc
import HandS.More
import HandS.Conv
import HandS.Walk
import HandS.DictComp
import HandS.IsInst
import KE.SortData
import KE.DataMinMax
import HandS.HeadHook1
import HandS.HeadHook2
import HandS.Style
import HandS.NoneIn
import KE.KStateDown
import HandS.Ends
import HandS.HeadEnd
import HandS.Defaults
import PyProof.ReprRoads
import HandS.Lambda
import HandS.EndBits
import HandS.EndTab
import HandS.HeadWalk
import HandS.ExcIs
import KE.KRevSl
import PyProof.SliceStr2
import KE.SortKeyHeap
import KE.KLam
import HandS.ExcValue
import HandS.HeadHook3
import HandS.HeadHook4
import HandS.CallLocal
import PyProof.Rows.RegFStrParts
import HandS.Words
import HandS.Head0
import HandS.Head1
import HandS.Head2
import PySem.Challenge.RW_readhouse_k09_orders_and_columns
set_option Elab.async false
set_option linter.all false
set_option maxRecDepth 100000
set_option maxHeartbeats 4000000
namespace Z
open PySem PySem.Spec PyProof.Rows L2

def dicO : HO → Bool
  | .dK _ => true
  | .dT _ => true
  | _ => false
/-- all of G stands in G' -/
def Le (G G' : Hp) : Prop := ∀ a o, G a = some o → G' a = some o
theorem Le.refl (G : Hp) : Le G G := fun _ _ h => h
theorem Le.trans {G G1 G2 : Hp} (a : Le G G1) (b : Le G1 G2) : Le G G2 := fun x o h => b x o (a x o h)
/-- G stands in H, dicts perhaps locked -/
def In (G H : Hp) : Prop := ∀ a o, G a = some o → H a = some o ∨ (dicO o = true ∧ ∃ ob, H a = some (.frz ob o))
theorem In.le {G G1 H : Hp} (a : Le G G1) (b : In G1 H) : In G H := fun x o h => b x o (a x o h)
theorem In.ge {G H H1 : Hp} (a : In G H) (b : Le H H1) : In G H1 := fun x o h => by
  rcases a x o h with e | ⟨d, ob, e⟩
  · exact .inl (b x _ e)
  · exact .inr ⟨d, ob, b x _ e⟩
theorem In.ne {G H : Hp} (i : In G H) {a : Addr} {o : HO} (h : G a = some o) : H a ≠ none := by
  rcases i a o h with e | ⟨_, ob, e⟩ <;> rw [e] <;> intro q <;> cases q
theorem In.no {G H : Hp} (i : In G H) {a : Addr} (h : H a = none) : G a = none := by
  cases q : G a with
  | none => rfl
  | some o => exact absurd h (i.ne q)
theorem In.ex {G H : Hp} (i : In G H) {a : Addr} {o : HO} (h : G a = some o) (hd : dicO o = false) : H a = some o := by
  rcases i a o h with e | ⟨d, _⟩
  · exact e
  · rw [hd] at d; cases d
theorem In.rd {G H : Hp} (i : In G H) {a : Addr} {o : HO} (h : G a = some o) : Rd H a o := by
  rcases i a o h with e | ⟨_, e⟩
  · exact .inl e
  · exact .inr e
theorem Le.no {G H : Hp} (i : Le G H) {a : Addr} (h : H a = none) : G a = none := by
  cases q : G a with
  | none => rfl
  | some o => rw [i a o q] at h; cases h
/-- a step that lays new things alone -/
structure Up (G H G2 H2 : Hp) : Prop where
  g : Le G G2
  i : In G2 H2
  h : Le H H2
  n : ∀ a o, G2 a = some o → G a = some o ∨ H a = none
theorem Up.refl {G H : Hp} (i : In G H) : Up G H G H := ⟨Le.refl _, i, Le.refl _, fun _ _ e => .inl e⟩
theorem Up.trans {G H G2 H2 G3 H3 : Hp} (u : Up G H G2 H2) (w : Up G2 H2 G3 H3) : Up G H G3 H3 :=
  ⟨u.g.trans w.g, w.i, u.h.trans w.h, fun a o e => by
    rcases w.n a o e with q | q
    · exact u.n a o q
    · exact .inr (u.h.no q)⟩
theorem Up.new {G H : Hp} {p : Addr} {o : HO} (i : In G H) (hp : H p = none) : Up G H (upd G p o) (upd H p o) := by
  refine ⟨fun a u e => ?_, fun a u e => ?_, fun a u e => ?_, fun a u e => ?_⟩
  · have ne : a ≠ p := fun z => by subst z; rw [i.no hp] at e; cases e
    rw [upd_ne ne]; exact e
  · by_cases ha : a = p
    · subst ha; rw [upd_same] at e ⊢; exact .inl e
    · rw [upd_ne ha] at e ⊢; exact i a u e
  · have ne : a ≠ p := fun z => by subst z; rw [hp] at e; cases e
    rw [upd_ne ne]; exact e
  · by_cases ha : a = p
    · subst ha; exact .inr hp
    · rw [upd_ne ha] at e; exact .inl e
/-- a new thing that is not looked at -/
theorem Up.hid {G H : Hp} {p : Addr} {o : HO} (i : In G H) (hp : H p = none) : Up G H G (upd H p o) := by
  have l : Le H (upd H p o) := fun a u e => by
    have ne : a ≠ p := fun z => by subst z; rw [hp] at e; cases e
    rw [upd_ne ne]; exact e
  exact ⟨Le.refl _, i.ge l, l, fun _ _ e => .inl e⟩
/-- what is hidden stays hidden -/
theorem Up.hide {G H G2 H2 : Hp} (u : Up G H G2 H2) {m : Addr} (h : H m ≠ none) (hg : G m = none) : G2 m = none := by
  cases q : G2 m with
  | none => rfl
  | some o =>
    rcases u.n m o q with e | e
    · rw [hg] at e; cases e
    · exact absurd e h
theorem In.mut {G H : Hp} (i : In G H) {m : Addr} {o : HO} (hg : G m = none) : In G (upd H m o) := fun a u e => by
  have ne : a ≠ m := fun z => by subst z; rw [hg] at e; cases e
  rw [upd_ne ne]; exact i a u e

/-! ### what a value tells -/
def kD : Key → PyData
  | .inl i => .int i
  | .inr x => .str x
mutual
inductive Rp (K : PySem.W.Frag) (G : Hp) : V → PyData → Prop
  | non : Rp K G .non .none
  | bl (b : Bool) : Rp K G (.bl b) (.bool b)
  | int (i : Int) : Rp K G (.int i) (.int i)
  | str (x : Str) : Rp K G (.str x) (.str x)
  | lst {a : Addr} {xs : List V} {ds : List PyData} : G a = some (.lst xs) → RpA K G xs ds → Rp K G (.ref a) (.list ds)
  | tup {a : Addr} {xs : List V} {ds : List PyData} : SqT K G a xs → RpA K G xs ds → Rp K G (.ref a) (.tuple ds)
  | dic {a : Addr} {kvs : List (Key × V)} {ds : List (PyData × PyData)} : G a = some (.dK kvs) → RpD K G kvs ds → Rp K G (.ref a) (.dict ds)
inductive RpA (K : PySem.W.Frag) (G : Hp) : List V → List PyData → Prop
  | nil : RpA K G [] []
  | cons {v : V} {vs : List V} {d : PyData} {ds : List PyData} : Rp K G v d → RpA K G vs ds → RpA K G (v :: vs) (d :: ds)
inductive RpD (K : PySem.W.Frag) (G : Hp) : List (Key × V) → List (PyData × PyData) → Prop
  | nil : RpD K G [] []
  | cons {k : Key} {v : V} {vs : List (Key × V)} {d : PyData} {ds : List (PyData × PyData)} : Rp K G v d → RpD K G vs ds → RpD K G ((k, v) :: vs) ((kD k, d) :: ds)
end
theorem le_t {K : PySem.W.Frag} {G G' : Hp} {a : Addr} {xs : List V} (e : Le G G') (h : SqT K G a xs) : SqT K G' a xs := by
  rcases h with h | h
  · rcases h with h | ⟨o, h⟩
    · exact .inl (.inl (e _ _ h))
    · exact .inl (.inr ⟨o, e _ _ h⟩)
  · exact .inr h
section
variable {K : PySem.W.Frag} {G G' : Hp}
mutual
theorem Rp.mono (l : Le G G') : ∀ {v : V} {d : PyData}, Rp K G v d → Rp K G' v d
  | _, _, .non => .non
  | _, _, .bl b => .bl b
  | _, _, .int i => .int i
  | _, _, .str x => .str x
  | _, _, .lst h a => .lst (l _ _ h) (RpA.mono l a)
  | _, _, .tup h a => .tup (le_t l h) (RpA.mono l a)
  | _, _, .dic h a => .dic (l _ _ h) (RpD.mono l a)
theorem RpA.mono (l : Le G G') : ∀ {v : List V} {d : List PyData}, RpA K G v d → RpA K G' v d
  | _, _, .nil => .nil
  | _, _, .cons h a => .cons (Rp.mono l h) (RpA.mono l a)
theorem RpD.mono (l : Le G G') : ∀ {v : List (Key × V)} {d : List (PyData × PyData)}, RpD K G v d → RpD K G' v d
  | _, _, .nil => .nil
  | _, _, .cons h a => .cons (Rp.mono l h) (RpD.mono l a)
end
end
end Z

namespace Z
open PySem PySem.Spec PyProof.Rows L2

/-- what is wanted of an evaluation's end -/
abbrev Ret (K : PySem.W.Frag) (G H : Hp) (Q : VK) (d : PyData) : Prop := ∀ v G2 H2, Up G H G2 H2 → Rp K G2 v d → Q v H2
def EvP (t : TE) (σ : L2.St) (G : Hp) (P : Hp → V → Prop) : Prop :=
  ∀ G1 H1, Le G G1 → In G1 H1 → ∀ Q : VK, (∀ v G2 H2, Up G1 H1 G2 H2 → P G2 v → Q v H2) → t σ H1 Q
abbrev Ev (K : PySem.W.Frag) (t : TE) (σ : L2.St) (G : Hp) (d : PyData) : Prop := EvP t σ G fun G v => Rp K G v d
def EvT (t : TT) (σ : L2.St) (G : Hp) (b : Bool) : Prop :=
  ∀ G1 H1, Le G G1 → In G1 H1 → ∀ Q : Bool → Hp → Prop, (∀ G2 H2, Up G1 H1 G2 H2 → Q b H2) → t σ H1 Q
def EvA (K : PySem.W.Frag) (t : TA) (σ : L2.St) (G : Hp) (ds : List PyData) : Prop :=
  ∀ G1 H1, Le G G1 → In G1 H1 → ∀ Q : List V → Hp → Prop, (∀ vs G2 H2, Up G1 H1 G2 H2 → RpA K G2 vs ds → Q vs H2) → t σ H1 Q
def EvO (t : TO) (σ : L2.St) (G : Hp) (o : Option Int) : Prop :=
  ∀ G1 H1, Le G G1 → In G1 H1 → ∀ Q : Option Int → Hp → Prop, (∀ G2 H2, Up G1 H1 G2 H2 → Q o H2) → t σ H1 Q
/-- operators, calls, methods by data -/
def OpV (K : PySem.W.Frag) (r : R2) (a b d : PyData) : Prop := ∀ G H x y, In G H → Rp K G x a → Rp K G y b → ∀ Q, Ret K G H Q d → r x y H Q
def UnV (K : PySem.W.Frag) (r : V → Hp → VK → Prop) (a d : PyData) : Prop := ∀ G H x, In G H → Rp K G x a → ∀ Q, Ret K G H Q d → r x H Q
def CaV (K : PySem.W.Frag) (r : List V → Hp → VK → Prop) (ds : List PyData) (d : PyData) : Prop := ∀ G H vs, In G H → RpA K G vs ds → ∀ Q, Ret K G H Q d → r vs H Q
def MtV (K : PySem.W.Frag) (r : V → List V → Hp → VK → Prop) (a : PyData) (ds : List PyData) (d : PyData) : Prop := ∀ G H x vs, In G H → Rp K G x a → RpA K G vs ds → ∀ Q, Ret K G H Q d → r x vs H Q
section
variable {K : PySem.W.Frag} {σ : L2.St} {G G' : Hp} {ta tb te tc : TE} {t u : TT} {a b c d : PyData} {r r' : R2} {P : Hp → V → Prop}
theorem EvP.mono (e : Le G G') (h : EvP te σ G P) : EvP te σ G' P := fun G1 H1 l i Q q => h G1 H1 (e.trans l) i Q q
theorem EvT.mono {k : Bool} (e : Le G G') (h : EvT t σ G k) : EvT t σ G' k := fun G1 H1 l i Q q => h G1 H1 (e.trans l) i Q q
theorem EvP.imp {P' : Hp → V → Prop} (h : EvP te σ G P) (f : ∀ G v, P G v → P' G v) : EvP te σ G P' := fun G1 H1 l i Q q => h G1 H1 l i Q fun v G2 H2 w p => q v G2 H2 w (f _ _ p)
theorem ev_var {i : Nat} {v : V} (h : σ[i]? = some (some v)) (p : Rp K G v d) : Ev K (tVar i) σ G d := fun G1 H1 l i Q q => ⟨v, h, q v G1 H1 (Up.refl i) (p.mono l)⟩
theorem ev_int {i : Int} : Ev K (tC (.int i)) σ G (.int i) := fun G1 H1 l i Q q => q _ G1 H1 (Up.refl i) (.int _)
theorem ev_str {x : Str} : Ev K (tC (.str x)) σ G (.str x) := fun G1 H1 l i Q q => q _ G1 H1 (Up.refl i) (.str _)
theorem ev_bl {x : Bool} : Ev K (tC (.bl x)) σ G (.bool x) := fun G1 H1 l i Q q => q _ G1 H1 (Up.refl i) (.bl _)
theorem ev_non : Ev K (tC .non) σ G .none := fun G1 H1 l i Q q => q _ G1 H1 (Up.refl i) .non
theorem ev_op (ha : Ev K ta σ G a) (hb : Ev K tb σ G b) (hr : OpV K r a b d) : Ev K (tOp r ta tb) σ G d := fun G1 H1 l i Q q =>
  ha G1 H1 l i _ fun x G2 H2 u2 p2 => hb G2 H2 (l.trans u2.g) u2.i _ fun y G3 H3 u3 p3 =>
    hr G3 H3 x y u3.i (p2.mono u3.g) p3 Q fun v G4 H4 u4 p4 => q v G4 H4 ((u2.trans u3).trans u4) p4
theorem ev_un {r : V → Hp → VK → Prop} (ha : Ev K ta σ G a) (hr : UnV K r a d) : Ev K (tUn r ta) σ G d := fun G1 H1 l i Q q =>
  ha G1 H1 l i _ fun x G2 H2 u2 p2 => hr G2 H2 x u2.i p2 Q fun v G4 H4 u4 p4 => q v G4 H4 (u2.trans u4) p4
theorem ea_nil : EvA K tNil σ G [] := fun G1 H1 l i Q q => q [] G1 H1 (Up.refl i) .nil
theorem ea_cons {tr : TA} {ds : List PyData} (ha : Ev K ta σ G a) (hr : EvA K tr σ G ds) : EvA K (tCons ta tr) σ G (a :: ds) := fun G1 H1 l i Q q =>
  ha G1 H1 l i _ fun x G2 H2 u2 p2 => hr G2 H2 (l.trans u2.g) u2.i _ fun vs G3 H3 u3 p3 => q (x :: vs) G3 H3 (u2.trans u3) (.cons (p2.mono u3.g) p3)
theorem ev_cb {r : List V → Hp → VK → Prop} {tr : TA} {ds : List PyData} (ha : EvA K tr σ G ds) (hr : CaV K r ds d) : Ev K (tCB r tr) σ G d := fun G1 H1 l i Q q =>
  ha G1 H1 l i _ fun vs G2 H2 u2 p2 => hr G2 H2 vs u2.i p2 Q fun v G4 H4 u4 p4 => q v G4 H4 (u2.trans u4) p4
/-- a call by a promise -/
def SpV (K : PySem.W.Frag) (sp : Sp) (E : XK) (ds : List PyData) (d : PyData) : Prop := ∀ G H vs, In G H → RpA K G vs ds → ∀ Q, Ret K G H Q d → sp vs H Q E
theorem ev_call {sp : Sp} {E : XK} {tr : TA} {ds : List PyData} (ha : EvA K tr σ G ds) (hr : SpV K sp E ds d) : Ev K (tCall sp [] E tr) σ G d := fun G1 H1 l i Q q =>
  ha G1 H1 l i _ fun vs G2 H2 u2 p2 => by
    show sp (vs ++ []) H2 Q E
    rw [List.append_nil]
    exact hr G2 H2 vs u2.i p2 Q fun v G4 H4 u4 p4 => q v G4 H4 (u2.trans u4) p4
theorem ev_bm {r : V → List V → Hp → VK → Prop} {T : String} {tr : TA} {ds : List PyData} (ho : Ev K te σ G a) (ht : ∀ G H x, In G H → Rp K G x a → tyV K T x H) (ha : EvA K tr σ G ds) (hr : MtV K r a ds d) : Ev K (tBM K T r te tr) σ G d := fun G1 H1 l i Q q =>
  ho G1 H1 l i _ fun x G2 H2 u2 p2 => ⟨ht G2 H2 x u2.i p2, ha G2 H2 (l.trans u2.g) u2.i _ fun vs G3 H3 u3 p3 => hr G3 H3 x vs u3.i (p2.mono u3.g) p3 Q fun v G4 H4 u4 p4 => q v G4 H4 ((u2.trans u3).trans u4) p4⟩
theorem ev_bm0 {r : V → List V → Hp → VK → Prop} {T : String} (ho : Ev K te σ G a) (ht : ∀ G H x, In G H → Rp K G x a → tyV K T x H) (hr : MtV K r a [] d) : Ev K (tBM0 K T r te) σ G d := fun G1 H1 l i Q q =>
  ho G1 H1 l i _ fun x G2 H2 u2 p2 => ⟨ht G2 H2 x u2.i p2, hr G2 H2 x [] u2.i p2 .nil Q fun v G4 H4 u4 p4 => q v G4 H4 (u2.trans u4) p4⟩
/-! tests -/
theorem rp_bool {v : V} {k : Bool} (h : Rp K G v (.bool k)) : v = .bl k := by cases h; rfl
theorem et_test {k : Bool} (h : Ev K te σ G (.bool k)) : EvT (tTest te) σ G k := fun G1 H1 l i Q q => h G1 H1 l i _ fun v G2 H2 u2 p2 => ⟨k, rp_bool p2, q G2 H2 u2⟩
theorem et_B {k : Bool} (h : Ev K te σ G (.bool k)) : EvT (tB te) σ G k := fun G1 H1 l i Q q => h G1 H1 l i _ fun v G2 H2 u2 p2 => ⟨k, rp_bool p2, q G2 H2 u2⟩
theorem et_and {k m : Bool} (h1 : EvT t σ G k) (h2 : k = true → EvT u σ G m) : EvT (tAnd t u) σ G (k && m) := fun G1 H1 l i Q q => h1 G1 H1 l i _ fun G2 H2 u2 => by
  cases k with
  | true =>
    show u σ H2 Q
    exact h2 rfl G2 H2 (l.trans u2.g) u2.i Q fun G3 H3 u3 => q G3 H3 (u2.trans u3)
  | false =>
    show Q false H2
    exact q G2 H2 u2
theorem et_or {k m : Bool} (h1 : EvT t σ G k) (h2 : k = false → EvT u σ G m) : EvT (tOr t u) σ G (k || m) := fun G1 H1 l i Q q => h1 G1 H1 l i _ fun G2 H2 u2 => by
  cases k with
  | true =>
    show Q true H2
    exact q G2 H2 u2
  | false =>
    show u σ H2 Q
    exact h2 rfl G2 H2 (l.trans u2.g) u2.i Q fun G3 H3 u3 => q G3 H3 (u2.trans u3)
theorem et_not {k : Bool} (h : EvT t σ G k) : EvT (tNot t) σ G (!k) := fun G1 H1 l i Q q => h G1 H1 l i _ fun G2 H2 u2 => q G2 H2 u2
theorem ev_and {k : Bool} (h1 : Ev K ta σ G (.bool k)) (h2 : k = true → Ev K tb σ G b) (h3 : k = false → b = .bool false) : Ev K (tAndV ta tb) σ G b := fun G1 H1 l i Q q => h1 G1 H1 l i _ fun v G2 H2 u2 p2 => by
  refine ⟨k, rp_bool p2, ?_⟩
  cases k with
  | true =>
    show tb σ H2 Q
    exact h2 rfl G2 H2 (l.trans u2.g) u2.i Q fun v G3 H3 u3 p3 => q v G3 H3 (u2.trans u3) p3
  | false =>
    show Q (.bl false) H2
    refine q _ G2 H2 u2 ?_
    rw [h3 rfl]
    exact .bl _
theorem ev_andB {k m : Bool} (h1 : Ev K ta σ G (.bool k)) (h2 : k = true → Ev K tb σ G (.bool m)) : Ev K (tAndV ta tb) σ G (.bool (k && m)) :=
  ev_and h1 (fun e => by subst e; exact h2 rfl) (fun e => by subst e; rfl)
theorem ev_orB {k m : Bool} (h1 : Ev K ta σ G (.bool k)) (h2 : k = false → Ev K tb σ G (.bool m)) : Ev K (tOrV ta tb) σ G (.bool (k || m)) := fun G1 H1 l i Q q => h1 G1 H1 l i _ fun v G2 H2 u2 p2 => by
  refine ⟨k, rp_bool p2, ?_⟩
  cases k with
  | true =>
    show Q (.bl true) H2
    exact q _ G2 H2 u2 (.bl _)
  | false =>
    show tb σ H2 Q
    exact h2 rfl G2 H2 (l.trans u2.g) u2.i Q fun v G3 H3 u3 p3 => q v G3 H3 (u2.trans u3) p3
theorem ev_notB {k : Bool} (h : Ev K ta σ G (.bool k)) : Ev K (tNotV ta) σ G (.bool (!k)) := fun G1 H1 l i Q q => h G1 H1 l i _ fun v G2 H2 u2 p2 => ⟨k, rp_bool p2, q _ G2 H2 u2 (.bl _)⟩
theorem ev_if {k : Bool} (h1 : EvT t σ G k) (h2 : k = true → Ev K ta σ G a) (h3 : k = false → Ev K tb σ G b) : Ev K (tIf t ta tb) σ G (if k then a else b) := fun G1 H1 l i Q q => h1 G1 H1 l i _ fun G2 H2 u2 => by
  cases k with
  | true =>
    show ta σ H2 Q
    exact h2 rfl G2 H2 (l.trans u2.g) u2.i Q fun v G3 H3 u3 p3 => q v G3 H3 (u2.trans u3) p3
  | false =>
    show tb σ H2 Q
    exact h3 rfl G2 H2 (l.trans u2.g) u2.i Q fun v G3 H3 u3 p3 => q v G3 H3 (u2.trans u3) p3
theorem ev_chain {k : Bool} {m : Bool} (ha : Ev K ta σ G a) (hb : Ev K tb σ G b) (hc : k = true → Ev K tc σ G c) (hr : OpV K r a b (.bool k)) (hr' : k = true → OpV K r' b c (.bool m)) : Ev K (tChain r r' ta tb tc) σ G (.bool (k && m)) := fun G1 H1 l i Q q =>
  ha G1 H1 l i _ fun x G2 H2 u2 p2 => hb G2 H2 (l.trans u2.g) u2.i _ fun y G3 H3 u3 p3 => hr G3 H3 x y u3.i (p2.mono u3.g) p3 _ fun z G4 H4 u4 p4 => by
    refine ⟨k, rp_bool p4, ?_⟩
    have u24 := (u2.trans u3).trans u4
    cases k with
    | true =>
      show tc σ H4 fun w' H4 => r' y w' H4 Q
      exact hc rfl G4 H4 (l.trans u24.g) u24.i _ fun w G5 H5 u5 p5 => hr' rfl G5 H5 y w u5.i (p3.mono (u4.g.trans u5.g)) p5 Q fun v G6 H6 u6 p6 => q v G6 H6 ((u24.trans u5).trans u6) p6
    | false =>
      show Q (.bl false) H4
      exact q _ G4 H4 u24 (.bl _)
/-! displays -/
theorem RpA.len : ∀ {vs : List V} {ds : List PyData}, RpA K G vs ds → vs.length = ds.length
  | _, _, .nil => rfl
  | _, _, .cons _ a => by rw [List.length_cons, List.length_cons, RpA.len a]
theorem ev_lst {tr : TA} {ds : List PyData} (ha : EvA K tr σ G ds) (hl : ds.length ≤ 100000) : Ev K (tLst tr) σ G (.list ds) := fun G1 H1 l i Q q => ha G1 H1 l i _ fun vs G2 H2 u2 p2 => by
  refine ⟨by rw [p2.len]; exact Nat.le_trans hl (by decide), fun p hp => ?_⟩
  have u3 := Up.new (o := .lst vs) u2.i hp
  exact q _ _ _ (u2.trans u3) (.lst upd_same (p2.mono u3.g))
theorem ev_tup {tr : TA} {ds : List PyData} (ha : EvA K tr σ G ds) (hl : ds.length ≤ 100000) : Ev K (tTup tr) σ G (.tuple ds) := fun G1 H1 l i Q q => ha G1 H1 l i _ fun vs G2 H2 u2 p2 => by
  refine ⟨by rw [p2.len]; exact Nat.le_trans hl (by decide), fun p hp => ?_⟩
  have u3 := Up.new (o := .tup vs) u2.i hp
  exact q _ _ _ (u2.trans u3) (.tup (.inl (.inl upd_same)) (p2.mono u3.g))
end
end Z

namespace Z
open PySem PySem.Spec PyProof.Rows L2

/-! ### what is walked -/
/-- J gives these things, one by one, whatever is laid meanwhile -/
def WkD (K : PySem.W.Frag) (J : It) (G : Hp) (ds : List PyData) : Prop := ∀ G' H', Le G G' → In G' H' →
  J.stop ds.length H' ∧ ∀ (i : Nat) d, ds[i]? = some d → J.go i H' ∧ ∀ x H2, J.yld i H' x H2 → ∃ G2, Up G' H' G2 H2 ∧ Rp K G2 x d
def EvI (K : PySem.W.Frag) (wi : TI) (σ : L2.St) (G : Hp) (ds : List PyData) : Prop :=
  ∀ G1 H1, Le G G1 → In G1 H1 → ∀ R : It → Hp → Prop, (∀ J G2 H2, Up G1 H1 G2 H2 → WkD K J G2 ds → R J H2) → wi σ H1 R
/-- a target takes a thing of data d: behind it B of the slots -/
def Bnd (K : PySem.W.Frag) (g : TG) (σ : L2.St) (d : PyData) (B : L2.St → Hp → Prop) : Prop := ∀ G H x, In G H → Rp K G x d → ∀ Q, (∀ σ2, B σ2 G → Q σ2 H) → g x σ H Q
section
variable {K : PySem.W.Frag} {σ : L2.St} {G G' : Hp} {ta tb te tc : TE} {t u tt : TT} {a b c d : PyData} {wi : TI} {g : TG}
theorem RpA.get : ∀ {vs : List V} {ds : List PyData} {i : Nat} {d : PyData}, RpA K G vs ds → ds[i]? = some d → ∃ v, vs[i]? = some v ∧ Rp K G v d
  | _, _, _, _, .nil, e => by simp at e
  | _, _, 0, _, .cons h _, e => by simp at e; subst e; exact ⟨_, rfl, h⟩
  | _, _, i + 1, _, .cons _ a, e => by
    obtain ⟨v, h1, h2⟩ := RpA.get (i := i) a (by simpa using e)
    exact ⟨v, by simpa using h1, h2⟩
theorem WkD.mono {J : It} {ds : List PyData} (l : Le G G') (w : WkD K J G ds) : WkD K J G' ds := fun G1 H1 l1 i => w G1 H1 (l.trans l1) i
theorem wk_list {p : Addr} {xs : List V} {ds : List PyData} (h : G p = some (.lst xs)) (r : RpA K G xs ds) : WkD K (Itl K p) G ds := fun G' H' l i => by
  have e : SqL K H' p xs := .inl (.inl (i.ex (l _ _ h) rfl))
  have W := walk_list (K := K) (a := p) (xs := xs)
  refine ⟨by rw [← r.len]; exact W.stops H' e, fun j d hd => ?_⟩
  obtain ⟨v, h1, h2⟩ := r.get hd
  have hj : j < xs.length := (List.getElem?_eq_some_iff.mp h1).1
  refine ⟨W.goes j H' hj e, fun x H2 y => ?_⟩
  obtain ⟨e1, e2⟩ := W.yields j H' x H2 hj e y
  rw [h1] at e2
  cases e2
  subst e1
  exact ⟨G', Up.refl i, h2.mono l⟩
theorem wk_tup {p : Addr} {xs : List V} {ds : List PyData} (h : SqT K G p xs) (r : RpA K G xs ds) : WkD K (Itt K p) G ds := fun G' H' l i => by
  have e : SqT K H' p xs := by
    rcases le_t l h with q | q
    · rcases q with q | ⟨o, q⟩
      · exact .inl (.inl (i.ex q rfl))
      · exact .inl (.inr ⟨o, i.ex q rfl⟩)
    · exact .inr q
  have W := walk_tup (K := K) (a := p) (xs := xs)
  refine ⟨by rw [← r.len]; exact W.stops H' e, fun j d hd => ?_⟩
  obtain ⟨v, h1, h2⟩ := r.get hd
  have hj : j < xs.length := (List.getElem?_eq_some_iff.mp h1).1
  refine ⟨W.goes j H' hj e, fun x H2 y => ?_⟩
  obtain ⟨e1, e2⟩ := W.yields j H' x H2 hj e y
  rw [h1] at e2
  cases e2
  subst e1
  exact ⟨G', Up.refl i, h2.mono l⟩
/-- lo, lo + 1, .. -/
def rng (lo : Int) (n : Nat) : List Int := (List.range n).map fun (i : Nat) => lo + (i : Int)
theorem rng_len (lo : Int) (n : Nat) : (rng lo n).length = n := by simp [rng]
theorem wk_range {lo : Int} {n : Nat} : WkD K (Itr lo n) G ((rng lo n).map .int) := fun G' H' l i => by
  have W := walk_range (lo := lo) (n := n)
  refine ⟨by rw [List.length_map, rng_len]; exact W.stops H' trivial, fun j d hd => ?_⟩
  have hj : j < n := by
    have := (List.getElem?_eq_some_iff.mp hd).1
    simpa [rng_len] using this
  refine ⟨W.goes j H' hj trivial, fun x H2 y => ?_⟩
  obtain ⟨e1, e2⟩ := W.yields j H' x H2 hj trivial y
  subst e1 e2
  have : d = .int (lo + (j : Int)) := by
    simp [rng, hj] at hd
    exact hd.symm
  subst this
  exact ⟨G', Up.refl i, .int _⟩
def S (l : List Nat) : Str := ⟨l.toArray⟩
theorem S_cps (l : List Nat) : (S l).cps.toList = l := by simp [S]
theorem S_eta (x : Str) : S x.cps.toList = x := by cases x; simp [S]
theorem S_inj {a b : List Nat} (h : S a = S b) : a = b := by
  have := congrArg (fun x : Str => x.cps.toList) h
  simpa [S] using this
theorem wk_str {l : List Nat} : WkD K (Its (S l)) G (l.map fun c => .str (S [c])) := fun G' H' le i => by
  have W := walk_str (z := S l)
  have hs : (S l).cps.size = l.length := by simp [S]
  refine ⟨by rw [List.length_map, ← hs]; exact W.stops H' trivial, fun j d hd => ?_⟩
  have hj : j < (S l).cps.size := by
    have := (List.getElem?_eq_some_iff.mp hd).1
    rw [hs]
    simpa using this
  refine ⟨W.goes j H' hj trivial, fun x H2 y => ?_⟩
  obtain ⟨e1, c, e2, e3⟩ := W.yields j H' x H2 hj trivial y
  subst e1 e3
  have hc : l[j]? = some c := by
    rw [← S_cps l]
    simpa using e2
  have : d = .str (S [c]) := by
    rw [List.getElem?_map, hc] at hd
    exact (Option.some.inj hd).symm
  subst this
  exact ⟨G', Up.refl i, .str _⟩
/-! ### how a walked thing begins -/
theorem rp_ref {v : V} {ds : List PyData} (h : Rp K G v (.list ds)) : ∃ p xs, v = .ref p ∧ G p = some (.lst xs) ∧ RpA K G xs ds := by
  cases h with | lst h a => exact ⟨_, _, rfl, h, a⟩
theorem rp_tup {v : V} {ds : List PyData} (h : Rp K G v (.tuple ds)) : ∃ p xs, v = .ref p ∧ SqT K G p xs ∧ RpA K G xs ds := by
  cases h with | tup h a => exact ⟨_, _, rfl, h, a⟩
theorem rp_int {v : V} {i : Int} (h : Rp K G v (.int i)) : v = .int i := by cases h; rfl
theorem rp_str {v : V} {i : Str} (h : Rp K G v (.str i)) : v = .str i := by cases h; rfl
theorem rp_non {v : V} (h : Rp K G v .none) : v = .non := by cases h; rfl
theorem rpa_nil {vs : List V} (h : RpA K G vs []) : vs = [] := by cases h; rfl
theorem rpa_cons {vs : List V} {ds : List PyData} (h : RpA K G vs (d :: ds)) : ∃ v ws, vs = v :: ws ∧ Rp K G v d ∧ RpA K G ws ds := by
  cases h with | cons h a => exact ⟨_, _, rfl, h, a⟩
theorem rpa_ints : ∀ {vs : List V} {ns : List Int}, RpA K G vs (ns.map .int) → vs = ns.map .int
  | vs, [], h => rpa_nil h
  | vs, n :: ns, h => by
    obtain ⟨v, ws, rfl, h1, h2⟩ := rpa_cons h
    rw [rp_int h1, rpa_ints h2]; rfl
theorem rpa_strs : ∀ {vs : List V} {ns : List Str}, RpA K G vs (ns.map .str) → vs = ns.map .str
  | vs, [], h => rpa_nil h
  | vs, n :: ns, h => by
    obtain ⟨v, ws, rfl, h1, h2⟩ := rpa_cons h
    rw [rp_str h1, rpa_strs h2]; rfl
theorem rpa_bools : ∀ {vs : List V} {ns : List Bool}, RpA K G vs (ns.map .bool) → vs = ns.map .bl
  | vs, [], h => rpa_nil h
  | vs, n :: ns, h => by
    obtain ⟨v, ws, rfl, h1, h2⟩ := rpa_cons h
    rw [rp_bool h1, rpa_bools h2]; rfl
theorem ints_rpa : ∀ ns : List Int, RpA K G (ns.map V.int) (ns.map .int)
  | [] => .nil
  | n :: ns => .cons (.int n) (ints_rpa ns)
theorem strs_rpa : ∀ ns : List Str, RpA K G (ns.map V.str) (ns.map .str)
  | [] => .nil
  | n :: ns => .cons (.str n) (strs_rpa ns)
theorem ei_list {ds : List PyData} (h : Ev K te σ G (.list ds)) : EvI K (iList K te) σ G ds := fun G1 H1 l i R q => h G1 H1 l i _ fun v G2 H2 u2 p2 => by
  obtain ⟨p, xs, rfl, h1, h2⟩ := rp_ref p2
  exact ⟨p, rfl, ⟨xs, .inl (.inl (u2.i.ex h1 rfl))⟩, q _ G2 H2 u2 (wk_list h1 h2)⟩
theorem ei_str {l : List Nat} (h : Ev K te σ G (.str (S l))) : EvI K (iStr te) σ G (l.map fun c => .str (S [c])) := fun G1 H1 le i R q => h G1 H1 le i _ fun v G2 H2 u2 p2 => by
  exact ⟨S l, rp_str p2, q _ G2 H2 u2 wk_str⟩
theorem ei_rng1 {tr : TA} {j : Int} (h : EvA K tr σ G [.int j]) (h1 : -(2 ^ 62) ≤ j) (h2 : j < 2 ^ 62) : EvI K (iRng1 tr) σ G ((rng 0 j.toNat).map .int) := fun G1 H1 l i R q => h G1 H1 l i _ fun vs G2 H2 u2 p2 => by
  obtain ⟨v, ws, rfl, p3, p4⟩ := rpa_cons p2
  rw [rp_int p3, rpa_nil p4]
  exact ⟨j, rfl, h1, h2, q _ G2 H2 u2 wk_range⟩
theorem ei_rng2 {tr : TA} {k j : Int} (h : EvA K tr σ G [.int k, .int j]) (h1 : -(2 ^ 62) ≤ k) (h2 : k < 2 ^ 62) (h3 : -(2 ^ 62) ≤ j) (h4 : j < 2 ^ 62) : EvI K (iRng2 tr) σ G ((rng k (j - k).toNat).map .int) := fun G1 H1 l i R q => h G1 H1 l i _ fun vs G2 H2 u2 p2 => by
  obtain ⟨v, ws, rfl, p3, p4⟩ := rpa_cons p2
  obtain ⟨v', ws', rfl, p5, p6⟩ := rpa_cons p4
  rw [rp_int p3, rp_int p5, rpa_nil p6]
  exact ⟨k, j, rfl, ⟨h1, h2, h3, h4⟩, q _ G2 H2 u2 wk_range⟩
/-- enumerate(xs): numbers and things -/
def enumD (ds : List PyData) : List PyData := ds.zipIdx.map fun p => .tuple [.int (p.2 : Int), p.1]
theorem enumD_get {ds : List PyData} {i : Nat} {d : PyData} (h : (enumD ds)[i]? = some d) : ∃ e, ds[i]? = some e ∧ d = .tuple [.int (i : Int), e] := by
  unfold enumD at h
  rw [List.getElem?_map, List.getElem?_zipIdx] at h
  cases q : ds[i]? with
  | none => rw [q] at h; cases h
  | some e =>
    rw [q] at h
    refine ⟨e, rfl, ?_⟩
    simpa using h.symm
theorem ei_enum {tr : TA} {ds : List PyData} (h : EvA K tr σ G [.list ds]) : EvI K (iEnum K tr) σ G (enumD ds) := fun G1 H1 l i R q => h G1 H1 l i _ fun vs G2 H2 u2 p2 => by
  obtain ⟨v, ws, rfl, p3, p4⟩ := rpa_cons p2
  rw [rpa_nil p4]
  obtain ⟨p, xs, rfl, h1, h2⟩ := rp_ref p3
  refine ⟨p, xs, rfl, .inl (.inl (u2.i.ex h1 rfl)), q _ G2 H2 u2 fun G' H' l' i' => ?_⟩
  have e : SqL K H' p xs := .inl (.inl (i'.ex (l' _ _ h1) rfl))
  have W := walk_enum (K := K) (a := p) (xs := xs)
  refine ⟨by have := W.stops H' e; rw [h2.len] at this; simpa [enumD] using this, fun j d hd => ?_⟩
  obtain ⟨f, hf, rfl⟩ := enumD_get hd
  obtain ⟨v, g1, g2⟩ := h2.get hf
  have hj : j < xs.length := (List.getElem?_eq_some_iff.mp g1).1
  refine ⟨W.goes j H' hj e, fun x H2 y => ?_⟩
  obtain ⟨T, x1, x2, rfl, hT, rfl, e1, e2⟩ := W.yields j H' x H2 hj e y
  cases e1
  have e2 : xs[j]? = some x2 := e2
  rw [g1] at e2
  cases e2
  have u3 := Up.new (o := .tup [V.int (j : Int), v]) i' hT
  exact ⟨_, u3, .tup (.inl (.inl upd_same)) (.cons (.int _) (.cons (g2.mono (l'.trans u3.g)) .nil))⟩
/-! ### targets -/
theorem bnd_name {k : Nat} : Bnd K (gName k) σ d fun σ2 G => ∃ x, σ2 = σ.set k (some x) ∧ Rp K G x d := fun G H x i p Q q => q _ ⟨x, rfl, p⟩
theorem wipe1 {k : Nat} {x : Option V} : wipe ((wipe σ [k]).set k x) [k] = wipe σ [k] := by
  show (((σ.set k none).set k x).set k none) = σ.set k none
  rw [List.set_set, List.set_set]
theorem wipe1s {k : Nat} {x : Option V} : (wipe σ [k]).set k x = σ.set k x := by
  show (σ.set k none).set k x = σ.set k x
  rw [List.set_set]
/-- a comprehension: the things that pass, each turned -/
theorem lc_new {α : Type} {D : α → PyData} {xs : List α} {p : α → Bool} {f : α → PyData} {vs : List Nat} {B : α → L2.St → Hp → Prop} (hi : EvI K wi σ G (xs.map D)) (hb : ∀ z ∈ xs, Bnd K g (wipe σ vs) (D z) (B z))
    (hw : ∀ z ∈ xs, ∀ σ2 G, B z σ2 G → wipe σ2 vs = wipe σ vs)
    (ht : ∀ z ∈ xs, ∀ G1 σ2, Le G G1 → B z σ2 G1 → EvT tt σ2 G1 (p z)) (he : ∀ z ∈ xs, p z = true → ∀ G1 σ2, Le G G1 → B z σ2 G1 → Ev K te σ2 G1 (f z))
    (hBm : ∀ z σ2 G1 G2, Le G1 G2 → B z σ2 G1 → B z σ2 G2) (hl : xs.length ≤ 100000) {G1 H1 : Hp} (l : Le G G1) (i : In G1 H1) {Q : VK}
    (q : ∀ D' G3 H3 acc, H1 D' = none → G3 D' = none → Up G1 H1 G3 (fun b => if b = D' then none else H3 b) → In G3 H3 → H3 D' = some (.lst acc) → RpA K G3 acc ((xs.filter p).map f) → Q (.ref D') H3) : tLc wi g tt te vs σ H1 Q := hi G1 H1 l i _ fun J G2 H2 u2 w => by
  intro D' hD
  refine ⟨fun i m H => m = xs.length - i ∧ i ≤ xs.length ∧ ∃ G3, G3 D' = none ∧ Up G2 H2 G3 (fun b => if b = D' then none else H b) ∧ In G3 H ∧ ∃ acc, H D' = some (.lst acc) ∧ RpA K G3 acc (((xs.take i).filter p).map f), ⟨xs.length, by simp, Nat.zero_le _, G2, u2.i.no hD, ?_, ?_, [], upd_same, .nil⟩, ?_⟩
  · refine ⟨Le.refl _, fun b o e => ?_, fun b o e => ?_, fun _ _ e => .inl e⟩
    · have ne : b ≠ D' := fun z => by subst z; rw [u2.i.no hD] at e; cases e
      show (if b = D' then none else upd H2 D' (.lst []) b) = _ ∨ _ ∧ ∃ ob, (if b = D' then none else upd H2 D' (.lst []) b) = _
      rw [if_neg ne, upd_ne ne]
      exact u2.i b o e
    · have ne : b ≠ D' := fun z => by subst z; rw [hD] at e; cases e
      show (if b = D' then none else upd H2 D' (.lst []) b) = _
      rw [if_neg ne, upd_ne ne]
      exact e
  · exact u2.i.mut (u2.i.no hD)
  · rintro j m H ⟨rfl, hj, G3, hG3, u3, i3, acc, hacc, racc⟩
    obtain ⟨wstop, wgo⟩ := w G3 H u3.g i3
    by_cases hlt : j < xs.length
    · have hz : xs[j]? = some xs[j] := List.getElem?_eq_getElem hlt
      have hm : xs[j] ∈ xs := List.getElem_mem hlt
      obtain ⟨go, yl⟩ := wgo j (D xs[j]) (by rw [List.getElem?_map, hz]; rfl)
      refine .inr ⟨go, fun H' => j + 1 ≤ xs.length ∧ ∃ G3, G3 D' = none ∧ Up G2 H2 G3 (fun b => if b = D' then none else H' b) ∧ In G3 H' ∧ ∃ acc, H' D' = some (.lst acc) ∧ RpA K G3 acc (((xs.take (j + 1)).filter p).map f), fun H' x => ⟨xs.length - (j + 1), by omega, rfl, x.1, x.2⟩, fun x H4 y => ?_⟩
      obtain ⟨G4, u4, r4⟩ := yl x H4 y
      have hD4 : H4 D' = some (.lst acc) := u4.h _ _ hacc
      have hG4 : G4 D' = none := u4.hide (by rw [hacc]; intro z; cases z) hG3
      -- growing but for D'
      have grow : ∀ {Ga Ha Gb Hb : Hp}, Up G2 H2 Ga (fun b => if b = D' then none else Ha b) → Ga D' = none → Up Ga Ha Gb Hb → Gb D' = none → Up G2 H2 Gb (fun b => if b = D' then none else Hb b) := fun {Ga Ha Gb Hb} ua na ub nb => by
        refine ⟨ua.g.trans ub.g, fun b o e => ?_, fun b o e => ?_, fun b o e => ?_⟩
        · have ne : b ≠ D' := fun z => by subst z; rw [nb] at e; cases e
          show (if b = D' then none else Hb b) = _ ∨ _ ∧ ∃ ob, (if b = D' then none else Hb b) = _
          rw [if_neg ne]
          exact ub.i b o e
        · have h1 := ua.h b o e
          have ne : b ≠ D' := fun z => by subst z; rw [hD] at e; cases e
          have h1 : (if b = D' then none else Ha b) = some o := h1
          rw [if_neg ne] at h1
          show (if b = D' then none else Hb b) = _
          rw [if_neg ne]
          exact ub.h b o h1
        · have ne : b ≠ D' := fun z => by subst z; rw [nb] at e; cases e
          rcases ub.n b o e with q | q
          · exact ua.n b o q
          · refine .inr ?_
            cases h2 : H2 b with
            | none => rfl
            | some o2 =>
              have h1 : (if b = D' then none else Ha b) = some o2 := ua.h b o2 h2
              rw [if_neg ne, q] at h1
              cases h1
      have u24 := grow u3 hG3 u4 hG4
      have l4 : Le G G4 := l.trans (u2.g.trans u24.g)
      refine hb _ hm G4 H4 x u4.i r4 _ fun σ2 b2 => ⟨hw _ hm σ2 G4 b2, ?_⟩
      refine ht _ hm G4 σ2 l4 b2 G4 H4 (Le.refl _) u4.i _ fun G5 H5 u5 => ?_
      have hD5 := u5.h _ _ hD4
      have hG5 : G5 D' = none := u5.hide (by rw [hD4]; intro z; cases z) hG4
      have u25 := grow u24 hG4 u5 hG5
      have tk : (xs.take (j + 1)).filter p = (xs.take j).filter p ++ [xs[j]].filter p := by
        rw [List.take_succ_eq_append_getElem hlt, List.filter_append]
      cases hp : p xs[j] with
      | false =>
        show _ ∧ _
        refine ⟨hlt, G5, hG5, u25, u5.i, acc, hD5, ?_⟩
        rw [tk]
        have : [xs[j]].filter p = [] := by simp [hp]
        rw [this, List.append_nil]
        exact racc.mono (u4.g.trans u5.g)
      | true =>
        show te σ2 H5 _
        refine he _ hm hp G5 σ2 (l4.trans u5.g) (hBm _ _ _ _ u5.g b2) G5 H5 (Le.refl _) u5.i _ fun y G6 H6 u6 r6 => ?_
        have hD6 := u6.h _ _ hD5
        have hG6 : G6 D' = none := u6.hide (by rw [hD5]; intro z; cases z) hG5
        have u26 := grow u25 hG5 u6 hG6
        have hlen : acc.length ≤ xs.length := by
          rw [racc.len, List.length_map]
          exact Nat.le_trans (List.length_filter_le _ _) (by rw [List.length_take]; omega)
        refine ⟨acc, hD6, Nat.lt_of_le_of_lt (Nat.le_trans hlen hl) (by decide), hlt, G6, hG6, ?_, u6.i.mut hG6, acc ++ [y], upd_same, ?_⟩
        · refine ⟨u26.g, fun b o e => ?_, fun b o e => ?_, u26.n⟩
          · have ne : b ≠ D' := fun z => by subst z; rw [hG6] at e; cases e
            have := u26.i b o e
            show (if b = D' then none else upd H6 D' _ b) = _ ∨ _ ∧ ∃ ob, (if b = D' then none else upd H6 D' _ b) = _
            simp only [if_neg ne] at this
            rw [if_neg ne, upd_ne ne]
            exact this
          · have ne : b ≠ D' := fun z => by subst z; rw [hD] at e; cases e
            have := u26.h b o e
            simp only [if_neg ne] at this
            show (if b = D' then none else upd H6 D' _ b) = _
            rw [if_neg ne, upd_ne ne]
            exact this
        · rw [tk]
          have : [xs[j]].filter p = [xs[j]] := by simp [hp]
          rw [this, List.map_append]
          have ap : ∀ {v1 v2 : List V} {d1 d2 : List PyData}, RpA K G6 v1 d1 → RpA K G6 v2 d2 → RpA K G6 (v1 ++ v2) (d1 ++ d2) := by
            intro v1
            induction v1 with
            | nil => intro v2 d1 d2 h1 h2; cases h1; exact h2
            | cons v vs ih => intro v2 d1 d2 h1 h2; cases h1 with | cons h a => exact .cons h (ih a h2)
          exact ap (racc.mono ((u4.g.trans u5.g).trans u6.g)) (.cons r6 .nil)
    · have e : j = xs.length := by omega
      subst e
      refine .inl ⟨by simpa using wstop, ?_⟩
      rw [List.take_length] at racc
      refine q D' G3 H acc (u2.h.no hD) hG3 ?_ i3 hacc racc
      refine ⟨u2.g.trans u3.g, u3.i, fun b o e => u3.h b o (u2.h b o e), fun b o e => ?_⟩
      rcases u3.n b o e with z | z
      · exact u2.n b o z
      · exact .inr (u2.h.no z)
/-- what is new may be shown -/
theorem show_new {D' : Addr} {G1 H1 G3 H3 : Hp} {o : HO} (h1 : H1 D' = none) (h2 : G3 D' = none) (u : Up G1 H1 G3 (fun b => if b = D' then none else H3 b)) (i3 : In G3 H3) (e3 : H3 D' = some o) : Up G1 H1 (upd G3 D' o) H3 ∧ Le G3 (upd G3 D' o) := by
  have hnn : ∀ b o, G3 b = some o → b ≠ D' := fun b o e z => by subst z; rw [h2] at e; cases e
  have lg : Le G3 (upd G3 D' o) := fun b o e => by rw [upd_ne (hnn b o e)]; exact e
  refine ⟨⟨u.g.trans lg, fun b o e => ?_, fun b o e => ?_, fun b o e => ?_⟩, lg⟩
  · by_cases hb : b = D'
    · subst hb; rw [upd_same] at e; cases e; exact .inl e3
    · rw [upd_ne hb] at e; exact i3 b o e
  · have ne : b ≠ D' := fun z => by subst z; rw [h1] at e; cases e
    have := u.h b o e
    simp only [if_neg ne] at this
    exact this
  · by_cases hb : b = D'
    · subst hb; exact .inr h1
    · rw [upd_ne hb] at e
      exact u.n b o e
theorem ev_lc {α : Type} {D : α → PyData} {xs : List α} {p : α → Bool} {f : α → PyData} {vs : List Nat} {B : α → L2.St → Hp → Prop} (hi : EvI K wi σ G (xs.map D)) (hb : ∀ z ∈ xs, Bnd K g (wipe σ vs) (D z) (B z))
    (hw : ∀ z ∈ xs, ∀ σ2 G, B z σ2 G → wipe σ2 vs = wipe σ vs)
    (ht : ∀ z ∈ xs, ∀ G1 σ2, Le G G1 → B z σ2 G1 → EvT tt σ2 G1 (p z)) (he : ∀ z ∈ xs, p z = true → ∀ G1 σ2, Le G G1 → B z σ2 G1 → Ev K te σ2 G1 (f z))
    (hBm : ∀ z σ2 G1 G2, Le G1 G2 → B z σ2 G1 → B z σ2 G2) (hl : xs.length ≤ 100000) : Ev K (tLc wi g tt te vs) σ G (.list ((xs.filter p).map f)) := fun G1 H1 l i Q q =>
  lc_new hi hb hw ht he hBm hl l i fun D' G3 H3 acc h1 h2 u i3 e3 r3 => by
    obtain ⟨u4, l4⟩ := show_new h1 h2 u i3 e3
    exact q _ _ _ u4 (.lst upd_same (r3.mono l4))
end
end Z

namespace Z
open PySem PySem.Spec PyProof.Rows L2

/-! ### operators by data -/
section
variable {K : PySem.W.Frag} {σ : L2.St} {G H : Hp}
theorem opv_I0 {g : Int → Int → V} {D : Int → Int → PyData} (h : ∀ i j G, Rp K G (g i j) (D i j)) {i j : Int} : OpV K (rI0 g) (.int i) (.int j) (D i j) := fun G H x y hi px py Q q => by
  rw [rp_int px, rp_int py]
  exact ⟨i, j, rfl, rfl, q _ G H (Up.refl hi) (h i j G)⟩
theorem opv_I {C : Int → Int → Prop} {g : Int → Int → V} {D : Int → Int → PyData} (h : ∀ i j G, Rp K G (g i j) (D i j)) {i j : Int} (hc : C i j) : OpV K (rI C g) (.int i) (.int j) (D i j) := fun G H x y hi px py Q q => by
  rw [rp_int px, rp_int py]
  exact ⟨i, j, rfl, rfl, hc, q _ G H (Up.refl hi) (h i j G)⟩
theorem opv_add {i j : Int} : OpV K (rI0 fun i j => .int (i + j)) (.int i) (.int j) (.int (i + j)) := opv_I0 (D := fun i j => .int (i + j)) fun _ _ _ => .int _
theorem opv_sub {i j : Int} : OpV K (rI0 fun i j => .int (i - j)) (.int i) (.int j) (.int (i - j)) := opv_I0 (D := fun i j => .int (i - j)) fun _ _ _ => .int _
theorem opv_mul {i j : Int} (h : CMul i j) : OpV K (rI CMul fun i j => .int (i * j)) (.int i) (.int j) (.int (i * j)) := opv_I (D := fun i j => .int (i * j)) (fun _ _ _ => .int _) h
theorem opv_fdiv {i j : Int} (h : CDivN i j) : OpV K (rI CDivN fun i j => .int (i.fdiv j)) (.int i) (.int j) (.int (i.fdiv j)) := opv_I (D := fun i j => .int (i.fdiv j)) (fun _ _ _ => .int _) h
theorem opv_mod {i j : Int} (h : j ≠ 0) : OpV K (rI (fun _ j => j ≠ 0) fun i j => .int (i.fmod j)) (.int i) (.int j) (.int (i.fmod j)) := opv_I (C := fun _ j => j ≠ 0) (D := fun i j => .int (i.fmod j)) (fun _ _ _ => .int _) h
theorem opv_pow {i j : Int} (h : CPow i j) : OpV K (rI CPow fun i j => .int (i ^ j.toNat)) (.int i) (.int j) (.int (i ^ j.toNat)) := opv_I (D := fun i j => .int (i ^ j.toNat)) (fun _ _ _ => .int _) h
theorem opv_lt {i j : Int} : OpV K (rI0 fun i j => .bl (decide (i < j))) (.int i) (.int j) (.bool (decide (i < j))) := opv_I0 (D := fun i j => .bool (decide (i < j))) fun _ _ _ => .bl _
theorem opv_le {i j : Int} : OpV K (rI0 fun i j => .bl (decide (i ≤ j))) (.int i) (.int j) (.bool (decide (i ≤ j))) := opv_I0 (D := fun i j => .bool (decide (i ≤ j))) fun _ _ _ => .bl _
theorem opv_gt {i j : Int} : OpV K (rI0 fun i j => .bl (decide (j < i))) (.int i) (.int j) (.bool (decide (j < i))) := opv_I0 (D := fun i j => .bool (decide (j < i))) fun _ _ _ => .bl _
theorem opv_ge {i j : Int} : OpV K (rI0 fun i j => .bl (decide (j ≤ i))) (.int i) (.int j) (.bool (decide (j ≤ i))) := opv_I0 (D := fun i j => .bool (decide (j ≤ i))) fun _ _ _ => .bl _
theorem unv_neg {i : Int} : UnV K (rU fun i => .int (-i)) (.int i) (.int (-i)) := fun G H x hi px Q q => by
  rw [rp_int px]
  exact ⟨i, rfl, q _ G H (Up.refl hi) (.int _)⟩
/-- texts as lists of signs -/
def rAddS : R2 := fun x y H Q => ∃ i j, x = .str i ∧ y = .str j ∧ i.length + j.length ≤ sizeLine ∧ Q (.str (i ++ j)) H
theorem S_app (a b : List Nat) : S a ++ S b = S (a ++ b) := by
  show (⟨(S a).cps ++ (S b).cps⟩ : Str) = _
  simp [S]
theorem S_len (a : List Nat) : (S a).length = a.length := by
  show (S a).cps.size = _
  simp [S]
theorem opv_addS {a b : List Nat} (h : a.length + b.length ≤ 10000000) : OpV K rAddS (.str (S a)) (.str (S b)) (.str (S (a ++ b))) := fun G H x y hi px py Q q => by
  rw [rp_str px, rp_str py]
  refine ⟨S a, S b, rfl, rfl, by rw [S_len, S_len]; exact Nat.le_trans h (by decide), ?_⟩
  rw [S_app]
  exact q _ G H (Up.refl hi) (.str _)
theorem opv_cat {a b : List PyData} (h : a.length + b.length ≤ 1000000) : OpV K rCat (.list a) (.list b) (.list (a ++ b)) := fun G H x y hi px py Q q => by
  obtain ⟨p, xs, rfl, h1, h2⟩ := rp_ref px
  obtain ⟨p', ys, rfl, h3, h4⟩ := rp_ref py
  refine ⟨p, p', xs, ys, rfl, rfl, hi.ex h1 rfl, hi.ex h3 rfl, by rw [h2.len, h4.len]; exact Nat.le_trans h (by decide), fun r hr => ?_⟩
  have u := Up.new (o := .lst (xs ++ ys)) hi hr
  have ap : ∀ {v1 v2 : List V} {d1 d2 : List PyData}, RpA K G v1 d1 → RpA K G v2 d2 → RpA K G (v1 ++ v2) (d1 ++ d2) := by
    intro v1
    induction v1 with
    | nil => intro v2 d1 d2 h1 h2; cases h1; exact h2
    | cons v vs ih => intro v2 d1 d2 h1 h2; cases h1 with | cons h a => exact .cons h (ih a h2)
  exact q _ _ _ u (.lst upd_same ((ap h2 h4).mono u.g))
/-- == of plain things -/
def scalD : PyData → PyData → Bool
  | .int _, .int _ => true
  | .str _, .str _ => true
  | .bool _, .bool _ => true
  | .none, .none => true
  | .none, .int _ => true
  | .int _, .none => true
  | .none, .str _ => true
  | .str _, .none => true
  | _, _ => false
def eqS : PyData → PyData → Bool
  | .int i, .int j => decide (i = j)
  | .str i, .str j => decide (i = j)
  | .bool i, .bool j => decide (i = j)
  | .none, .none => true
  | _, _ => false
theorem opv_eq {a b : PyData} (h : scalD a b = true) : OpV K rEq a b (.bool (eqS a b)) := fun G H x y hi px py Q q => by
  have fin : ∀ k, k = eqS a b → Q (.bl k) H := fun k e => by subst e; exact q _ G H (Up.refl hi) (.bl _)
  cases px <;> cases py <;> first
    | (refine ⟨rfl, fin _ ?_⟩; simp [eqS]; done)
    | (exact absurd h (by simp [scalD]))
theorem opv_ne {a b : PyData} (h : scalD a b = true) : OpV K rNe a b (.bool (!eqS a b)) := fun G H x y hi px py Q q => by
  have fin : ∀ k, k = (!eqS a b) → Q (.bl k) H := fun k e => by subst e; exact q _ G H (Up.refl hi) (.bl _)
  cases px <;> cases py <;> first
    | (refine ⟨rfl, fin _ ?_⟩; simp [eqS]; done)
    | (exact absurd h (by simp [scalD]))
theorem eqS_int {i j : Int} : eqS (.int i) (.int j) = decide (i = j) := rfl
theorem eqS_str {a b : List Nat} : eqS (.str (S a)) (.str (S b)) = decide (a = b) := by
  unfold eqS
  by_cases h : a = b
  · subst h; simp
  · have : S a ≠ S b := fun e => h (S_inj e)
    simp [h, this]
/-! == of nested things -/
mutual
def dicF : PyData → Bool
  | .list xs => dicFs xs
  | .tuple xs => dicFs xs
  | .dict _ => false
  | _ => true
def dicFs : List PyData → Bool
  | [] => true
  | d :: ds => dicF d && dicFs ds
end
theorem in_t {a : Addr} {xs : List V} (i : In G H) (h : SqT K G a xs) : SqT K H a xs := by
  rcases h with q | q
  · rcases q with q | ⟨o, q⟩
    · exact .inl (.inl (i.ex q rfl))
    · exact .inl (.inr ⟨o, i.ex q rfl⟩)
  · exact .inr q
mutual
theorem Rp.dp (i : In G H) : ∀ {v : V} {d : PyData}, Rp K G v d → dicF d = true → Dp K H v d
  | _, _, .non, _ => .non
  | _, _, .bl b, _ => .bl b
  | _, _, .int j, _ => .int j
  | _, _, .str x, _ => .str x
  | _, _, .lst h a, e => .lst (.inl (.inl (i.ex h rfl))) (RpA.dp i a (by simpa [dicF] using e))
  | _, _, .tup h a, e => .tup (in_t i h) (RpA.dp i a (by simpa [dicF] using e))
  | _, _, .dic h a, e => by simp [dicF] at e
theorem RpA.dp (i : In G H) : ∀ {v : List V} {d : List PyData}, RpA K G v d → dicFs d = true → DpAll K H v d
  | _, _, .nil, _ => .nil
  | _, _, .cons h a, e => by
    simp only [dicFs, Bool.and_eq_true] at e
    exact .cons (Rp.dp i h e.1) (RpA.dp i a e.2)
end
mutual
theorem dicF_of_lay : ∀ d : PyData, d.canLay0 = true → dicF d = true
  | .none, _ => by simp [dicF]
  | .bool _, _ => by simp [dicF]
  | .int _, _ => by simp [dicF]
  | .str _, _ => by simp [dicF]
  | .list xs, h => by
    simp only [PyData.canLay0] at h
    simp only [dicF]
    exact dicFs_of_lay xs h
  | .tuple xs, h => by
    simp only [PyData.canLay0] at h
    simp only [dicF]
    exact dicFs_of_lay xs h
  | .dict _, h => by simp [PyData.canLay0] at h
theorem dicFs_of_lay : ∀ ds : List PyData, PyData.canLayAll0 ds = true → dicFs ds = true
  | [], _ => by simp [dicFs]
  | d :: ds, h => by
    simp only [PyData.canLayAll0, Bool.and_eq_true] at h
    simp only [dicFs, Bool.and_eq_true]
    exact ⟨dicF_of_lay d h.1, dicFs_of_lay ds h.2⟩
end
theorem opv_eqD {a b : PyData} (ha : SeqAt.shaped a = true) (hb : SeqAt.shaped b = true) : OpV K (rEqD K) a b (.bool (PyData.eqv a b)) := fun G H x y hi px py Q q =>
  ⟨a, b, px.dp hi (dicF_of_lay _ (SeqAt.canLay_of_shaped ha)), py.dp hi (dicF_of_lay _ (SeqAt.canLay_of_shaped hb)), ha, hb, q _ G H (Up.refl hi) (.bl _)⟩
theorem opv_neD {a b : PyData} (ha : SeqAt.shaped a = true) (hb : SeqAt.shaped b = true) : OpV K (rNeD K) a b (.bool (!PyData.eqv a b)) := fun G H x y hi px py Q q =>
  ⟨a, b, px.dp hi (dicF_of_lay _ (SeqAt.canLay_of_shaped ha)), py.dp hi (dicF_of_lay _ (SeqAt.canLay_of_shaped hb)), ha, hb, q _ G H (Up.refl hi) (.bl _)⟩
end
end Z

namespace Z
open PySem PySem.Spec PyProof.Rows L2
/-! ### rules of our own -/
section
variable {X : Cx}
/-- text * int -/
def rMulS : R2 := fun x y H Q => ∃ z n, x = .str z ∧ y = .int n ∧ MulOk z n ∧ Q (.str (Txt.mul z n)) H
theorem op_mulS : OpR X (binaryOp .Mult) rMulS := by
  intro pins s σ H x y v u Q I rx ry h
  obtain ⟨z, n, rfl, rfl, hok, q⟩ := h
  obtain ⟨t, rfl⟩ := rx
  obtain ⟨t', rfl⟩ := ry
  exact SB.mul hok fun t' k => ⟨.str _, H, I.tok _, ⟨_, rfl⟩, q⟩
/-- sorted of alike data -/
def sortD (ds : List PyData) : List PyData := ds.mergeSort (PySem.W.dataLe false fun d => d)
def rSortD (K : PySem.W.Frag) : List V → Hp → VK → Prop := fun vs H Q => ∃ (a : Addr) (xs : List V) (ds : List PyData), vs = [.ref a] ∧ SqL K H a xs ∧ DpAll K H xs ds ∧ PySem.W.AllAlike ds ∧ PySem.W.Sortable ds ∧ (∀ d ∈ ds, d.depth ≤ 64) ∧
  ∀ p (ys : List V), H p = none → (∀ (R : V → PyData → Prop), (∀ (i : Nat) x d, xs[i]? = some x → ds[i]? = some d → R x d) → ys.length = (sortD ds).length ∧ ∀ (i : Nat) y d, ys[i]? = some y → (sortD ds)[i]? = some d → R y d) → Q (.ref p) (upd H p (.lst ys))
theorem each_zip {R : Value → V × PyData → Prop} : ∀ {us : List Value} {xs : List V} {ds : List PyData}, us.length = xs.length → xs.length = ds.length → (∀ (i : Nat) u x d, us[i]? = some u → xs[i]? = some x → ds[i]? = some d → R u (x, d)) → PySem.W.EachIs R us (xs.zip ds)
  | [], [], [], _, _, _ => .nil
  | u :: us, x :: xs, d :: ds, h1, h2, h => .cons (h 0 u x d rfl rfl rfl) (each_zip (by simpa using h1) (by simpa using h2) fun i => h (i + 1))
  | [], _ :: _, _, h1, _, _ => by cases h1
  | _ :: _, [], _, h1, _, _ => by cases h1
  | [], [], _ :: _, _, h2, _ => by cases h2
  | _ :: _, _ :: _, [], _, h2, _ => by cases h2
theorem DpAll.len {K : PySem.W.Frag} {H : Hp} : ∀ {xs : List V} {ds : List PyData}, DpAll K H xs ds → xs.length = ds.length
  | _, _, .nil => rfl
  | _, _, .cons _ a => by rw [List.length_cons, List.length_cons, DpAll.len a]
theorem DpAll.get {K : PySem.W.Frag} {H : Hp} : ∀ {xs : List V} {ds : List PyData} {i : Nat} {x : V} {d : PyData}, DpAll K H xs ds → xs[i]? = some x → ds[i]? = some d → Dp K H x d
  | _, _, _, _, _, .nil, e, _ => by simp at e
  | _, _, 0, _, _, .cons h _, e, f => by simp at e f; subst e f; exact h
  | _, _, i + 1, _, _, .cons _ a, e, f => DpAll.get (i := i) a (by simpa using e) (by simpa using f)
theorem each_vals {us : List Value} {bs : List (V × PyData)} (h : PySem.W.EachIs (fun u (b : V × PyData) => RelV b.1 u) us bs) : Vals (bs.map (·.1)) us := by
  induction h with
  | nil => exact .nil
  | cons r _ ih => exact .cons r ih
theorem zip_snd : ∀ {xs : List V} {ds : List PyData}, xs.length = ds.length → (xs.zip ds).map (·.2) = ds
  | [], [], _ => rfl
  | x :: xs, d :: ds, h => by
    show d :: (xs.zip ds).map (·.2) = d :: ds
    rw [zip_snd (by simpa using h)]
  | [], _ :: _, h => by cases h
  | _ :: _, [], h => by cases h
theorem cr_sortD (hu : X.A.units + 100 < cLine) : CallR X (.builtin "sorted") (rSortD X.K) := by
  intro pins s σ H vs us Q I r h
  obtain ⟨a, xs, ds, rfl, hs, hd, hal, hk, hdep, q⟩ := h
  obtain ⟨its, rv, hl, hz⟩ := I.list hs
  rw [Vals.ref1 r]
  have e1 := rv.length
  have e2 := DpAll.len hd
  have hm : (xs.zip ds).map (·.2) = ds := zip_snd e2
  refine PySem.W.sorted_data (R := fun u (b : V × PyData) => RelV b.1 u) (enc := fun b : V × PyData => b.2) (bs := xs.zip ds) hl.isList (each_zip e1.symm e2 fun i u x d hu hx hd' => ?_) (each_zip e1.symm e2 fun i u x d hu hx hd' => ?_) ?_ ?_ ?_ ?_ fun out h1 h2 => ?_
  · obtain ⟨u', h1, h2⟩ := rv.get hx
    rw [hu] at h1; cases h1; exact h2
  · obtain ⟨u', h1, h2⟩ := rv.get hx
    rw [hu] at h1; cases h1
    exact Dp.reads I d x u (DpAll.get hd hx hd') h2
  · rw [hm]; exact hal
  · rw [hm]; exact hk
  · rw [List.length_zip]; omega
  · intro b hb
    have : b.2 ∈ ds := by rw [← hm]; exact List.mem_map.mpr ⟨b, hb, rfl⟩
    have := hdep _ this
    show X.A.units + 2 + b.2.depth < cLine
    omega
  · obtain ⟨ep, he'⟩ := PyProof.Rows.sortedAll_at s.heap its out.toArray
    have hv := each_vals h2
    have hlen : (((xs.zip ds).mergeSort (PySem.W.dataLe false fun b : V × PyData => b.2)).map (·.1)).length ≤ sizeLine := by
      rw [List.length_map, List.length_mergeSort, List.length_zip]; omega
    refine ⟨.ref _, upd H (s.heap.objs.size + 1) (.lst (((xs.zip ds).mergeSort (PySem.W.dataLe false fun b : V × PyData => b.2)).map (·.1))), I.laid (t' := s.toks) (fun _ _ => PyProof.Rows.sortedAll_old) (Nat.le_succ _) ⟨hlen, out, ep, hv, he'⟩, rfl, q _ _ (I.hok.fresh (Nat.le_succ _)) fun R hR => ?_⟩
    have es : sortD ds = ((xs.zip ds).mergeSort (PySem.W.dataLe false fun b : V × PyData => b.2)).map (·.2) := by
      unfold sortD
      have t := PySem.W.sort_maps (r := PySem.W.dataLe false fun b : V × PyData => b.2) (s := PySem.W.dataLe false fun d => d) (fun b : V × PyData => b.2) (l := xs.zip ds) (fun _ _ _ _ => rfl)
      rw [hm] at t
      exact t.symm
    rw [es]
    refine ⟨by simp, fun i y d hy hd' => ?_⟩
    rw [List.getElem?_map] at hy hd'
    cases hb : ((xs.zip ds).mergeSort (PySem.W.dataLe false fun b : V × PyData => b.2))[i]? with
    | none => rw [hb] at hy; cases hy
    | some b =>
      rw [hb] at hy hd'
      cases hy; cases hd'
      have hmem : b ∈ xs.zip ds := (List.mergeSort_perm _ _).mem_iff.mp (List.mem_of_getElem? hb)
      obtain ⟨j, hj⟩ := List.mem_iff_getElem?.mp hmem
      rw [List.getElem?_zip_eq_some] at hj
      exact hR j b.1 b.2 hj.1 hj.2
/-- min of a list of alike data -/
def rMinD (K : PySem.W.Frag) : List V → Hp → VK → Prop := fun vs H Q => ∃ (a : Addr) (xs : List V) (d : PyData) (ds : List PyData), vs = [.ref a] ∧ SqL K H a xs ∧ DpAll K H xs (d :: ds) ∧ PySem.W.AlikeAll (d :: ds) ∧ PyData.depthAll (d :: ds) ≤ 64 ∧
  ∀ (i : Nat) x, xs[i]? = some x → (d :: ds)[i]? = some (PySem.W.minD d ds) → Q x H
theorem cr_minD (hc : X.calm = true) (hu : X.A.units + 100 < cLine) : CallR X (.builtin "min") (rMinD X.K) := by
  intro pins s σ H vs us Q I r h
  obtain ⟨a, xs, d, ds, rfl, hs, hd, hal, hdep, q⟩ := h
  obtain ⟨its, rv, hl, hz⟩ := I.list hs
  rw [Vals.ref1 r]
  obtain ⟨as, hr⟩ := Dp.readsAll I (d :: ds) xs its hd rv
  refine PySem.W.min_list_data (I.ok.hd hc) hl.isList (by simpa using hr) hal (by show X.A.units + 1 + PyData.depthAll (d :: ds) < cLine; omega) fun i v h' tk bs hv hm hk => ?_
  have hv' : its[i]? = some v := by simpa using hv
  have hi : i < its.length := (List.getElem?_eq_some_iff.mp hv').1
  have e1 := rv.length
  have e2 := DpAll.len hd
  obtain ⟨x, hx⟩ : ∃ x, xs[i]? = some x := ⟨xs[i]'(by omega), List.getElem?_eq_getElem _⟩
  obtain ⟨e, he⟩ : ∃ e, (d :: ds)[i]? = some e := ⟨(d :: ds)[i]'(by omega), List.getElem?_eq_getElem _⟩
  obtain ⟨u, h1, h2⟩ := rv.get hx
  rw [hv'] at h1; cases h1
  obtain ⟨bs', hr'⟩ := Dp.reads I e x v (DpAll.get hd hx he) h2
  have ee := (PyProof.Rows.reads_det (h := s.heap) (h' := h') (fun b o hb _ => hk b o hb) hr' hm).1
  refine ⟨x, H, I.kept (t' := tk) hk, h2, q i x hx ?_⟩
  rw [he, ee]
end
/-! ### calls by data -/
section
variable {K : PySem.W.Frag} {σ : L2.St} {G H : Hp}
theorem rpa_of_get : ∀ {vs : List V} {ds : List PyData}, vs.length = ds.length → (∀ (i : Nat) v d, vs[i]? = some v → ds[i]? = some d → Rp K G v d) → RpA K G vs ds
  | [], [], _, _ => .nil
  | v :: vs, d :: ds, h, f => .cons (f 0 v d rfl rfl) (rpa_of_get (by simpa using h) fun i => f (i + 1))
  | [], _ :: _, h, _ => by cases h
  | _ :: _, [], h, _ => by cases h
theorem cav_sortD {ds : List PyData} (hal : PySem.W.AllAlike ds) (hk : PySem.W.Sortable ds) (hdep : ∀ d ∈ ds, d.depth ≤ 64) (hf : dicFs ds = true) : CaV K (rSortD K) [.list ds] (.list (sortD ds)) := fun G H vs hi pv Q q => by
  obtain ⟨v, ws, rfl, p1, p2⟩ := rpa_cons pv
  rw [rpa_nil p2]
  obtain ⟨p, xs, rfl, h1, h2⟩ := rp_ref p1
  refine ⟨p, xs, ds, rfl, .inl (.inl (hi.ex h1 rfl)), h2.dp hi hf, hal, hk, hdep, fun r ys hr hR => ?_⟩
  obtain ⟨hl, hg⟩ := hR (fun x d => Rp K G x d) fun i x d hx hd => by
    obtain ⟨v, e1, e2⟩ := h2.get hd
    rw [hx] at e1; cases e1; exact e2
  have u := Up.new (o := .lst ys) hi hr
  exact q _ _ _ u (.lst upd_same ((rpa_of_get hl hg).mono u.g))
theorem cav_minD {d : PyData} {ds : List PyData} (hal : PySem.W.AlikeAll (d :: ds)) (hdep : PyData.depthAll (d :: ds) ≤ 64) (hf : dicFs (d :: ds) = true) : CaV K (rMinD K) [.list (d :: ds)] (PySem.W.minD d ds) := fun G H vs hi pv Q q => by
  obtain ⟨v, ws, rfl, p1, p2⟩ := rpa_cons pv
  rw [rpa_nil p2]
  obtain ⟨p, xs, rfl, h1, h2⟩ := rp_ref p1
  refine ⟨p, xs, d, ds, rfl, .inl (.inl (hi.ex h1 rfl)), h2.dp hi hf, hal, hdep, fun i x hx he => ?_⟩
  obtain ⟨v, e1, e2⟩ := h2.get he
  rw [hx] at e1; cases e1
  exact q _ G H (Up.refl hi) e2
/-- len -/
def rLenU (K : PySem.W.Frag) : List V → Hp → VK → Prop := fun xs H Q => ∃ x n, xs = [x] ∧ LenV K x H n ∧ Q (.int n) H
theorem cav_lenS {l : List Nat} (h : l.length ≤ 10000000) : CaV K (rLenU K) [.str (S l)] (.int (l.length : Int)) := fun G H vs hi pv Q q => by
  obtain ⟨v, ws, rfl, p1, p2⟩ := rpa_cons pv
  rw [rpa_nil p2, rp_str p1]
  refine ⟨_, l.length, rfl, ⟨by rw [S_len]; exact Nat.le_trans h (by decide), (S_len l).symm⟩, q _ G H (Up.refl hi) (.int _)⟩
theorem cav_lenL {ds : List PyData} : CaV K (rLenU K) [.list ds] (.int (ds.length : Int)) := fun G H vs hi pv Q q => by
  obtain ⟨v, ws, rfl, p1, p2⟩ := rpa_cons pv
  rw [rpa_nil p2]
  obtain ⟨p, xs, rfl, h1, h2⟩ := rp_ref p1
  refine ⟨_, ds.length, rfl, .inl ⟨xs, .inl (.inl (hi.ex h1 rfl)), h2.len.symm⟩, q _ G H (Up.refl hi) (.int _)⟩
theorem cav_lenT {ds : List PyData} : CaV K (rLenU K) [.tuple ds] (.int (ds.length : Int)) := fun G H vs hi pv Q q => by
  obtain ⟨v, ws, rfl, p1, p2⟩ := rpa_cons pv
  rw [rpa_nil p2]
  obtain ⟨p, xs, rfl, h1, h2⟩ := rp_tup p1
  refine ⟨_, ds.length, rfl, .inr ⟨xs, in_t hi h1, h2.len.symm⟩, q _ G H (Up.refl hi) (.int _)⟩
def rAbs : List V → Hp → VK → Prop := fun xs H Q => ∃ i, xs = [.int i] ∧ Q (.int (if i < 0 then -i else i)) H
theorem cav_abs {i : Int} : CaV K rAbs [.int i] (.int (i.natAbs : Int)) := fun G H vs hi pv Q q => by
  obtain ⟨v, ws, rfl, p1, p2⟩ := rpa_cons pv
  rw [rpa_nil p2, rp_int p1]
  refine ⟨i, rfl, ?_⟩
  have e : (if i < 0 then -i else i) = (i.natAbs : Int) := by split <;> omega
  rw [e]
  exact q _ G H (Up.refl hi) (.int _)
def rMin2 : List V → Hp → VK → Prop := fun xs H Q => ∃ i j, xs = [.int i, .int j] ∧ Q (.int (if j < i then j else i)) H
def rMax2 : List V → Hp → VK → Prop := fun xs H Q => ∃ i j, xs = [.int i, .int j] ∧ Q (.int (if j > i then j else i)) H
theorem cav_min2 {i j : Int} : CaV K rMin2 [.int i, .int j] (.int (min i j)) := fun G H vs hi pv Q q => by
  obtain ⟨v, ws, rfl, p1, p2⟩ := rpa_cons pv
  obtain ⟨v', ws', rfl, p3, p4⟩ := rpa_cons p2
  rw [rpa_nil p4, rp_int p1, rp_int p3]
  refine ⟨i, j, rfl, ?_⟩
  have e : (if j < i then j else i) = min i j := by split <;> omega
  rw [e]
  exact q _ G H (Up.refl hi) (.int _)
theorem cav_max2 {i j : Int} : CaV K rMax2 [.int i, .int j] (.int (max i j)) := fun G H vs hi pv Q q => by
  obtain ⟨v, ws, rfl, p1, p2⟩ := rpa_cons pv
  obtain ⟨v', ws', rfl, p3, p4⟩ := rpa_cons p2
  rw [rpa_nil p4, rp_int p1, rp_int p3]
  refine ⟨i, j, rfl, ?_⟩
  have e : (if j > i then j else i) = max i j := by split <;> omega
  rw [e]
  exact q _ G H (Up.refl hi) (.int _)
def rInt1 : List V → Hp → VK → Prop := fun xs H Q => (∃ i, xs = [.int i] ∧ Q (.int i) H) ∨ ∃ k, xs = [.bl k] ∧ Q (.int (if k then 1 else 0)) H
theorem cav_int {i : Int} : CaV K rInt1 [.int i] (.int i) := fun G H vs hi pv Q q => by
  obtain ⟨v, ws, rfl, p1, p2⟩ := rpa_cons pv
  rw [rpa_nil p2, rp_int p1]
  exact .inl ⟨i, rfl, q _ G H (Up.refl hi) (.int _)⟩
theorem cav_intB {i : Bool} : CaV K rInt1 [.bool i] (.int (if i then 1 else 0)) := fun G H vs hi pv Q q => by
  obtain ⟨v, ws, rfl, p1, p2⟩ := rpa_cons pv
  rw [rpa_nil p2, rp_bool p1]
  exact .inr ⟨i, rfl, q _ G H (Up.refl hi) (.int _)⟩
theorem cav_all {bs : List Bool} : CaV K (rAll K) [.list (bs.map .bool)] (.bool (bs.all id)) := fun G H vs hi pv Q q => by
  obtain ⟨v, ws, rfl, p1, p2⟩ := rpa_cons pv
  rw [rpa_nil p2]
  obtain ⟨p, xs, rfl, h1, h2⟩ := rp_ref p1
  rw [rpa_bools h2] at h1
  exact ⟨p, bs, rfl, .inl (.inl (hi.ex h1 rfl)), q _ G H (Up.refl hi) (.bl _)⟩
theorem cav_any {bs : List Bool} : CaV K (rAny K) [.list (bs.map .bool)] (.bool (bs.any id)) := fun G H vs hi pv Q q => by
  obtain ⟨v, ws, rfl, p1, p2⟩ := rpa_cons pv
  rw [rpa_nil p2]
  obtain ⟨p, xs, rfl, h1, h2⟩ := rp_ref p1
  rw [rpa_bools h2] at h1
  exact ⟨p, bs, rfl, .inl (.inl (hi.ex h1 rfl)), q _ G H (Up.refl hi) (.bl _)⟩
theorem cav_sum {ns : List Int} : CaV K (rSum K) [.list (ns.map .int)] (.int ns.sum) := fun G H vs hi pv Q q => by
  obtain ⟨v, ws, rfl, p1, p2⟩ := rpa_cons pv
  rw [rpa_nil p2]
  obtain ⟨p, xs, rfl, h1, h2⟩ := rp_ref p1
  rw [rpa_ints h2] at h1
  exact ⟨p, ns, rfl, .inl (.inl (hi.ex h1 rfl)), q _ G H (Up.refl hi) (.int _)⟩
/-- list(list), list(tuple) -/
def rListOf (K : PySem.W.Frag) : List V → Hp → VK → Prop := fun xs H Q => ∃ p ys, xs = [.ref p] ∧ (SqL K H p ys ∨ SqT K H p ys) ∧ ∀ l, H l = none → Q (.ref l) (upd H l (.lst ys))
theorem cav_listL {ds : List PyData} : CaV K (rListOf K) [.list ds] (.list ds) := fun G H vs hi pv Q q => by
  obtain ⟨v, ws, rfl, p1, p2⟩ := rpa_cons pv
  rw [rpa_nil p2]
  obtain ⟨p, xs, rfl, h1, h2⟩ := rp_ref p1
  refine ⟨p, xs, rfl, .inl (.inl (.inl (hi.ex h1 rfl))), fun l hl => ?_⟩
  have u := Up.new (o := .lst xs) hi hl
  exact q _ _ _ u (.lst upd_same (h2.mono u.g))
theorem cav_listT {ds : List PyData} : CaV K (rListOf K) [.tuple ds] (.list ds) := fun G H vs hi pv Q q => by
  obtain ⟨v, ws, rfl, p1, p2⟩ := rpa_cons pv
  rw [rpa_nil p2]
  obtain ⟨p, xs, rfl, h1, h2⟩ := rp_tup p1
  refine ⟨p, xs, rfl, .inr (in_t hi h1), fun l hl => ?_⟩
  have u := Up.new (o := .lst xs) hi hl
  exact q _ _ _ u (.lst upd_same (h2.mono u.g))
end
end Z

namespace Z
open PySem PySem.Spec PyProof.Rows L2
section
variable {K : PySem.W.Frag} {σ : L2.St} {G H : Hp} {ta tb te tx : TE} {a b d : PyData}
/-! ### slices -/
def cutL {α : Type} (l : List α) (lo hi : Option Int) : List α := (l.drop (HT.sIx l.length 0 lo)).take (HT.sIx l.length l.length hi - HT.sIx l.length 0 lo)
theorem cutS_S (l : List Nat) (lo hi : Option Int) : cutS (S l) lo hi = S (cutL l lo hi) := by
  unfold cutS cutL
  rw [S_cps, S_len]
  rfl
theorem eo_none : EvO tNoPart σ G none := fun G1 H1 l i Q q => q G1 H1 (Up.refl i)
theorem eo_some {i : Int} (h : Ev K te σ G (.int i)) : EvO (tPart te) σ G (some i) := fun G1 H1 l hi Q q => h G1 H1 l hi _ fun v G2 H2 u2 p2 => ⟨i, rp_int p2, q G2 H2 u2⟩
theorem ev_slS {l : List Nat} {tl th : TO} {lo hi : Option Int} (h : Ev K te σ G (.str (S l))) (hl : EvO tl σ G lo) (hh : EvO th σ G hi) (hz : l.length ≤ 10000000) : Ev K (tSl rSlS te tl th) σ G (.str (S (cutL l lo hi))) := fun G1 H1 le i Q q =>
  h G1 H1 le i _ fun v G2 H2 u2 p2 => hl G2 H2 (le.trans u2.g) u2.i _ fun G3 H3 u3 => hh G3 H3 (le.trans (u2.g.trans u3.g)) u3.i _ fun G4 H4 u4 => by
    refine ⟨S l, rp_str p2, by rw [S_len]; exact Nat.le_trans hz (by decide), ?_⟩
    rw [cutS_S]
    exact q _ G4 H4 ((u2.trans u3).trans u4) (.str _)
theorem rpa_drop : ∀ {n : Nat} {vs : List V} {ds : List PyData}, RpA K G vs ds → RpA K G (vs.drop n) (ds.drop n)
  | 0, _, _, h => h
  | _ + 1, _, _, .nil => .nil
  | n + 1, _, _, .cons _ a => rpa_drop (n := n) a
theorem rpa_take : ∀ {n : Nat} {vs : List V} {ds : List PyData}, RpA K G vs ds → RpA K G (vs.take n) (ds.take n)
  | 0, _, _, _ => .nil
  | _ + 1, _, _, .nil => .nil
  | n + 1, _, _, .cons h a => .cons h (rpa_take (n := n) a)
theorem ev_slL {ds : List PyData} {tl th : TO} {lo hi : Option Int} (h : Ev K te σ G (.list ds)) (hl : EvO tl σ G lo) (hh : EvO th σ G hi) : Ev K (tSl (rSlL K) te tl th) σ G (.list (cutL ds lo hi)) := fun G1 H1 le i Q q =>
  h G1 H1 le i _ fun v G2 H2 u2 p2 => hl G2 H2 (le.trans u2.g) u2.i _ fun G3 H3 u3 => hh G3 H3 (le.trans (u2.g.trans u3.g)) u3.i _ fun G4 H4 u4 => by
    obtain ⟨p, xs, rfl, h1, h2⟩ := rp_ref (p2.mono (u3.g.trans u4.g))
    refine ⟨p, xs, rfl, .inl (.inl (u4.i.ex h1 rfl)), fun r hr => ?_⟩
    have h3 : RpA K G4 (cutV xs lo hi) (cutL ds lo hi) := by
      show RpA K G4 (cutL xs lo hi) (cutL ds lo hi)
      unfold cutL
      rw [h2.len]
      exact rpa_take (rpa_drop h2)
    have u := Up.new (o := .lst (cutV xs lo hi)) u4.i hr
    exact q _ _ _ (((u2.trans u3).trans u4).trans u) (.lst upd_same (h3.mono u.g))
/-! ### places -/
theorem opv_ixS {l : List Nat} {i : Int} {c : Nat} (hz : l.length ≤ 10000000) (h : atI l i = some c) : OpV K (rIx K) (.str (S l)) (.int i) (.str (S [c])) := fun G H x y hi px py Q q => by
  rw [rp_str px, rp_int py]
  refine .inr (.inr ⟨S l, i, c, rfl, rfl, by rw [S_len]; exact Nat.le_trans hz (by decide), by rw [S_cps]; exact h, ?_⟩)
  exact q _ G H (Up.refl hi) (.str _)
theorem rpa_at {vs : List V} {ds : List PyData} {i : Int} (r : RpA K G vs ds) (h : atI ds i = some d) : ∃ v, atI vs i = some v ∧ Rp K G v d := by
  unfold atI at h ⊢
  rw [r.len]
  cases e : ixN ds.length i with
  | none => rw [e] at h; cases h
  | some j =>
    rw [e] at h
    exact r.get h
theorem opv_ixL {ds : List PyData} {i : Int} (h : atI ds i = some d) : OpV K (rIx K) (.list ds) (.int i) d := fun G H x y hi px py Q q => by
  obtain ⟨p, xs, rfl, h1, h2⟩ := rp_ref px
  rw [rp_int py]
  obtain ⟨v, h3, h4⟩ := rpa_at h2 h
  exact .inl ⟨p, xs, i, v, rfl, rfl, .inl (.inl (hi.ex h1 rfl)), h3, q _ G H (Up.refl hi) h4⟩
theorem opv_ixT {ds : List PyData} {i : Int} (h : atI ds i = some d) : OpV K (rIx K) (.tuple ds) (.int i) d := fun G H x y hi px py Q q => by
  obtain ⟨p, xs, rfl, h1, h2⟩ := rp_tup px
  rw [rp_int py]
  obtain ⟨v, h3, h4⟩ := rpa_at h2 h
  exact .inr (.inl ⟨p, xs, i, v, rfl, rfl, in_t hi h1, h3, q _ G H (Up.refl hi) h4⟩)
/-! ### texts -/
def rJoin (K : PySem.W.Frag) : V → List V → Hp → VK → Prop := fun x xs H Q => ∃ a p, ∃ ys : List Str, x = .str a ∧ xs = [.ref p] ∧ (SqL K H p (ys.map V.str) ∨ SqT K H p (ys.map V.str)) ∧ (ys.map (·.length)).sum + ys.length * a.length ≤ 16777216 ∧ Q (.str (Txt.join a ys)) H
theorem glue_nil : ∀ (ls : List (List Nat)) (acc : List Nat), (ls.map S).foldl (fun (acc : Array Nat) p => acc ++ (S []).cps ++ p.cps) acc.toArray = (acc ++ ls.flatten).toArray
  | [], acc => by simp
  | l :: ls, acc => by
    rw [List.map_cons, List.foldl_cons]
    have : acc.toArray ++ (S []).cps ++ (S l).cps = (acc ++ l).toArray := by simp [S]
    rw [this, glue_nil ls (acc ++ l), List.flatten_cons, List.append_assoc]
theorem join_nil (ls : List (List Nat)) : Txt.join (S []) (ls.map S) = S ls.flatten := by
  unfold Txt.join
  cases ls with
  | nil => rfl
  | cons l ls =>
    show (⟨((ls.map S).foldl (fun acc p => acc ++ (S []).cps ++ p.cps) (S l).cps)⟩ : Str) = _
    have e : (S l).cps = l.toArray := rfl
    rw [e, glue_nil ls l]
    rfl
theorem ev_join {ls : List (List Nat)} (ho : Ev K ta σ G (.str (S []))) (h : Ev K te σ G (.list (ls.map fun l => .str (S l)))) (hz : (ls.map (·.length)).sum ≤ 10000000) : Ev K (tM1 (rJoin K) ta te) σ G (.str (S ls.flatten)) := fun G1 H1 le i Q q =>
  ho G1 H1 le i _ fun v G2 H2 u2 p2 => ⟨⟨_, rp_str p2⟩, h G2 H2 (le.trans u2.g) u2.i _ fun w G3 H3 u3 p3 => by
    obtain ⟨p, xs, rfl, h1, h2⟩ := rp_ref p3
    have e : (ls.map fun l => PyData.str (S l)) = (ls.map S).map .str := by rw [List.map_map]; rfl
    rw [e] at h2
    rw [rpa_strs h2] at h1
    refine ⟨S [], p, ls.map S, rp_str p2, rfl, .inl (.inl (.inl (u3.i.ex h1 rfl))), ?_, ?_⟩
    · have e1 : (ls.map S).map (·.length) = ls.map (·.length) := by
        rw [List.map_map]
        exact List.map_congr_left fun l _ => S_len l
      rw [e1, S_len]
      simp only [List.length_nil, Nat.mul_zero, Nat.add_zero]
      exact Nat.le_trans hz (by decide)
    · rw [join_nil]
      exact q _ G3 H3 (u2.trans u3) (.str _)⟩
theorem mul_S (l : List Nat) (n : Nat) : Txt.mul (S l) (n : Int) = S (List.replicate n l).flatten := by
  unfold Txt.mul
  by_cases h0 : n = 0
  · subst h0; rfl
  rw [if_neg (by omega)]
  by_cases h1 : ((n : Int) == 1 || (S l).length == 0) = true
  · rw [if_pos h1]
    rw [S_len] at h1
    rcases Bool.or_eq_true_iff.mp h1 with e | e
    · have : n = 1 := by
        have e' : (n : Int) = 1 := by simpa using e
        omega
      subst this
      simp
    · have : l = [] := by simpa using e
      subst this
      have : (List.replicate n ([] : List Nat)).flatten = [] := by simp
      rw [this]
  · rw [if_neg h1]
    have key : ∀ (k : Nat) (acc : List Nat), (List.replicate k (S l).cps).foldl (· ++ ·) acc.toArray = (acc ++ (List.replicate k l).flatten).toArray := by
      intro k
      induction k with
      | zero => intro acc; simp
      | succ k ih =>
        intro acc
        rw [List.replicate_succ, List.foldl_cons, List.replicate_succ, List.flatten_cons]
        have : acc.toArray ++ (S l).cps = (acc ++ l).toArray := by simp [S]
        rw [this, ih, List.append_assoc]
    have := key n []
    simp only [Int.toNat_natCast]
    rw [this]
    rfl
theorem opv_mulS {l : List Nat} {n : Nat} (h : l.length * n ≤ 10000000) (hn : n ≤ 1000000) : OpV K rMulS (.str (S l)) (.int (n : Int)) (.str (S (List.replicate n l).flatten)) := fun G H x y hi px py Q q => by
  rw [rp_str px, rp_int py]
  refine ⟨S l, n, rfl, rfl, ⟨?_, fun h1 _ => ?_, fun _ _ => ?_⟩, ?_⟩
  · simp only [Bool.or_eq_false_iff, decide_eq_false_iff_not]
    constructor <;> omega
  · rw [S_len]
    have hpos : (0 : Int) < (n : Int) := by omega
    have : (l.length : Int) ≤ (2 ^ 63 - 1) / (n : Int) := by
      rw [Int.le_ediv_iff_mul_le hpos]
      have : ((l.length * n : Nat) : Int) ≤ ((10000000 : Nat) : Int) := Int.ofNat_le.mpr h
      rw [Int.natCast_mul] at this
      omega
    omega
  · rw [S_len]
    unfold PySem.Builtin.Str.tooLong
    simp only [Int.toNat_natCast, decide_eq_false_iff_not]
    have : sizeLine = 16777216 := by decide
    omega
  · rw [mul_S]
    exact q _ G H (Up.refl hi) (.str _)
/-! ### list(range(..)) -/
theorem ev_lstRg1 {i : Int} (h : Ev K te σ G (.int i)) (h0 : 0 ≤ i) (h1 : i ≤ 1000000) : Ev K (tLstRg (tRg1 te)) σ G (.list ((rng 0 i.toNat).map .int)) := fun G1 H1 le hi Q q => h G1 H1 le hi _ fun v G2 H2 u2 p2 =>
  ⟨i, rp_int p2, ⟨by omega, by omega, by omega, by omega, by omega⟩, fun p hp => by
    have e : rgV 0 i = (rng 0 i.toNat).map V.int := by
      unfold rgV rng
      rw [List.map_map]
      congr 1
      rw [Int.sub_zero]
    rw [e]
    have u := Up.new (o := .lst ((rng 0 i.toNat).map V.int)) u2.i hp
    exact q _ _ _ (u2.trans u) (.lst upd_same (ints_rpa _))⟩
theorem ev_lstRg2 {i j : Int} (ha : Ev K ta σ G (.int i)) (hb : Ev K tb σ G (.int j)) (h0 : 0 ≤ i) (h1 : i ≤ 1000000) (h2 : -1000000 ≤ j) (h3 : j ≤ 1000000) : Ev K (tLstRg (tRg2 ta tb)) σ G (.list ((rng i (j - i).toNat).map .int)) := fun G1 H1 le hi Q q => ha G1 H1 le hi _ fun v G2 H2 u2 p2 => hb G2 H2 (le.trans u2.g) u2.i _ fun w G3 H3 u3 p3 =>
  ⟨i, j, rp_int p2, rp_int p3, ⟨by omega, by omega, by omega, by omega, by omega⟩, fun p hp => by
    have e : rgV i j = (rng i (j - i).toNat).map V.int := by
      unfold rgV rng
      rw [List.map_map]
      rfl
    rw [e]
    have u := Up.new (o := .lst ((rng i (j - i).toNat).map V.int)) u3.i hp
    exact q _ _ _ ((u2.trans u3).trans u) (.lst upd_same (ints_rpa _))⟩
/-! ### dicts -/
def dD (es : List (Key × PyData)) : PyData := .dict (es.map fun e => (kD e.1, e.2))
def valK {α : Type} (es : List (Key × α)) (k : Key) : Option α := (es.find? fun e => decide (e.1 = k)).map (·.2)
inductive RpE (K : PySem.W.Frag) (G : Hp) : List (Key × V) → List (Key × PyData) → Prop
  | nil : RpE K G [] []
  | cons {k : Key} {v : V} {vs : List (Key × V)} {d : PyData} {ds : List (Key × PyData)} : Rp K G v d → RpE K G vs ds → RpE K G ((k, v) :: vs) ((k, d) :: ds)
theorem kD_inj {a b : Key} (h : kD a = kD b) : a = b := by
  cases a <;> cases b <;> simp [kD] at h <;> simp [h]
theorem rpe_of : ∀ {kvs : List (Key × V)} {es : List (Key × PyData)}, RpD K G kvs (es.map fun e => (kD e.1, e.2)) → RpE K G kvs es
  | _, [], h => by cases h; exact .nil
  | kvs, (k, d) :: es, h => by
    rw [List.map_cons] at h
    generalize hz : (kD k, d) = z at h
    cases h with
    | cons h a =>
      simp only [Prod.mk.injEq] at hz
      obtain ⟨e1, e2⟩ := hz
      have := kD_inj e1
      subst this e2
      exact .cons h (rpe_of a)
theorem rpe_to : ∀ {kvs : List (Key × V)} {es : List (Key × PyData)}, RpE K G kvs es → RpD K G kvs (es.map fun e => (kD e.1, e.2))
  | _, _, .nil => .nil
  | _, _, .cons h a => .cons h (rpe_to a)
theorem RpE.mono {G' : Hp} (l : Le G G') : ∀ {kvs : List (Key × V)} {es : List (Key × PyData)}, RpE K G kvs es → RpE K G' kvs es
  | _, _, .nil => .nil
  | _, _, .cons h a => .cons (h.mono l) (RpE.mono l a)
theorem RpE.len : ∀ {kvs : List (Key × V)} {es : List (Key × PyData)}, RpE K G kvs es → kvs.length = es.length
  | _, _, .nil => rfl
  | _, _, .cons _ a => by rw [List.length_cons, List.length_cons, RpE.len a]
theorem RpE.val : ∀ {kvs : List (Key × V)} {es : List (Key × PyData)} {k : Key}, RpE K G kvs es → (valV kvs k = none ∧ valK es k = none) ∨ ∃ v d, valV kvs k = some v ∧ valK es k = some d ∧ Rp K G v d
  | _, _, _, .nil => .inl ⟨rfl, rfl⟩
  | (k', v) :: kvs, (_, d) :: es, k, .cons h a => by
    by_cases e : k' = k
    · subst e
      exact .inr ⟨v, d, by simp [valV], by simp [valK], h⟩
    · rcases RpE.val (k := k) a with ⟨h1, h2⟩ | ⟨v', d', h1, h2, h3⟩
      · exact .inl ⟨by simpa [valV, e] using h1, by simpa [valK, e] using h2⟩
      · exact .inr ⟨v', d', by simpa [valV, e] using h1, by simpa [valK, e] using h2, h3⟩
theorem rp_dic {v : V} {es : List (Key × PyData)} (h : Rp K G v (dD es)) : ∃ p kvs, v = .ref p ∧ G p = some (.dK kvs) ∧ RpE K G kvs es := by
  unfold dD at h
  generalize hz : (es.map fun e => (kD e.1, e.2)) = z at h
  cases h with
  | dic h a =>
    subst hz
    exact ⟨_, _, rfl, h, rpe_of a⟩
theorem kD_kV {G : Hp} {v : V} {k : Key} (h : Rp K G v (kD k)) : v = kV k := by
  cases k with
  | inl i => exact rp_int h
  | inr x => exact rp_str h
theorem ev_dget {es : List (Key × PyData)} {k : Key} (ho : Ev K ta σ G (dD es)) (hk : Ev K tb σ G (kD k)) (hv : valK es k = some d) : Ev K (tDGet ta tb) σ G d := fun G1 H1 le i Q q =>
  ho G1 H1 le i _ fun x G2 H2 u2 p2 => hk G2 H2 (le.trans u2.g) u2.i _ fun y G3 H3 u3 p3 => by
    obtain ⟨p, kvs, rfl, h1, h2⟩ := rp_dic (p2.mono u3.g)
    rcases h2.val (k := k) with ⟨_, z⟩ | ⟨v, d', z1, z2, z3⟩
    · rw [hv] at z; cases z
    · rw [hv] at z2; cases z2
      refine ⟨p, v, rfl, .inl ⟨kvs, k, u3.i.rd h1, kD_kV p3, z1.symm⟩, q _ G3 H3 (u2.trans u3) z3⟩
theorem ev_din {es : List (Key × PyData)} {k : Key} (hk : Ev K tb σ G (kD k)) (ho : Ev K ta σ G (dD es)) : Ev K (tDIn tb ta) σ G (.bool (valK es k).isSome) := fun G1 H1 le i Q q =>
  hk G1 H1 le i _ fun y G2 H2 u2 p2 => ho G2 H2 (le.trans u2.g) u2.i _ fun x G3 H3 u3 p3 => by
    obtain ⟨p, kvs, rfl, h1, h2⟩ := rp_dic p3
    refine ⟨p, valV kvs k, rfl, .inl ⟨kvs, k, u3.i.rd h1, kD_kV p2, rfl⟩, ?_⟩
    have e : (valV kvs k).isSome = (valK es k).isSome := by
      rcases h2.val (k := k) with ⟨z1, z2⟩ | ⟨v, d', z1, z2, z3⟩ <;> rw [z1, z2] <;> rfl
    rw [e]
    exact q _ G3 H3 (u2.trans u3) (.bl _)
theorem ev_dget2 {es : List (Key × PyData)} {k : Key} (ho : Ev K ta σ G (dD es)) (hk : Ev K tb σ G (kD k)) (hx : Ev K tx σ G d) : Ev K (tDGet2 ta tb tx) σ G ((valK es k).getD d) := fun G1 H1 le i Q q =>
  ho G1 H1 le i _ fun x G2 H2 u2 p2 => by
    obtain ⟨p, kvs, rfl, h1, h2⟩ := rp_dic p2
    refine ⟨p, rfl, .inl ⟨kvs, u2.i.rd h1⟩, hk G2 H2 (le.trans u2.g) u2.i _ fun y G3 H3 u3 p3 => hx G3 H3 (le.trans (u2.g.trans u3.g)) u3.i _ fun z G4 H4 u4 p4 => ?_⟩
    refine ⟨valV kvs k, .inl ⟨kvs, k, u4.i.rd (u4.g _ _ (u3.g _ _ h1)), kD_kV p3, rfl⟩, q _ G4 H4 ((u2.trans u3).trans u4) ?_⟩
    rcases h2.val (k := k) with ⟨z1, z2⟩ | ⟨v, d', z1, z2, z3⟩
    · rw [z1, z2]; exact p4
    · rw [z1, z2]; exact z3.mono (u3.g.trans u4.g)
end
end Z

namespace Z
open PySem PySem.Spec PyProof.Rows L2
/-- the built-in names are free -/
structure Blt (mg : Str → Option Value) : Prop where
  z_abs : mg "abs" = none
  z_all : mg "all" = none
  z_any : mg "any" = none
  z_bool : mg "bool" = none
  z_dict : mg "dict" = none
  z_enumerate : mg "enumerate" = none
  z_int : mg "int" = none
  z_isinstance : mg "isinstance" = none
  z_len : mg "len" = none
  z_list : mg "list" = none
  z_max : mg "max" = none
  z_min : mg "min" = none
  z_range : mg "range" = none
  z_repr : mg "repr" = none
  z_set : mg "set" = none
  z_sorted : mg "sorted" = none
  z_str : mg "str" = none
  z_sum : mg "sum" = none
  z_tuple : mg "tuple" = none
  z_zip : mg "zip" = none
/-- the def x of the module keeps the promise sp -/
def FnIs (P : Program) (w : World) (K : PySem.W.Frag) (mg : Str → Option Value) (base : Heap) (k : Nat) (x : Str) (ps : List Str) (sp : Sp) : Prop :=
  ∃ f fd, FnOk P w K mg base (L2.CX P w) k f fd ps sp ∧ mg x = some (.ref f) ∧ PySem.W.keepIn K (.ref f) = true ∧ Binds K fd ps []
/-- an own error of a text -/
def ExcIs (K : PySem.W.Frag) (mg : Str → Option Value) (x : Str) (C : Addr) : Prop :=
  mg x = some (.ref C) ∧ PySem.W.excIn K C He.veBase "ValueError.__new__" = true ∧ PySem.W.keepIn K (.ref C) = true ∧ PySem.W.subIn K (.ref C) (.type "BaseException") = some true ∧ PySem.W.typeIn K (.ref C) = some (.type "type")
section
variable {X : Cx}
theorem pe_fn {k : Nat} {x : Str} {ps : List Str} {sp : Sp} {E : XK} {e : Expr} {es : List Expr} {t : TA} {p pos : Pos} (F : FnIs X.prog X.w X.K X.mg X.base k x ps sp) (hr : Room k X.A) (hg : Gl X x) (hx : Passes (L2.CX X.prog X.w) X E) (ha : PA X (e :: es) t) (hdb : (x == ("__debug__" : Str)) = false := by decide)
    (he : starEach (e :: es) X.env = (false, eval e X.env) :: starEach es X.env := by rfl) (hpl : (backTo pos (starEach es X.env)).any (·.1) = false := by rfl) :
    PE X (.Call (.Name x p) (e :: es) [] pos) (tCall sp [] E t) := by
  obtain ⟨f, fd, G, gm, kp, b⟩ := F
  exact pe_call G hr hg gm kp b .nil hx ha hdb he hpl
theorem pe_gstr {x z : Str} {pos : Pos} (hg : Gl X x) (h : ∃ t, X.mg x = some (.str z t)) (hd : (x == ("__debug__" : Str)) = false := by decide) : PE X (.Name x pos) (tC (.str z)) := by
  obtain ⟨t, h⟩ := h
  exact pe_glob hg h ⟨t, rfl⟩ hd
theorem pe_gint {x : Str} {z : Int} {pos : Pos} (hg : Gl X x) (h : ∃ t, X.mg x = some (.int z t)) (hd : (x == ("__debug__" : Str)) = false := by decide) : PE X (.Name x pos) (tC (.int z)) := by
  obtain ⟨t, h⟩ := h
  exact pe_glob hg h ⟨t, rfl⟩ hd
theorem pmk_exc {x m : Str} {j : Nat} {p p2 pos : Pos} {C : Addr} (h : ExcIs X.K X.mg x C) (hg : Gl X x) (hdb : (x == ("__debug__" : Str)) = false := by decide) : PMk X (.Call (.Name x p) [.Constant (.str m) j p2] [] pos) (fun _ H Q => Q (.ref C) none H) :=
  pmk_own PySem.F.excBase_ValueError h.2.1 h.1 h.2.2.1 (raises_own h.2.2.2.1 h.2.2.2.2) hg hdb
def tRaise (W : WX) (t : L2.St → Hp → XK → Prop) : TS := fun _ σ H => t σ H fun cls d H' => W cls d σ H'
end
end Z

namespace Z
open PySem PySem.Spec PyProof.Rows L2
section
variable {X : Cx}
def rInC : R2 := fun x y H Q => ∃ (c : Nat) (z : Str), x = .str ⟨#[c]⟩ ∧ y = .str z ∧ Q (.bl (decide (c ∈ z.cps.toList))) H
def rInS : R2 := fun x y H Q => ∃ i j, x = .str i ∧ y = .str j ∧ Q (.bl (!(Builtin.Str.occurrences j i 0 j.length 1).isEmpty)) H
def rLtS : R2 := fun x y H Q => ∃ i j, x = .str i ∧ y = .str j ∧ Q (.bl (decide (i.cps.toList < j.cps.toList))) H
def rLenDc : List V → Hp → VK → Prop := fun xs H Q => ∃ a kvs, xs = [V.ref a] ∧ Rd H a (.dK kvs) ∧ Q (.int kvs.length) H
theorem cr_lenD : CallR X (.builtin "len") rLenDc := by
  intro pins s σ H xs us Q I r h
  obtain ⟨a, kvs, rfl, ha, q⟩ := h
  obtain ⟨u, rfl, ru⟩ := vals1 r
  cases ru
  exact d_len I ha fun t s' I' => ⟨.int kvs.length, H, I', ⟨t, rfl⟩, q⟩
def rSortDk : List V → Hp → VK → Prop := fun xs H Q => ∃ (a : Addr) (kvs : List (Key × V)) (ks : List Str), xs = [.ref a] ∧ Rd H a (.dK kvs) ∧ kvs.map (·.1) = ks.map Sum.inr ∧ ks.length < 64 ∧
    ∀ ys p, ys.Perm ks → sortedS ys = true → H p = none → Q (.ref p) (upd H p (.lst (ys.map V.str)))
/-- list(text) -/
def rListS : List V → Hp → VK → Prop := fun xs H Q => ∃ z : Str, xs = [.str z] ∧ z.length ≤ sizeLine ∧ ∀ p, H p = none → Q (.ref p) (upd H p (.lst (z.cps.toList.map fun c => V.str ⟨#[c]⟩)))
theorem cr_listS (hc : X.calm = true) : CallR X (.type "list") rListS := by
  intro pins s σ H xs us Q I r h
  obtain ⟨z, rfl, hz, q⟩ := h
  obtain ⟨u, rfl, t, rfl⟩ := vals1 r
  refine call_list_str (I.ok.hd hc) z t (fun h' tk acc' c' hk hS hacc => ?_) hz
  obtain ⟨hsz, hat⟩ := hacc
  refine ⟨.ref _, upd H s.heap.objs.size (.lst (z.cps.toList.map fun c => V.str ⟨#[c]⟩)), I.laid (t' := tk) hk (Nat.le_refl _) ⟨by rw [List.length_map, Array.length_toList]; exact hz, acc'.toList, c', ?_, by simpa using hS⟩, rfl, q _ (I.hok.fresh (Nat.le_refl _))⟩
  refine vals_of_at (by simp [hsz]) fun j x u hx hu => ?_
  rw [List.getElem?_map] at hx
  cases hc' : z.cps.toList[j]? with
  | none => rw [hc'] at hx; cases hx
  | some c =>
    rw [hc'] at hx
    cases hx
    have hu' : acc'[j]? = some u := by simpa using hu
    obtain ⟨c2, t2, e1, e2⟩ := hat j u hu'
    have e1' : z.cps.toList[j]? = some c2 := by simpa using e1
    rw [hc'] at e1'
    cases e1'
    exact ⟨t2, e2⟩
end
section
variable {K : PySem.W.Frag} {σ : L2.St} {G H : Hp} {ta tb te tx : TE} {a b d : PyData} {tt : TT} {D : Ends}
theorem opv_inC {c : Nat} {l : List Nat} : OpV K rInC (.str (S [c])) (.str (S l)) (.bool (decide (c ∈ l))) := fun G H x y hi px py Q q => by
  rw [rp_str px, rp_str py]
  refine ⟨c, S l, rfl, rfl, ?_⟩
  rw [S_cps]
  exact q _ G H (Up.refl hi) (.bl _)
theorem opv_ltS {a b : List Nat} : OpV K rLtS (.str (S a)) (.str (S b)) (.bool (decide (a < b))) := fun G H x y hi px py Q q => by
  rw [rp_str px, rp_str py]
  refine ⟨S a, S b, rfl, rfl, ?_⟩
  have : decide ((S a).cps.toList < (S b).cps.toList) = decide (a < b) := by simp only [S_cps]
  rw [this]
  exact q _ G H (Up.refl hi) (.bl _)
theorem cav_lenD {es : List (Key × PyData)} : CaV K rLenDc [dD es] (.int (es.length : Int)) := fun G H vs hi pv Q q => by
  obtain ⟨v, ws, rfl, p1, p2⟩ := rpa_cons pv
  rw [rpa_nil p2]
  obtain ⟨p, kvs, rfl, h1, h2⟩ := rp_dic p1
  refine ⟨p, kvs, rfl, hi.rd h1, ?_⟩
  rw [h2.len]
  exact q _ G H (Up.refl hi) (.int _)
theorem cav_listS {l : List Nat} (h : l.length ≤ 1000000) : CaV K rListS [.str (S l)] (.list (l.map fun c => .str (S [c]))) := fun G H vs hi pv Q q => by
  obtain ⟨v, ws, rfl, p1, p2⟩ := rpa_cons pv
  rw [rpa_nil p2, rp_str p1]
  refine ⟨S l, rfl, by rw [S_len]; exact Nat.le_trans h (by decide), fun p hp => ?_⟩
  rw [S_cps]
  have u := Up.new (o := .lst (l.map fun c => V.str ⟨#[c]⟩)) hi hp
  refine q _ _ _ u (.lst upd_same ?_)
  have e1 : (l.map fun c => V.str ⟨#[c]⟩) = (l.map fun c => S [c]).map V.str := by rw [List.map_map]; rfl
  have e2 : (l.map fun c => PyData.str (S [c])) = (l.map fun c => S [c]).map .str := by rw [List.map_map]; rfl
  rw [e1, e2]
  exact strs_rpa _
/-- a written text -/
theorem ev_lit {z : Str} {l : List Nat} (h : z = S l) : Ev K (tC (.str z)) σ G (.str (S l)) := by
  rw [h]; exact ev_str
/-! ### statements -/
theorem EvP.at {P : Hp → V → Prop} (h : EvP te σ G P) (hi : In G H) {Q : VK} (k : ∀ v G2 H2, Up G H G2 H2 → P G2 v → Q v H2) : te σ H Q := h G H (Le.refl _) hi Q k
theorem s_set {i : Nat} (h : Ev K te σ G d) (hi : In G H) (k : ∀ v G2 H2, Up G H G2 H2 → Rp K G2 v d → D.nx (σ.set i (some v)) H2) : tAsg te (gName i) D σ H := h G H (Le.refl _) hi _ k
theorem s_ret (h : Ev K te σ G d) (hi : In G H) (k : Ret K G H D.rt d) : tRet te D σ H := h G H (Le.refl _) hi _ k
theorem s_drop (h : Ev K te σ G d) (hi : In G H) (k : ∀ v G2 H2, Up G H G2 H2 → Rp K G2 v d → D.nx σ H2) : tDrop te D σ H := h G H (Le.refl _) hi _ k
theorem s_if {t u : TS} {k : Bool} (h : EvT tt σ G k) (hi : In G H) (ht : k = true → ∀ G2 H2, Up G H G2 H2 → t D σ H2) (hf : k = false → ∀ G2 H2, Up G H G2 H2 → u D σ H2) : tIfS tt t u D σ H := h G H (Le.refl _) hi _ fun G2 H2 u2 => by
  cases k with
  | true => exact ht rfl G2 H2 u2
  | false => exact hf rfl G2 H2 u2
/-- a for: I by the turn, the slots, what is looked at and the heap -/
theorem s_for {wi : TI} {g : TG} {tb : TS} {ds : List PyData} (hi : EvI K wi σ G ds) (hin : In G H)
    (k : ∀ G0 H0, Up G H G0 H0 → ∃ I : Nat → L2.St → Hp → Hp → Prop, I 0 σ G0 H0 ∧ (∀ i σ1 G1 H1, I i σ1 G1 H1 → Le G0 G1 ∧ In G1 H1) ∧
      (∀ (i : Nat) d x σ1 G1 H1 G2 H2, ds[i]? = some d → I i σ1 G1 H1 → Up G1 H1 G2 H2 → Rp K G2 x d → g x σ1 H2 fun σ2 H3 => tb { D with nx := fun σ3 H4 => ∃ G4, I (i + 1) σ3 G4 H4, ct := fun σ3 H4 => ∃ G4, I (i + 1) σ3 G4 H4, bk := D.nx } σ2 H3) ∧
      ∀ σ1 G1 H1, I ds.length σ1 G1 H1 → D.nx σ1 H1) : tFor wi g tb D σ H := hi G H (Le.refl _) hin _ fun J G2 H2 u2 w => by
  obtain ⟨I, h0, hG, hs, hd⟩ := k G2 H2 u2
  refine ⟨fun i m σ1 H1 => m = ds.length - i ∧ i ≤ ds.length ∧ ∃ G1, I i σ1 G1 H1, ⟨ds.length, by simp, Nat.zero_le _, G2, h0⟩, ?_⟩
  rintro i m σ1 H1 ⟨rfl, hle, G1, hI⟩
  obtain ⟨l1, i1⟩ := hG _ _ _ _ hI
  obtain ⟨wstop, wgo⟩ := w G1 H1 l1 i1
  by_cases hlt : i < ds.length
  · obtain ⟨go, yl⟩ := wgo i ds[i] (List.getElem?_eq_getElem hlt)
    refine .inr ⟨go, fun σ3 H4 => ∃ G4, I (i + 1) σ3 G4 H4, fun σ' H' x => ⟨ds.length - (i + 1), by omega, rfl, hlt, x⟩, fun x H3 y => ?_⟩
    obtain ⟨G3, u3, r3⟩ := yl x H3 y
    exact hs i ds[i] x σ1 G1 H1 G3 H3 (List.getElem?_eq_getElem hlt) hI u3 r3
  · have e : i = ds.length := by omega
    subst e
    exact .inl ⟨wstop, hd σ1 G1 H1 hI⟩
end
end Z

namespace Z
open PySem PySem.Spec PyProof.Rows L2
section
variable {X : Cx}
/-- name = {k: v for ..}, the name a local on the comprehension's line -/
theorem ps_setDc {i : Nat} {y : Str} {py pos spos : Pos} {kx vx tg iter : Expr} {ifs : List Expr} {scope : Scope} {own : List (Str × Nat)} {wi : TI} {g : TG} {tt : TT} {tk tv : TE} (hc : X.calm = true) (hN : X.N.Nodup) (hy : X.N[i]? = some y) (hyl : X.env.scope.names.lookup y = some .local)
    (hsw : swapsWith (.DictComp kx vx [⟨tg, iter, ifs, 0⟩] scope pos) (some (.Name y py)) spos.line X.env = pure true) (hi : PI X tg iter wi) (ok : BlkOk X.N X.env.scope scope own)
    (hg : ∀ (s : Shared) (H : Hp) (C : Addr) (cl : List (Str × Addr)) (fp : List Addr), PG (X.blk s H scope (compEnvC scope cl C X.env) fp) tg g)
    (ht : ∀ (s : Shared) (H : Hp) (C : Addr) (cl : List (Str × Addr)) (fp : List Addr), PTs (X.blk s H scope (compEnvC scope cl C X.env) fp) ifs tt)
    (hk : ∀ (s : Shared) (H : Hp) (C : Addr) (cl : List (Str × Addr)) (fp : List Addr), PE (X.blk s H scope (compEnvC scope cl C X.env) fp) kx tk)
    (he : ∀ (s : Shared) (H : Hp) (C : Addr) (cl : List (Str × Addr)) (fp : List Addr), PE (X.blk s H scope (compEnvC scope cl C X.env) fp) vx tv)
    (hs : ∀ x, foldedSetIterable iter X.env x = pure x := by intro _; rfl) :
    PS X (.Assign [.Name y py] (.DictComp kx vx [⟨tg, iter, ifs, 0⟩] scope pos) spos) (tAsg (tDc wi g tt tk tv (own.map (·.2))) (gName i)) := by
  constructor
  intro pins s σ H D J hQ
  have hQ2 : tDc wi g tt tk tv (own.map (·.2)) σ H (fun x H1 => gName i x σ H1 D.nx) := hQ
  rw [exec_Assign_Name_used _ _ _ _ hsw]
  apply wpAny_bind; apply wpAny_standAt; apply wpAny_bind
  show wpAny _ X.A (do let _ ← comprehension (.DictComp kx vx [⟨tg, iter, ifs, 0⟩] scope pos) scope X.env (firstIterPos [⟨tg, iter, ifs, 0⟩] pos) newDict false (eval iter X.env) (some (assign (.Name y py) X.env))) _ _ s
  apply wpAny_bind
  refine thn (dc_core (Qf := fun _ z => SP X pins D .next z) hc hN J hi ok hg ht hk he hs hQ2 ?_) (fun _ z hz => wpAny_pure (wpAny_pure hz))
  intro B C z m H2 J2 q hn fp
  show wpAny _ _ (assign (.Name y py) X.env (.ref B)) _ _ _
  refine wpAny_assign_Name (store_ok2 (v := V.ref B) J2 hN hy (.inl hyl) rfl ?_ (.inr hyl))
  rintro z2 J3 ⟨a, sb, ha⟩
  have hne : C ≠ a := by
    rcases ha with e | e
    · rw [e]; exact fp.2.1
    · intro e2; exact fp.2.2.2.2.1 y a e e2.symm
  exact ⟨m, hn.sameBut sb hne, fun h3 sb3 => ⟨_, H2, J3.turned (t' := z2.toks) (fun b o hb e => (sb3.2 b hb).trans e) fp.1 fp.2.1 fp.2.2.2.1 fp.2.2.2.2.1 fp.2.2.2.2.2, q⟩⟩
theorem sw_dict {kx vx : Expr} {gs : List Comprehension} {scope : Scope} {pos py : Pos} {y : Str} {l : Nat} {env : Env} (hk : env.scope.kind = .function) (hy : env.scope.names.lookup y = some .local) (hl : (py.line == pos.line) = true)
    (ha : (scope.names.any fun (n, k) => n == y && (k == .local || k == .cell)) = false) : swapsWith (.DictComp kx vx gs scope pos) (some (.Name y py)) l env = pure true := by
  have e1 : env.kindOf y = some .local := hy
  have e2 : env.blockKind = .function := by unfold Env.blockKind; rw [hk] <;> rfl
  simp only [swapsWith, e1, e2, ha, hl, Expr.pos]
  rfl
end
section
variable {K : PySem.W.Frag} {σ : L2.St} {G : Hp} {tt : TT} {tk tv : TE} {wi : TI} {g : TG}
def putE {α : Type} (es : List (Key × α)) (k : Key) (v : α) : List (Key × α) :=
  if es.any (fun e => decide (e.1 = k)) then es.map (fun e => if e.1 = k then (e.1, v) else e) else es ++ [(k, v)]
def mrgE {α : Type} (es : List (Key × α)) : List (Key × α) := es.foldl (fun acc e => putE acc e.1 e.2) []
theorem putK_putE (kvs : List (Key × V)) (k : Key) (v : V) : putK kvs k v = putE kvs k v := by
  unfold putK putE
  congr 1
theorem rpe_map {k : Key} {v : V} {d : PyData} (p : Rp K G v d) : ∀ {kvs : List (Key × V)} {es : List (Key × PyData)}, RpE K G kvs es → RpE K G (kvs.map fun e => if e.1 = k then (e.1, v) else e) (es.map fun e => if e.1 = k then (e.1, d) else e)
  | _, _, .nil => .nil
  | (k', _) :: _, _, .cons h a => by
    simp only [List.map_cons]
    by_cases e : k' = k
    · rw [if_pos e, if_pos e]; exact .cons p (rpe_map p a)
    · rw [if_neg e, if_neg e]; exact .cons h (rpe_map p a)
theorem rpe_snoc {k : Key} {v : V} {d : PyData} (p : Rp K G v d) : ∀ {kvs : List (Key × V)} {es : List (Key × PyData)}, RpE K G kvs es → RpE K G (kvs ++ [(k, v)]) (es ++ [(k, d)])
  | _, _, .nil => .cons p .nil
  | _, _, .cons h a => .cons h (rpe_snoc p a)
theorem rpe_any {k : Key} : ∀ {kvs : List (Key × V)} {es : List (Key × PyData)}, RpE K G kvs es → kvs.any (fun e => decide (e.1 = k)) = es.any (fun e => decide (e.1 = k))
  | _, _, .nil => rfl
  | _, _, .cons _ a => by simp only [List.any_cons]; rw [rpe_any a]
theorem RpE.put {k : Key} {v : V} {d : PyData} {kvs : List (Key × V)} {es : List (Key × PyData)} (r : RpE K G kvs es) (p : Rp K G v d) : RpE K G (putK kvs k v) (putE es k d) := by
  rw [putK_putE]
  unfold putE
  rw [rpe_any r]
  split
  · exact rpe_map p r
  · exact rpe_snoc p r
theorem putE_len {α : Type} (es : List (Key × α)) (k : Key) (v : α) : (putE es k v).length ≤ es.length + 1 := by
  unfold putE
  split <;> simp
theorem mrg_len {α : Type} : ∀ (es acc : List (Key × α)), (es.foldl (fun acc e => putE acc e.1 e.2) acc).length ≤ acc.length + es.length
  | [], acc => by simp
  | e :: es, acc => by
    rw [List.foldl_cons]
    have h1 := mrg_len es (putE acc e.1 e.2)
    have h2 := putE_len acc e.1 e.2
    rw [List.length_cons]
    omega
/-- a dict comprehension -/
theorem ev_dc {α : Type} {D : α → PyData} {xs : List α} {p : α → Bool} {κ : α → Key} {f : α → PyData} {vs : List Nat} {B : α → L2.St → Hp → Prop} (hi : EvI K wi σ G (xs.map D)) (hb : ∀ z ∈ xs, Bnd K g (wipe σ vs) (D z) (B z))
    (hw : ∀ z ∈ xs, ∀ σ2 G, B z σ2 G → wipe σ2 vs = wipe σ vs)
    (ht : ∀ z ∈ xs, ∀ G1 σ2, Le G G1 → B z σ2 G1 → EvT tt σ2 G1 (p z)) (hk : ∀ z ∈ xs, p z = true → ∀ G1 σ2, Le G G1 → B z σ2 G1 → Ev K tk σ2 G1 (kD (κ z))) (he : ∀ z ∈ xs, p z = true → ∀ G1 σ2, Le G G1 → B z σ2 G1 → Ev K tv σ2 G1 (f z))
    (hBm : ∀ z σ2 G1 G2, Le G1 G2 → B z σ2 G1 → B z σ2 G2) (hl : xs.length ≤ 100000) : Ev K (tDc wi g tt tk tv vs) σ G (dD (mrgE ((xs.filter p).map fun z => (κ z, f z)))) := fun G1 H1 l i Q q => hi G1 H1 l i _ fun J G2 H2 u2 w => by
  intro D' hD
  have rm : ∀ {Ga Ha : Hp}, Up G2 H2 Ga Ha → True := fun _ => trivial
  refine ⟨fun i m H => m = xs.length - i ∧ i ≤ xs.length ∧ ∃ G3, G3 D' = none ∧ Up G2 H2 G3 (fun b => if b = D' then none else H b) ∧ In G3 H ∧ ∃ acc, H D' = some (.dK acc) ∧ RpE K G3 acc (mrgE (((xs.take i).filter p).map fun z => (κ z, f z))), ⟨xs.length, by simp, Nat.zero_le _, G2, u2.i.no hD, ?_, ?_, [], upd_same, .nil⟩, ?_⟩
  · refine ⟨Le.refl _, fun b o e => ?_, fun b o e => ?_, fun _ _ e => .inl e⟩
    · have ne : b ≠ D' := fun z => by subst z; rw [u2.i.no hD] at e; cases e
      simp only [if_neg ne, upd_ne ne]
      exact u2.i b o e
    · have ne : b ≠ D' := fun z => by subst z; rw [hD] at e; cases e
      simp only [if_neg ne, upd_ne ne]
      exact e
  · exact u2.i.mut (u2.i.no hD)
  · rintro j m H ⟨rfl, hj, G3, hG3, u3, i3, acc, hacc, racc⟩
    obtain ⟨wstop, wgo⟩ := w G3 H u3.g i3
    have grow : ∀ {Ga Ha Gb Hb : Hp}, Up G2 H2 Ga (fun b => if b = D' then none else Ha b) → Ga D' = none → Up Ga Ha Gb Hb → Gb D' = none → Up G2 H2 Gb (fun b => if b = D' then none else Hb b) := fun {Ga Ha Gb Hb} ua na ub nb => by
      refine ⟨ua.g.trans ub.g, fun b o e => ?_, fun b o e => ?_, fun b o e => ?_⟩
      · have ne : b ≠ D' := fun z => by subst z; rw [nb] at e; cases e
        simp only [if_neg ne]
        exact ub.i b o e
      · have h1 := ua.h b o e
        have ne : b ≠ D' := fun z => by subst z; rw [hD] at e; cases e
        simp only [if_neg ne] at h1 ⊢
        exact ub.h b o h1
      · have ne : b ≠ D' := fun z => by subst z; rw [nb] at e; cases e
        rcases ub.n b o e with q | q
        · exact ua.n b o q
        · refine .inr ?_
          cases h2 : H2 b with
          | none => rfl
          | some o2 =>
            have h1 := ua.h b o2 h2
            simp only [if_neg ne, q] at h1
            cases h1
    by_cases hlt : j < xs.length
    · have hz : xs[j]? = some xs[j] := List.getElem?_eq_getElem hlt
      have hm : xs[j] ∈ xs := List.getElem_mem hlt
      obtain ⟨go, yl⟩ := wgo j (D xs[j]) (by rw [List.getElem?_map, hz]; rfl)
      refine .inr ⟨go, fun H' => j + 1 ≤ xs.length ∧ ∃ G3, G3 D' = none ∧ Up G2 H2 G3 (fun b => if b = D' then none else H' b) ∧ In G3 H' ∧ ∃ acc, H' D' = some (.dK acc) ∧ RpE K G3 acc (mrgE (((xs.take (j + 1)).filter p).map fun z => (κ z, f z))), fun H' x => ⟨xs.length - (j + 1), by omega, rfl, x.1, x.2⟩, fun x H4 y => ?_⟩
      obtain ⟨G4, u4, r4⟩ := yl x H4 y
      have hD4 : H4 D' = some (.dK acc) := u4.h _ _ hacc
      have hG4 : G4 D' = none := u4.hide (by rw [hacc]; intro z; cases z) hG3
      have u24 := grow u3 hG3 u4 hG4
      have l4 : Le G G4 := l.trans (u2.g.trans u24.g)
      refine hb _ hm G4 H4 x u4.i r4 _ fun σ2 b2 => ⟨hw _ hm σ2 G4 b2, ?_⟩
      refine ht _ hm G4 σ2 l4 b2 G4 H4 (Le.refl _) u4.i _ fun G5 H5 u5 => ?_
      have hD5 := u5.h _ _ hD4
      have hG5 : G5 D' = none := u5.hide (by rw [hD4]; intro z; cases z) hG4
      have u25 := grow u24 hG4 u5 hG5
      have tke : (xs.take (j + 1)).filter p = (xs.take j).filter p ++ [xs[j]].filter p := by
        rw [List.take_succ_eq_append_getElem hlt, List.filter_append]
      cases hp : p xs[j] with
      | false =>
        show _ ∧ _
        refine ⟨hlt, G5, hG5, u25, u5.i, acc, hD5, ?_⟩
        rw [tke]
        have : [xs[j]].filter p = [] := by simp [hp]
        rw [this, List.append_nil]
        exact racc.mono (u4.g.trans u5.g)
      | true =>
        show tk σ2 H5 _
        refine hk _ hm hp G5 σ2 (l4.trans u5.g) (hBm _ _ _ _ u5.g b2) G5 H5 (Le.refl _) u5.i _ fun y G6 H6 u6 r6 => ?_
        have hD6 := u6.h _ _ hD5
        have hG6 : G6 D' = none := u6.hide (by rw [hD5]; intro z; cases z) hG5
        have u26 := grow u25 hG5 u6 hG6
        refine he _ hm hp G6 σ2 (l4.trans (u5.g.trans u6.g)) (hBm _ _ _ _ (u5.g.trans u6.g) b2) G6 H6 (Le.refl _) u6.i _ fun y2 G7 H7 u7 r7 => ?_
        have hD7 := u7.h _ _ hD6
        have hG7 : G7 D' = none := u7.hide (by rw [hD6]; intro z; cases z) hG6
        have u27 := grow u26 hG6 u7 hG7
        have hlen : acc.length ≤ xs.length := by
          rw [racc.len]
          have h1 := mrg_len (((xs.take j).filter p).map fun z => (κ z, f z)) []
          have h2 : ((xs.take j).filter p).length ≤ xs.length := Nat.le_trans (List.length_filter_le _ _) (by rw [List.length_take]; omega)
          rw [List.length_map] at h1
          simp only [List.length_nil, Nat.zero_add] at h1
          exact Nat.le_trans h1 h2
        refine ⟨acc, κ xs[j], kD_kV r6, hD7, Nat.lt_of_le_of_lt (Nat.le_trans hlen hl) (by decide), hlt, G7, hG7, ?_, u7.i.mut hG7, putK acc (κ xs[j]) y2, upd_same, ?_⟩
        · refine ⟨u27.g, fun b o e => ?_, fun b o e => ?_, u27.n⟩
          · have ne : b ≠ D' := fun z => by subst z; rw [hG7] at e; cases e
            have := u27.i b o e
            simp only [if_neg ne, upd_ne ne] at this ⊢
            exact this
          · have ne : b ≠ D' := fun z => by subst z; rw [hD] at e; cases e
            have := u27.h b o e
            simp only [if_neg ne, upd_ne ne] at this ⊢
            exact this
        · rw [tke]
          have : [xs[j]].filter p = [xs[j]] := by simp [hp]
          rw [this, List.map_append]
          have e3 : mrgE (((xs.take j).filter p).map (fun z => (κ z, f z)) ++ [xs[j]].map (fun z => (κ z, f z))) = putE (mrgE (((xs.take j).filter p).map fun z => (κ z, f z))) (κ xs[j]) (f xs[j]) := by
            unfold mrgE
            rw [List.foldl_append]
            rfl
          rw [e3]
          exact (racc.mono (((u4.g.trans u5.g).trans u6.g).trans u7.g)).put r7
    · have e : j = xs.length := by omega
      subst e
      refine .inl ⟨by simpa using wstop, ?_⟩
      rw [List.take_length] at racc
      have hnn : ∀ b o, G3 b = some o → b ≠ D' := fun b o e z => by subst z; rw [hG3] at e; cases e
      have uf : Up G1 H1 (upd G3 D' (.dK acc)) H := by
        refine ⟨fun b o e => ?_, fun b o e => ?_, fun b o e => ?_, fun b o e => ?_⟩
        · have e3 := u3.g _ _ (u2.g _ _ e)
          rw [upd_ne (hnn b o e3)]; exact e3
        · by_cases hb : b = D'
          · subst hb; rw [upd_same] at e; cases e; exact .inl hacc
          · rw [upd_ne hb] at e; exact i3 b o e
        · have h2 := u2.h b o e
          have ne : b ≠ D' := fun z => by subst z; rw [hD] at h2; cases h2
          have := u3.h b o h2
          simp only [if_neg ne] at this
          exact this
        · by_cases hb : b = D'
          · subst hb; exact .inr (u2.h.no hD)
          · rw [upd_ne hb] at e
            rcases u3.n b o e with z | z
            · exact u2.n b o z
            · exact .inr (u2.h.no z)
      refine q _ _ _ uf (.dic upd_same (rpe_to (racc.mono fun b o e => ?_)))
      rw [upd_ne (hnn b o e)]; exact e
end
end Z

namespace Z
open PySem PySem.Spec PyProof.Rows L2
section
variable {X : Cx}
/-- two dicts that hold the same plain values -/
def DicEq (H : Hp) (x y : V) : Prop := ∃ a b ks ls, x = .ref a ∧ y = .ref b ∧ Rd H a (.dK ks) ∧ Rd H b (.dK ls) ∧ ks.length = ls.length ∧ ∀ p ∈ ks, valV ls p.1 = some p.2 ∧ flatB p.2 = true
def rEqDic : R2 := fun x y H Q => DicEq H x y ∧ Q (.bl true) H
def rNeDic : R2 := fun x y H Q => DicEq H x y ∧ Q (.bl false) H
theorem op_eqDic (hu : X.A.units + 1 < cLine) : OpR X (compareOp .Eq) rEqDic := fun pins s σ H x y v u Q I rx ry ⟨⟨a, b, ks, ls, ex, ey, ea, eb, hlen, hp⟩, q⟩ => by
  subst ex ey
  cases rx; cases ry
  obtain ⟨_, na, va, ra, da⟩ := ea.ok I.hok
  obtain ⟨_, nb, vb, rb, db⟩ := eb.ok I.hok
  have hl : va.length = vb.length := by rw [← ra.length, ← rb.length, hlen]
  exact PySem.W.keq_eq (knd := mixKind X.prog X.w) (r := true) na nb da db (Nat.lt_of_succ_lt hu) (fun _ => hits_all rb ra hp) (fin_bl I q (by simp [hl]))
theorem op_neDic (hu : X.A.units + 1 < cLine) : OpR X (compareOp .NotEq) rNeDic := fun pins s σ H x y v u Q I rx ry ⟨⟨a, b, ks, ls, ex, ey, ea, eb, hlen, hp⟩, q⟩ => by
  subst ex ey
  cases rx; cases ry
  obtain ⟨_, na, va, ra, da⟩ := ea.ok I.hok
  obtain ⟨_, nb, vb, rb, db⟩ := eb.ok I.hok
  have hl : va.length = vb.length := by rw [← ra.length, ← rb.length, hlen]
  exact PySem.W.keq_ne (knd := mixKind X.prog X.w) (r := true) na nb da db (Nat.lt_of_succ_lt hu) (fun _ => hits_all rb ra hp) (fin_bl I q (by simp [hl]))
end
section
variable {K : PySem.W.Frag} {σ : L2.St} {G H : Hp}
theorem RpE.mem : ∀ {kvs : List (Key × V)} {es : List (Key × PyData)} {k : Key} {v : V}, RpE K G kvs es → (k, v) ∈ kvs → ∃ d, (k, d) ∈ es ∧ Rp K G v d
  | _, _, _, _, .nil, h => by cases h
  | _, _, _, _, .cons p a, h => by
    rcases List.mem_cons.mp h with e | e
    · cases e; exact ⟨_, List.mem_cons_self, p⟩
    · obtain ⟨d, h1, h2⟩ := RpE.mem a e
      exact ⟨d, List.mem_cons_of_mem _ h1, h2⟩
def flatD : PyData → Bool
  | .int _ => true
  | .str _ => true
  | .bool _ => true
  | .none => true
  | _ => false
theorem flat_same {v w : V} {d : PyData} (hf : flatD d = true) (h1 : Rp K G v d) (h2 : Rp K G w d) : v = w ∧ flatB v = true := by
  cases h1 <;> first
    | (cases h2; exact ⟨rfl, rfl⟩)
    | (exact absurd hf (by simp [flatD]))
/-- es and fs are one dict -/
def sameE (es fs : List (Key × PyData)) : Bool := decide (es.length = fs.length) && es.all fun e => flatD e.2 && (match valK fs e.1 with | some d => PyData.eqv d e.2 && PyData.eqv e.2 d | none => false)
theorem dicEq_of {x y : V} {es fs : List (Key × PyData)} (hi : In G H) (px : Rp K G x (dD es)) (py : Rp K G y (dD fs)) (hl : es.length = fs.length) (hs : ∀ k d, (k, d) ∈ es → valK fs k = some d ∧ flatD d = true) : DicEq H x y := by
  obtain ⟨a, ks, rfl, h1, h2⟩ := rp_dic px
  obtain ⟨b, ls, rfl, h3, h4⟩ := rp_dic py
  refine ⟨a, b, ks, ls, rfl, rfl, hi.rd h1, hi.rd h3, by rw [h2.len, h4.len, hl], fun p hp => ?_⟩
  obtain ⟨k, v⟩ := p
  obtain ⟨d, hd, pd⟩ := h2.mem hp
  obtain ⟨e1, e2⟩ := hs k d hd
  rcases h4.val (k := k) with ⟨_, z⟩ | ⟨w, d', z1, z2, z3⟩
  · rw [e1] at z; cases z
  · rw [e1] at z2; cases z2
    obtain ⟨e3, e4⟩ := flat_same e2 pd z3
    exact ⟨by rw [z1, e3], e4⟩
theorem opv_neDic {es fs : List (Key × PyData)} (hl : es.length = fs.length) (hs : ∀ k d, (k, d) ∈ es → valK fs k = some d ∧ flatD d = true) : OpV K rNeDic (dD es) (dD fs) (.bool false) := fun G H x y hi px py Q q =>
  ⟨dicEq_of hi px py hl hs, q _ G H (Up.refl hi) (.bl _)⟩
theorem opv_eqDic {es fs : List (Key × PyData)} (hl : es.length = fs.length) (hs : ∀ k d, (k, d) ∈ es → valK fs k = some d ∧ flatD d = true) : OpV K rEqDic (dD es) (dD fs) (.bool true) := fun G H x y hi px py Q q =>
  ⟨dicEq_of hi px py hl hs, q _ G H (Up.refl hi) (.bl _)⟩
end
end Z

namespace Z
open PySem PySem.Spec PyProof.Rows L2
/-! ### typed data -/
abbrev W := List Nat
@[reducible] def dI (i : Int) : PyData := .int i
@[reducible] def dS (l : W) : PyData := .str (S l)
@[reducible] def dC (c : Nat) : PyData := .str (S [c])
@[reducible] def dB (b : Bool) : PyData := .bool b
@[reducible] def dL {α : Type} (D : α → PyData) (xs : List α) : PyData := .list (xs.map D)
@[reducible] def dP {α β : Type} (D : α → PyData) (E : β → PyData) (p : α × β) : PyData := .tuple [D p.1, E p.2]
@[reducible] def dM {α : Type} (D : α → PyData) (es : List (Key × α)) : PyData := dD (es.map fun e => (e.1, D e.2))
section
variable {K : PySem.W.Frag} {σ : L2.St} {G H : Hp} {ta tb te : TE} {tt : TT} {wi : TI} {D' : Ends}
theorem opv_eqI {i j : Int} : OpV K rEq (.int i) (.int j) (.bool (decide (i = j))) := opv_eq rfl
theorem opv_neI {i j : Int} : OpV K rNe (.int i) (.int j) (.bool (!decide (i = j))) := opv_ne rfl
theorem opv_eqS {a b : W} : OpV K rEq (dS a) (dS b) (.bool (decide (a = b))) := by
  have h := opv_eq (K := K) (a := dS a) (b := dS b) rfl
  rw [eqS_str] at h
  exact h
theorem opv_neS {a b : W} : OpV K rNe (dS a) (dS b) (.bool (!decide (a = b))) := by
  have h := opv_ne (K := K) (a := dS a) (b := dS b) rfl
  rw [eqS_str] at h
  exact h
theorem opv_eqB {i j : Bool} : OpV K rEq (.bool i) (.bool j) (.bool (decide (i = j))) := opv_eq rfl
theorem opv_neB {i j : Bool} : OpV K rNe (.bool i) (.bool j) (.bool (!decide (i = j))) := opv_ne rfl
/-- one name, no test -/
theorem ev_lcM {α β : Type} {D : α → PyData} {DE : β → PyData} {xs : List α} {M : α → β} {k : Nat} (hi : EvI K wi σ G (xs.map D)) (he : ∀ z ∈ xs, ∀ G1 x, Le G G1 → Rp K G1 x (D z) → Ev K te (σ.set k (some x)) G1 (DE (M z))) (hl : xs.length ≤ 100000) :
    Ev K (tLc wi (gName k) tYes te [k]) σ G (dL DE (xs.map M)) := by
  have h := ev_lc (K := K) (σ := σ) (G := G) (te := te) (tt := tYes) (g := gName k) (vs := [k]) (p := fun _ => true) (f := fun z => DE (M z)) (B := fun z σ2 G => ∃ x, σ2 = (wipe σ [k]).set k (some x) ∧ Rp K G x (D z)) hi (fun z _ => bnd_name) (fun z _ σ2 G ⟨x, e, _⟩ => by subst e; exact wipe1)
    (fun z hz G1 σ2 l _ G3 H3 l3 i3 Q q => q G3 H3 (Up.refl i3)) (fun z hz _ G1 σ2 l ⟨x, e, hx⟩ => by subst e; rw [wipe1s]; exact he z hz G1 x l hx) (fun z σ2 G1 G2 l ⟨x, e, hx⟩ => ⟨x, e, hx.mono l⟩) hl
  have e : (xs.filter fun _ => true).map (fun z => DE (M z)) = (xs.map M).map DE := by
    rw [List.map_map, List.filter_eq_self.mpr (fun _ _ => rfl)]; rfl
  rw [e] at h
  exact h
/-- one name, one test -/
theorem ev_lcF {α β : Type} {D : α → PyData} {DE : β → PyData} {xs : List α} {p : α → Bool} {M : α → β} {k : Nat} (hi : EvI K wi σ G (xs.map D)) (ht : ∀ z ∈ xs, ∀ G1 x, Le G G1 → Rp K G1 x (D z) → EvT tt (σ.set k (some x)) G1 (p z)) (he : ∀ z ∈ xs, p z = true → ∀ G1 x, Le G G1 → Rp K G1 x (D z) → Ev K te (σ.set k (some x)) G1 (DE (M z))) (hl : xs.length ≤ 100000) :
    Ev K (tLc wi (gName k) tt te [k]) σ G (dL DE ((xs.filter p).map M)) := by
  have h := ev_lc (K := K) (σ := σ) (G := G) (te := te) (tt := tt) (g := gName k) (vs := [k]) (p := p) (f := fun z => DE (M z)) (B := fun z σ2 G => ∃ x, σ2 = (wipe σ [k]).set k (some x) ∧ Rp K G x (D z)) hi (fun z _ => bnd_name) (fun z _ σ2 G ⟨x, e, _⟩ => by subst e; exact wipe1)
    (fun z hz G1 σ2 l ⟨x, e, hx⟩ => by subst e; rw [wipe1s]; exact ht z hz G1 x l hx) (fun z hz hp G1 σ2 l ⟨x, e, hx⟩ => by subst e; rw [wipe1s]; exact he z hz hp G1 x l hx) (fun z σ2 G1 G2 l ⟨x, e, hx⟩ => ⟨x, e, hx.mono l⟩) hl
  have e : (xs.filter p).map (fun z => DE (M z)) = ((xs.filter p).map M).map DE := by rw [List.map_map]; rfl
  rw [e] at h
  exact h
theorem mrg_map {α β : Type} (f : α → β) : ∀ (es acc : List (Key × α)), ((es.foldl (fun acc e => putE acc e.1 e.2) acc).map fun e => (e.1, f e.2)) = (es.map fun e => (e.1, f e.2)).foldl (fun acc e => putE acc e.1 e.2) (acc.map fun e => (e.1, f e.2))
  | [], acc => rfl
  | e :: es, acc => by
    rw [List.foldl_cons, mrg_map f es, List.map_cons, List.foldl_cons]
    congr 1
    unfold putE
    have ea : (acc.map fun e => (e.1, f e.2)).any (fun x => decide (x.1 = e.1)) = acc.any (fun x => decide (x.1 = e.1)) := by
      rw [List.any_map]; rfl
    rw [ea]
    split
    · rw [List.map_map, List.map_map]
      apply List.map_congr_left
      intro x _
      simp only [Function.comp]
      split <;> rfl
    · rw [List.map_append]; rfl
/-- one name, no test: a dict -/
theorem ev_dcM {α β : Type} {D : α → PyData} {DE : β → PyData} {xs : List α} {κ : α → Key} {M : α → β} {k : Nat} {tk tv : TE} (hi : EvI K wi σ G (xs.map D)) (hk : ∀ z ∈ xs, ∀ G1 x, Le G G1 → Rp K G1 x (D z) → Ev K tk (σ.set k (some x)) G1 (kD (κ z))) (he : ∀ z ∈ xs, ∀ G1 x, Le G G1 → Rp K G1 x (D z) → Ev K tv (σ.set k (some x)) G1 (DE (M z))) (hl : xs.length ≤ 100000) :
    Ev K (tDc wi (gName k) tYes tk tv [k]) σ G (dM DE (mrgE (xs.map fun z => (κ z, M z)))) := by
  have h := ev_dc (K := K) (σ := σ) (G := G) (tk := tk) (tv := tv) (tt := tYes) (g := gName k) (vs := [k]) (p := fun _ => true) (κ := κ) (f := fun z => DE (M z)) (B := fun z σ2 G => ∃ x, σ2 = (wipe σ [k]).set k (some x) ∧ Rp K G x (D z)) hi (fun z _ => bnd_name) (fun z _ σ2 G ⟨x, e, _⟩ => by subst e; exact wipe1)
    (fun z hz G1 σ2 l _ G3 H3 l3 i3 Q q => q G3 H3 (Up.refl i3)) (fun z hz _ G1 σ2 l ⟨x, e, hx⟩ => by subst e; rw [wipe1s]; exact hk z hz G1 x l hx) (fun z hz _ G1 σ2 l ⟨x, e, hx⟩ => by subst e; rw [wipe1s]; exact he z hz G1 x l hx) (fun z σ2 G1 G2 l ⟨x, e, hx⟩ => ⟨x, e, hx.mono l⟩) hl
  have e : mrgE ((xs.filter fun _ => true).map fun z => (κ z, DE (M z))) = (mrgE (xs.map fun z => (κ z, M z))).map fun e => (e.1, DE e.2) := by
    rw [List.filter_eq_self.mpr (fun _ _ => rfl)]
    unfold mrgE
    rw [mrg_map DE _ []]
    rw [List.map_map]
    rfl
  rw [e] at h
  exact h
theorem ev_dcF {α β : Type} {D : α → PyData} {DE : β → PyData} {xs : List α} {p : α → Bool} {κ : α → Key} {M : α → β} {k : Nat} {tk tv : TE} (hi : EvI K wi σ G (xs.map D)) (ht : ∀ z ∈ xs, ∀ G1 x, Le G G1 → Rp K G1 x (D z) → EvT tt (σ.set k (some x)) G1 (p z)) (hk : ∀ z ∈ xs, p z = true → ∀ G1 x, Le G G1 → Rp K G1 x (D z) → Ev K tk (σ.set k (some x)) G1 (kD (κ z))) (he : ∀ z ∈ xs, p z = true → ∀ G1 x, Le G G1 → Rp K G1 x (D z) → Ev K tv (σ.set k (some x)) G1 (DE (M z))) (hl : xs.length ≤ 100000) :
    Ev K (tDc wi (gName k) tt tk tv [k]) σ G (dM DE (mrgE ((xs.filter p).map fun z => (κ z, M z)))) := by
  have h := ev_dc (K := K) (σ := σ) (G := G) (tk := tk) (tv := tv) (tt := tt) (g := gName k) (vs := [k]) (p := p) (κ := κ) (f := fun z => DE (M z)) (B := fun z σ2 G => ∃ x, σ2 = (wipe σ [k]).set k (some x) ∧ Rp K G x (D z)) hi (fun z _ => bnd_name) (fun z _ σ2 G ⟨x, e, _⟩ => by subst e; exact wipe1)
    (fun z hz G1 σ2 l ⟨x, e, hx⟩ => by subst e; rw [wipe1s]; exact ht z hz G1 x l hx) (fun z hz hp G1 σ2 l ⟨x, e, hx⟩ => by subst e; rw [wipe1s]; exact hk z hz hp G1 x l hx) (fun z hz hp G1 σ2 l ⟨x, e, hx⟩ => by subst e; rw [wipe1s]; exact he z hz hp G1 x l hx) (fun z σ2 G1 G2 l ⟨x, e, hx⟩ => ⟨x, e, hx.mono l⟩) hl
  have e : mrgE ((xs.filter p).map fun z => (κ z, DE (M z))) = (mrgE ((xs.filter p).map fun z => (κ z, M z))).map fun e => (e.1, DE e.2) := by
    unfold mrgE
    rw [mrg_map DE _ []]
    rw [List.map_map]
    rfl
  rw [e] at h
  exact h
theorem cutL_le {α : Type} (l : List α) (a b : Option Int) : (cutL l a b).length ≤ l.length := by
  unfold cutL
  rw [List.length_take, List.length_drop]
  omega
theorem valK_map {α β : Type} (f : α → β) (es : List (Key × α)) (k : Key) : valK (es.map fun e => (e.1, f e.2)) k = (valK es k).map f := by
  unfold valK
  rw [List.find?_map]
  cases h : es.find? ((fun e => decide (e.1 = k)) ∘ fun e => (e.1, f e.2)) with
  | none =>
    have : es.find? (fun e => decide (e.1 = k)) = none := h
    rw [this]; rfl
  | some e =>
    have : es.find? (fun e => decide (e.1 = k)) = some e := h
    rw [this]; rfl
end
end Z

namespace Z
open PySem PySem.Spec PyProof.Rows L2
section
variable {K : PySem.W.Frag} {σ : L2.St} {G H : Hp} {ta tb te tx : TE} {tt : TT} {wi : TI}
theorem mul_neg (l : W) (i : Int) (h : i ≤ 0) : Txt.mul (S l) i = S [] := by
  unfold Txt.mul
  rw [if_pos (by omega)]
  rfl
theorem opv_mulSI {l : W} {i : Int} (h : l.length * i.toNat ≤ 10000000) (hn : -1000000 ≤ i ∧ i ≤ 1000000) : OpV K rMulS (dS l) (.int i) (dS (List.replicate i.toNat l).flatten) := by
  by_cases h0 : 0 ≤ i
  · obtain ⟨n, rfl⟩ := Int.eq_ofNat_of_zero_le h0
    exact opv_mulS h (by omega)
  · intro G H x y hi px py Q q
    rw [rp_str px, rp_int py]
    refine ⟨S l, i, rfl, rfl, ⟨?_, fun h1 _ => absurd (by omega) h1, fun h1 _ => absurd (by omega) h1⟩, ?_⟩
    · simp only [Bool.or_eq_false_iff, decide_eq_false_iff_not]
      constructor <;> omega
    · rw [mul_neg l i (by omega)]
      have : i.toNat = 0 := by omega
      rw [this] at q
      exact q _ G H (Up.refl hi) (.str _)
theorem opv_catL {α : Type} {D : α → PyData} {a b : List α} (h : a.length + b.length ≤ 1000000) : OpV K rCat (dL D a) (dL D b) (dL D (a ++ b)) := by
  have h2 := opv_cat (K := K) (a := a.map D) (b := b.map D) (by simpa using h)
  rw [← List.map_append] at h2
  exact h2
/-! typed equality -/
structure Eqt {α : Type} [DecidableEq α] (D : α → PyData) (ok : α → Prop) (n : Nat) : Prop where
  eq : ∀ a b, PyData.eqv (D a) (D b) = decide (a = b)
  lay : ∀ a, ok a → (D a).canLay0 = true
  dep : ∀ a, (D a).depth ≤ n
def okS (l : W) : Prop := ∀ c ∈ l, c < 256
theorem strOk_S {l : W} (h : okS l) : PyData.canLay0 (dS l) = true := by
  show PyData.strOk (S l) = true
  unfold PyData.strOk
  rw [← Array.all_toList]
  refine List.all_eq_true.mpr fun c hc => ?_
  rw [S_cps] at hc
  have := h c hc
  exact decide_eq_true (by omega)
theorem eqt_I : Eqt dI (fun _ => True) 0 := ⟨fun a b => by simp only [dI, PyData.eqv]; exact Bool.beq_eq_decide_eq a b, fun a _ => by simp [PyData.canLay0], fun a => by simp [PyData.depth]⟩
theorem eqt_B : Eqt dB (fun _ => True) 0 := ⟨fun a b => by simp only [dB, PyData.eqv]; exact Bool.beq_eq_decide_eq a b, fun a _ => by simp [PyData.canLay0], fun a => by simp [PyData.depth]⟩
theorem eqt_S : Eqt dS okS 0 := ⟨fun a b => by
  simp only [dS, PyData.eqv]
  by_cases h : a = b
  · subst h; simp
  · have : S a ≠ S b := fun e => h (S_inj e)
    simp [h, this], fun a h => strOk_S h, fun a => by simp [PyData.depth]⟩
theorem eqt_C : Eqt dC (fun c => c < 256) 0 := ⟨fun a b => by
  rw [show dC a = dS [a] from rfl, show dC b = dS [b] from rfl, eqt_S.eq]
  simp, fun a h => eqt_S.lay [a] (by intro c hc; simp at hc; omega), fun a => by simp [PyData.depth]⟩
section
variable {α β : Type} [DecidableEq α] [DecidableEq β] {D : α → PyData} {E : β → PyData} {ok : α → Prop} {ok' : β → Prop} {n m : Nat}
theorem eqvAll_map (e : Eqt D ok n) : ∀ xs ys : List α, PyData.eqvAll (xs.map D) (ys.map D) = decide (xs = ys)
  | [], [] => by simp [PyData.eqvAll]
  | x :: xs, y :: ys => by
    simp only [List.map_cons, PyData.eqvAll]
    rw [e.eq, eqvAll_map e xs ys]
    by_cases h1 : x = y <;> by_cases h2 : xs = ys <;> simp [h1, h2]
  | [], _ :: _ => by simp [PyData.eqvAll]
  | _ :: _, [] => by simp [PyData.eqvAll]
theorem layAll_map (e : Eqt D ok n) : ∀ xs : List α, (∀ x ∈ xs, ok x) → PyData.canLayAll0 (xs.map D) = true
  | [], _ => by simp [PyData.canLayAll0]
  | x :: xs, h => by
    simp only [List.map_cons, PyData.canLayAll0, Bool.and_eq_true]
    exact ⟨e.lay x (h x List.mem_cons_self), layAll_map e xs fun y hy => h y (List.mem_cons_of_mem _ hy)⟩
theorem depAll_map (e : Eqt D ok n) : ∀ xs : List α, PyData.depthAll (xs.map D) ≤ n
  | [] => by simp [PyData.depthAll]
  | x :: xs => by
    simp only [List.map_cons, PyData.depthAll]
    have h1 := e.dep x
    have h2 := depAll_map e xs
    omega
theorem eqt_L (e : Eqt D ok n) : Eqt (dL D) (fun xs => ∀ x ∈ xs, ok x) (n + 1) :=
  ⟨fun xs ys => by simp only [dL, PyData.eqv]; exact eqvAll_map e xs ys, fun xs h => by simp only [dL, PyData.canLay0]; exact layAll_map e xs h, fun xs => by simp only [dL, PyData.depth]; have := depAll_map e xs; omega⟩
theorem eqt_P (e : Eqt D ok n) (f : Eqt E ok' m) : Eqt (dP D E) (fun p => ok p.1 ∧ ok' p.2) (max n m + 1) :=
  ⟨fun p q => by
    simp only [dP, PyData.eqv, PyData.eqvAll]
    rw [e.eq, f.eq]
    obtain ⟨p1, p2⟩ := p
    obtain ⟨q1, q2⟩ := q
    by_cases h1 : p1 = q1 <;> by_cases h2 : p2 = q2 <;> simp [h1, h2], fun p h => by
    simp only [dP, PyData.canLay0, PyData.canLayAll0, Bool.and_eq_true]
    exact ⟨e.lay _ h.1, f.lay _ h.2, by first | rfl | trivial⟩, fun p => by
    simp only [dP, PyData.depth, PyData.depthAll]
    have h1 := e.dep p.1
    have h2 := f.dep p.2
    omega⟩
theorem Eqt.shaped (e : Eqt D ok n) (hn : n ≤ 64) {a : α} (h : ok a) : SeqAt.shaped (D a) = true := by
  unfold SeqAt.shaped
  rw [e.lay a h]
  have := e.dep a
  simp
  omega
theorem opv_eqT (e : Eqt D ok n) {a b : α} (h : ok a ∧ ok b ∧ n ≤ 64) : OpV K (rEqD K) (D a) (D b) (.bool (decide (a = b))) := by
  have := opv_eqD (K := K) (e.shaped h.2.2 h.1) (e.shaped h.2.2 h.2.1)
  rw [e.eq] at this
  exact this
theorem opv_neT (e : Eqt D ok n) {a b : α} (h : ok a ∧ ok b ∧ n ≤ 64) : OpV K (rNeD K) (D a) (D b) (.bool (!decide (a = b))) := by
  have := opv_neD (K := K) (e.shaped h.2.2 h.1) (e.shaped h.2.2 h.2.1)
  rw [e.eq] at this
  exact this
end
theorem ev_ifD {α : Type} {D : α → PyData} {k : Bool} {a b : α} (h1 : EvT tt σ G k) (h2 : k = true → Ev K ta σ G (D a)) (h3 : k = false → Ev K tb σ G (D b)) : Ev K (tIf tt ta tb) σ G (D (if k then a else b)) := by
  have h := ev_if h1 h2 h3
  have e : (if k = true then D a else D b) = D (if k = true then a else b) := by split <;> rfl
  rw [e] at h
  exact h
theorem cutL_map {α β : Type} (f : α → β) (l : List α) (a b : Option Int) : cutL (l.map f) a b = (cutL l a b).map f := by
  unfold cutL
  rw [List.length_map, List.map_take, List.map_drop]
theorem ev_slLT {α : Type} {D : α → PyData} {xs : List α} {tl th : TO} {lo hi : Option Int} (h : Ev K te σ G (dL D xs)) (hl : EvO tl σ G lo) (hh : EvO th σ G hi) : Ev K (tSl (rSlL K) te tl th) σ G (dL D (cutL xs lo hi)) := by
  have := ev_slL h hl hh
  rw [cutL_map] at this
  exact this
theorem opv_ixSD {l : W} {i : Int} (hz : l.length ≤ 10000000) (h : (atI l i).isSome = true) : OpV K (rIx K) (dS l) (.int i) (dC ((atI l i).getD 0)) := by
  obtain ⟨c, hc⟩ := Option.isSome_iff_exists.mp h
  rw [hc]
  exact opv_ixS hz hc
theorem atI_map {α β : Type} (f : α → β) (l : List α) (i : Int) : atI (l.map f) i = (atI l i).map f := by
  unfold atI
  rw [List.length_map]
  cases ixN l.length i with
  | none => rfl
  | some j => simp
theorem opv_ixLD {α : Type} {D : α → PyData} {xs : List α} {i : Int} {z : α} (h : (atI xs i).isSome = true) : OpV K (rIx K) (dL D xs) (.int i) (D ((atI xs i).getD z)) := by
  obtain ⟨c, hc⟩ := Option.isSome_iff_exists.mp h
  rw [hc]
  exact opv_ixL (by rw [atI_map, hc]; rfl)
theorem ev_dgetS {α : Type} {D : α → PyData} {es : List (Key × α)} {l : W} {z : α} (ho : Ev K ta σ G (dM D es)) (hk : Ev K tb σ G (dS l)) (h : (valK es (Sum.inr (S l))).isSome = true) : Ev K (tDGet ta tb) σ G (D ((valK es (Sum.inr (S l))).getD z)) := by
  obtain ⟨c, hc⟩ := Option.isSome_iff_exists.mp h
  rw [hc]
  exact ev_dget (k := Sum.inr (S l)) ho hk (by rw [valK_map, hc]; rfl)
theorem ev_dinS {α : Type} {D : α → PyData} {es : List (Key × α)} {l : W} (hk : Ev K tb σ G (dS l)) (ho : Ev K ta σ G (dM D es)) : Ev K (tDIn tb ta) σ G (.bool (valK es (Sum.inr (S l))).isSome) := by
  have h := ev_din (k := Sum.inr (S l)) hk ho
  rw [valK_map] at h
  have e : ((valK es (Sum.inr (S l))).map D).isSome = (valK es (Sum.inr (S l))).isSome := by cases valK es (Sum.inr (S l)) <;> rfl
  rw [e] at h
  exact h
theorem cav_lenLT {α : Type} {D : α → PyData} {xs : List α} : CaV K (rLenU K) [dL D xs] (.int (xs.length : Int)) := by
  have h := cav_lenL (K := K) (ds := xs.map D)
  rw [List.length_map] at h
  exact h
theorem cav_lenDT {α : Type} {D : α → PyData} {es : List (Key × α)} : CaV K rLenDc [dM D es] (.int (es.length : Int)) := by
  have h := cav_lenD (K := K) (es := es.map fun e => (e.1, D e.2))
  rw [List.length_map] at h
  exact h
theorem flat_single : ∀ l : W, (l.map fun c => [c]).flatten = l
  | [] => rfl
  | c :: l => by rw [List.map_cons, List.flatten_cons, flat_single l]; rfl
theorem sum_single : ∀ l : W, (l.map ((fun x : W => x.length) ∘ fun c => [c])).sum = l.length
  | [] => rfl
  | c :: l => by rw [List.map_cons, List.sum_cons, sum_single l, List.length_cons]; show 1 + l.length = l.length + 1; omega
theorem ev_joinC {l : W} (ho : Ev K ta σ G (dS [])) (h : Ev K te σ G (dL dC l)) (hz : l.length ≤ 10000000) : Ev K (tM1 (rJoin K) ta te) σ G (dS l) := by
  have e : dL dC l = .list ((l.map fun c => [c]).map fun l => .str (S l)) := by
    show PyData.list (l.map dC) = _
    rw [List.map_map]
    rfl
  rw [e] at h
  have h2 := ev_join ho h (by
    rw [List.map_map]
    rw [sum_single]
    exact hz)
  rw [flat_single] at h2
  exact h2
end
end Z

namespace Z
open PySem PySem.Spec PyProof.Rows L2
/-! ### the least text, texts in order -/
def minS : List W → W
  | [] => []
  | x :: xs => xs.foldl (fun a y => if y < a then y else a) x
theorem minD_S : ∀ (xs : List W) (x : W), PySem.W.minD (dS x) (xs.map dS) = dS (xs.foldl (fun a y => if y < a then y else a) x)
  | [], x => rfl
  | y :: xs, x => by
    have e : PySem.W.minD (dS x) ((y :: xs).map dS) = PySem.W.minD (if PySem.W.dataLt (dS y) (dS x) then dS y else dS x) (xs.map dS) := rfl
    rw [e, List.foldl_cons]
    have e2 : (if PySem.W.dataLt (dS y) (dS x) = true then dS y else dS x) = dS (if y < x then y else x) := by
      rw [PySem.W.dataLt_str, S_cps, S_cps]
      by_cases h : y < x
      · rw [if_pos (decide_eq_true h), if_pos h]
      · rw [if_neg (by simp [h]), if_neg h]
    rw [e2]
    exact minD_S xs _
section
variable {K : PySem.W.Frag} {σ : L2.St} {G H : Hp}
theorem dicFs_S : ∀ xs : List W, dicFs (xs.map dS) = true
  | [] => by simp [dicFs]
  | x :: xs => by simp only [List.map_cons, dicFs, Bool.and_eq_true]; exact ⟨by simp [dicF], dicFs_S xs⟩
theorem cav_minS {xs : List W} (h : xs ≠ []) (_hl : True) : CaV K (rMinD K) [dL dS xs] (dS (minS xs)) := by
  cases xs with
  | nil => exact absurd rfl h
  | cons x xs =>
    have := cav_minD (K := K) (d := dS x) (ds := xs.map dS) ?_ ?_ ?_
    · rw [minD_S] at this
      exact this
    · have key : ∀ d ∈ dS x :: xs.map dS, ∃ l, d = dS l := by
        intro d hd
        rcases List.mem_cons.mp hd with e | e
        · exact ⟨x, e⟩
        · obtain ⟨l, _, e⟩ := List.mem_map.mp e
          exact ⟨l, e.symm⟩
      refine ⟨fun a ha b hb => ?_, fun a ha => ?_⟩
      · obtain ⟨l, rfl⟩ := key a ha
        obtain ⟨m, rfl⟩ := key b hb
        simp [PySem.W.alike]
      · obtain ⟨l, rfl⟩ := key a ha
        intro q
        cases q
    · have := depAll_map eqt_S (x :: xs)
      rw [List.map_cons] at this
      omega
    · have := dicFs_S (x :: xs)
      rw [List.map_cons] at this
      exact this
/-- a total order of texts -/
def leW (a b : W) : Bool := decide (a ≤ b)
def sortW (xs : List W) : List W := xs.mergeSort leW
theorem leW_trans (a b c : W) (h1 : leW a b = true) (h2 : leW b c = true) : leW a c = true := by
  simp only [leW, decide_eq_true_eq] at *
  exact Std.le_trans h1 h2
theorem leW_total (a b : W) : (leW a b || leW b a) = true := by
  simp only [leW, Bool.or_eq_true, decide_eq_true_eq]
  exact Std.le_total
theorem sortW_unique {xs ys : List W} (p : ys.Perm xs) (h : ys.Pairwise fun a b => a ≤ b) : ys = sortW xs := by
  refine List.Perm.eq_of_pairwise (le := fun a b => a ≤ b) (fun a b _ _ h1 h2 => Std.le_antisymm h1 h2) h ?_ (p.trans (List.mergeSort_perm _ _).symm)
  have := List.pairwise_mergeSort (le := leW) leW_trans leW_total xs
  exact this.imp fun h => of_decide_eq_true h
def keyW : Key → W
  | .inr x => x.cps.toList
  | .inl _ => []
def sortKs {α : Type} (es : List (Key × α)) : List W := sortW (es.map fun e => keyW e.1)
/-- keys that are texts -/
def strKs {α : Type} (es : List (Key × α)) : Prop := ∀ e ∈ es, ∃ l : W, e.1 = Sum.inr (S l)
theorem rising_pw : ∀ (l : List Str) (p : Str), risingS p l = true → (p :: l).Pairwise fun a b => a.cps.toList ≤ b.cps.toList
  | [], p, _ => List.pairwise_singleton _ _
  | x :: r, p, h => by
    simp only [risingS, Bool.and_eq_true, Bool.not_eq_true'] at h
    have ih := rising_pw r x h.2
    have px : p.cps.toList ≤ x.cps.toList := by
      have := h.1
      rw [ltCps_eq] at this
      have := of_decide_eq_false this
      exact Std.not_lt.mp this
    refine List.pairwise_cons.mpr ⟨fun b hb => ?_, ih⟩
    rcases List.mem_cons.mp hb with e | e
    · subst e; exact px
    · exact Std.le_trans px ((List.pairwise_cons.mp ih).1 b e)
theorem sorted_pw {l : List Str} (h : sortedS l = true) : l.Pairwise fun a b => a.cps.toList ≤ b.cps.toList := by
  cases l with
  | nil => exact List.Pairwise.nil
  | cons x r => exact rising_pw r x h
theorem rpe_keys : ∀ {kvs : List (Key × V)} {es : List (Key × PyData)}, RpE K G kvs es → kvs.map (·.1) = es.map (·.1)
  | _, _, .nil => rfl
  | _, _, .cons _ a => by simp only [List.map_cons]; rw [rpe_keys a]
theorem cav_sortKs {α : Type} {D : α → PyData} {es : List (Key × α)} (h : strKs es ∧ es.length < 64) : CaV K rSortDk [dM D es] (dL dS (sortKs es)) := fun G H vs hi pv Q q => by
  obtain ⟨v, ws, rfl, p1, p2⟩ := rpa_cons pv
  rw [rpa_nil p2]
  obtain ⟨p, kvs, rfl, h1, h2⟩ := rp_dic p1
  have ek : kvs.map (·.1) = (es.map fun e => S (keyW e.1)).map Sum.inr := by
    rw [rpe_keys h2, List.map_map, List.map_map]
    apply List.map_congr_left
    intro e he
    obtain ⟨l, hl⟩ := h.1 e he
    simp only [Function.comp]
    rw [hl]
    show Sum.inr (S l) = Sum.inr (S (S l).cps.toList)
    rw [S_cps]
  refine ⟨p, kvs, _, rfl, hi.rd h1, ek, by rw [List.length_map]; exact h.2, fun ys r pm so hr => ?_⟩
  have u := Up.new (o := .lst (ys.map V.str)) hi hr
  refine q _ _ _ u (.lst upd_same ?_)
  have e2 : ys.map (fun y => y.cps.toList) = sortKs es := by
    unfold sortKs
    apply sortW_unique
    · have := pm.map (fun y : Str => y.cps.toList)
      rw [List.map_map] at this
      have e3 : es.map ((fun y : Str => y.cps.toList) ∘ fun e => S (keyW e.1)) = es.map fun e => keyW e.1 := List.map_congr_left fun e _ => S_cps _
      rw [e3] at this
      exact this
    · exact List.pairwise_map.mpr (sorted_pw so)
  rw [← e2, List.map_map]
  have e4 : ys.map (dS ∘ fun y => y.cps.toList) = ys.map PyData.str := List.map_congr_left fun y _ => by
    show PyData.str (S y.cps.toList) = PyData.str y
    rw [S_eta]
  rw [e4]
  exact strs_rpa _
end
end Z

namespace Z
open PySem PySem.Spec PyProof.Rows L2
section
variable {K : PySem.W.Frag} {σ : L2.St} {G H : Hp} {ta tb te tx : TE} {tt : TT} {wi : TI} {D : Ends}
/-- a for over things that leaves at the first one that passes: Sl is kept of the slots -/
theorem s_first {α : Type} {DD : α → PyData} {xs : List α} {p : α → Bool} {f : α → PyData} {k : Nat} {tb : TS} (Sl : L2.St → Prop) (hi : EvI K wi σ G (xs.map DD)) (hin : In G H) (h0 : Sl σ)
    (body : ∀ z ∈ xs, ∀ σ1 G1 H1 x, Sl σ1 → Up G H G1 H1 → Rp K G1 x (DD z) → ∀ D2 : Ends, (p z = true → Ret K G1 H1 D2.rt (f z)) → (p z = false → ∀ σ2 G2 H2, Sl σ2 → Up G1 H1 G2 H2 → D2.nx σ2 H2) → tb D2 (σ1.set k (some x)) H1)
    (hr : ∀ z, xs.find? p = some z → Ret K G H D.rt (f z)) (hn : xs.find? p = none → ∀ σ2 G2 H2, Sl σ2 → Up G H G2 H2 → D.nx σ2 H2) : tFor wi (gName k) tb D σ H := by
  refine s_for hi hin fun G0 H0 u0 => ⟨fun i σ1 G1 H1 => Sl σ1 ∧ Up G H G1 H1 ∧ Le G0 G1 ∧ (xs.take i).find? p = none, ⟨h0, u0, Le.refl _, by simp⟩, fun i σ1 G1 H1 h => ⟨h.2.2.1, h.2.1.i⟩, ?_, ?_⟩
  · rintro i d x σ1 G1 H1 G2 H2 hd ⟨h1, h2, h3, h4⟩ u2 r2
    rw [List.getElem?_map] at hd
    cases hz : xs[i]? with
    | none => rw [hz] at hd; cases hd
    | some z =>
      rw [hz] at hd
      cases hd
      have hlt : i < xs.length := (List.getElem?_eq_some_iff.mp hz).1
      have ez : xs[i] = z := (List.getElem?_eq_some_iff.mp hz).2
      have u := h2.trans u2
      show tb _ (σ1.set k (some x)) H2
      refine body z (List.mem_of_getElem? hz) σ1 G2 H2 x h1 u r2 _ (fun hp => ?_) (fun hp σ2 G3 H3 s3 u3 => ?_)
      · have hf : xs.find? p = some z := by
          rw [← List.take_append_drop i xs, List.find?_append, h4]
          rw [List.drop_eq_getElem_cons hlt, ez]
          simp [hp]
        exact fun v G3 H3 w r => hr z hf v G3 H3 (u.trans w) r
      · refine ⟨G3, s3, u.trans u3, h3.trans (u2.g.trans u3.g), ?_⟩
        rw [List.take_succ_eq_append_getElem hlt, List.find?_append, h4, ez]
        simp [hp]
  · rintro σ1 G1 H1 ⟨h1, h2, _, h4⟩
    rw [List.length_map, List.take_length] at h4
    exact hn h4 σ1 G1 H1 h1 h2
/-- a for that changes one hidden dict: I of the turn and the dict's pairs -/
theorem s_dict {α : Type} {DD : α → PyData} {xs : List α} {k : Nat} {tb : TS} {m : Addr} (f : Nat → List (Key × PyData)) (Sl : L2.St → Prop) (hi : EvI K wi σ G (xs.map DD)) (hin : In G H) (hg : G m = none) (h0 : Sl σ) (hm : ∃ kvs, H m = some (.dK kvs) ∧ RpE K G kvs (f 0))
    (body : ∀ (i : Nat) z, xs[i]? = some z → ∀ σ1 G1 H1 x kvs, Sl σ1 → In G1 H1 → Le G G1 → G1 m = none → H1 m = some (.dK kvs) → RpE K G1 kvs (f i) → Rp K G1 x (DD z) → ∀ D2 : Ends, (∀ σ2 G2 H2 kvs2, Sl σ2 → In G2 H2 → Le G1 G2 → G2 m = none → (∀ a, a ≠ m → ∀ o, H1 a = some o → H2 a = some o) → (∀ a o, G2 a = some o → G1 a = some o ∨ H1 a = none) → H2 m = some (.dK kvs2) → RpE K G2 kvs2 (f (i + 1)) → D2.nx σ2 H2) → tb D2 (σ1.set k (some x)) H1)
    (hd : ∀ σ2 G2 H2 kvs2, Sl σ2 → In G2 H2 → Le G G2 → G2 m = none → (∀ a, a ≠ m → ∀ o, H a = some o → H2 a = some o) → (∀ a o, G2 a = some o → G a = some o ∨ H a = none) → H2 m = some (.dK kvs2) → RpE K G2 kvs2 (f xs.length) → D.nx σ2 H2) : tFor wi (gName k) tb D σ H := by
  obtain ⟨kv0, e0, r0⟩ := hm
  have ne0 : H m ≠ none := by rw [e0]; intro q; cases q
  refine s_for hi hin fun G0 H0 u0 => ⟨fun i σ1 G1 H1 => Sl σ1 ∧ In G1 H1 ∧ Le G0 G1 ∧ G1 m = none ∧ (∀ a, a ≠ m → ∀ o, H a = some o → H1 a = some o) ∧ (∀ a o, G1 a = some o → G a = some o ∨ H a = none) ∧ ∃ kvs, H1 m = some (.dK kvs) ∧ RpE K G1 kvs (f i),
    ⟨h0, u0.i, Le.refl _, u0.hide ne0 hg, fun a _ o e => u0.h a o e, u0.n, kv0, u0.h _ _ e0, r0.mono u0.g⟩, fun i σ1 G1 H1 h => ⟨h.2.2.1, h.2.1⟩, ?_, ?_⟩
  · rintro i d x σ1 G1 H1 G2 H2 hd' ⟨s1, i1, l1, n1, k1, w1, kvs, e1, r1⟩ u2 p2
    rw [List.getElem?_map] at hd'
    cases hz : xs[i]? with
    | none => rw [hz] at hd'; cases hd'
    | some z =>
      rw [hz] at hd'
      cases hd'
      have ne1 : H1 m ≠ none := by rw [e1]; intro q; cases q
      refine body i z hz σ1 G2 H2 x kvs s1 u2.i ((u0.g.trans l1).trans u2.g) (u2.hide ne1 n1) (u2.h _ _ e1) (r1.mono u2.g) p2 _ fun σ2 G3 H3 kvs2 s3 i3 l3 n3 k3 w3 e3 r3 => ?_
      refine ⟨G3, s3, i3, l1.trans (u2.g.trans l3), n3, fun a ha o e => k3 a ha o (u2.h a o (k1 a ha o e)), fun a o e => ?_, kvs2, e3, r3⟩
      rcases w3 a o e with q | q
      · rcases u2.n a o q with q | q
        · exact w1 a o q
        · refine .inr ?_
          cases hh : H a with
          | none => rfl
          | some o' =>
            by_cases ha : a = m
            · subst ha; exact absurd q ne1
            · rw [k1 a ha o' hh] at q; cases q
      · refine .inr ?_
        cases hh : H a with
        | none => rfl
        | some o' =>
          by_cases ha : a = m
          · subst ha
            have := u2.h _ _ e1
            rw [this] at q; cases q
          · have := u2.h a o' (k1 a ha o' hh)
            rw [this] at q; cases q
  · rintro σ1 G1 H1 ⟨s1, i1, l1, n1, k1, w1, kvs, e1, r1⟩
    rw [List.length_map] at r1
    exact hd σ1 G1 H1 kvs s1 i1 (u0.g.trans l1) n1 k1 w1 e1 r1
/-- lo, lo - 1, .. above hi -/
def rngD (lo hi : Int) : List Int := (List.range (lo - hi).toNat).map fun (i : Nat) => lo - (i : Int)
theorem ei_rng3 {tr : TA} {i j : Int} (h : EvA K tr σ G [.int i, .int j, .int (-1)]) (hb : -1000000 ≤ i ∧ i ≤ 1000000 ∧ -1000000 ≤ j ∧ j ≤ 1000000) : EvI K (iRng3 tr) σ G ((rngD i j).map .int) := fun G1 H1 l hi R q => h G1 H1 l hi _ fun vs G2 H2 u2 p2 => by
  obtain ⟨v, ws, rfl, p3, p4⟩ := rpa_cons p2
  obtain ⟨v', ws', rfl, p5, p6⟩ := rpa_cons p4
  obtain ⟨v2, ws2, rfl, p7, p8⟩ := rpa_cons p6
  rw [rp_int p3, rp_int p5, rp_int p7, rpa_nil p8]
  refine ⟨i, j, -1, (i - j).toNat, rfl, RgC.neg (by omega) (by omega) (by omega) (by omega), q _ G2 H2 u2 fun G' H' l' i' => ?_⟩
  have Wk := walk_rangeC (lo := i) (c := -1) (n := (i - j).toNat)
  refine ⟨by simpa [rngD] using Wk.stops H' trivial, fun n d hd => ?_⟩
  have hn : n < (i - j).toNat := by
    have := (List.getElem?_eq_some_iff.mp hd).1
    simpa [rngD] using this
  refine ⟨Wk.goes n H' hn trivial, fun x H3 y => ?_⟩
  obtain ⟨e1, e2⟩ := Wk.yields n H' x H3 hn trivial y
  subst e1 e2
  have : d = .int (i + (n : Nat) * (-1)) := by
    simp [rngD, hn] at hd
    rw [← hd]
    congr 1
    omega
  subst this
  exact ⟨G', Up.refl i', .int _⟩
def enumT {α : Type} (xs : List α) : List (Int × α) := xs.zipIdx.map fun p => ((p.2 : Int), p.1)
theorem enumD_map {α : Type} (DD : α → PyData) (xs : List α) : enumD (xs.map DD) = (enumT xs).map (dP dI DD) := by
  unfold enumD enumT
  rw [List.zipIdx_map, List.map_map, List.map_map]
  apply List.map_congr_left
  intro p _
  rfl
theorem ei_enumT {α : Type} {DD : α → PyData} {tr : TA} {xs : List α} (h : EvA K tr σ G [dL DD xs]) : EvI K (iEnum K tr) σ G ((enumT xs).map (dP dI DD)) := by
  rw [← enumD_map]
  exact ei_enum h
/-- two names -/
theorem bnd_two {a b : PyData} {j k : Nat} : Bnd K (gTup K 2 (gCons (gName j) (gCons (gName k) gNil))) σ (.tuple [a, b]) fun σ2 G => ∃ x y, σ2 = (σ.set j (some x)).set k (some y) ∧ Rp K G x a ∧ Rp K G y b := fun G H x i p Q q => by
  obtain ⟨r, xs, rfl, h1, h2⟩ := rp_tup p
  obtain ⟨x1, ws, rfl, p1, h2⟩ := rpa_cons h2
  obtain ⟨x2, ws, rfl, p2, h2⟩ := rpa_cons h2
  obtain rfl := rpa_nil h2
  exact ⟨r, _, rfl, in_t i h1, rfl, x1, _, rfl, x2, _, rfl, rfl, q _ ⟨x1, x2, rfl, p1, p2⟩⟩
theorem wipe2 {j k : Nat} (h : j ≠ k) {x y : Option V} : wipe (((wipe σ [j, k]).set j x).set k y) [j, k] = wipe σ [j, k] := by
  show (((((σ.set k none).set j none).set j x).set k y).set k none).set j none = (σ.set k none).set j none
  rw [List.set_set, List.set_set, List.set_comm _ _ h, List.set_set, List.set_comm _ _ h.symm, List.set_comm _ _ h.symm, List.set_set]
theorem ev_lcF2 {α β γ : Type} {D1 : α → PyData} {D2 : β → PyData} {DE : γ → PyData} {xs : List (α × β)} {p : α × β → Bool} {M : α × β → γ} {j k : Nat} (hjk : j ≠ k) (hi : EvI K wi σ G (xs.map (dP D1 D2)))
    (ht : ∀ z ∈ xs, ∀ G1 x y, Le G G1 → Rp K G1 x (D1 z.1) → Rp K G1 y (D2 z.2) → EvT tt (((wipe σ [j, k]).set j (some x)).set k (some y)) G1 (p z)) (he : ∀ z ∈ xs, p z = true → ∀ G1 x y, Le G G1 → Rp K G1 x (D1 z.1) → Rp K G1 y (D2 z.2) → Ev K te (((wipe σ [j, k]).set j (some x)).set k (some y)) G1 (DE (M z))) (hl : xs.length ≤ 100000) :
    Ev K (tLc wi (gTup K 2 (gCons (gName j) (gCons (gName k) gNil))) tt te [j, k]) σ G (dL DE ((xs.filter p).map M)) := by
  have h := ev_lc (K := K) (σ := σ) (G := G) (te := te) (tt := tt) (g := gTup K 2 (gCons (gName j) (gCons (gName k) gNil))) (vs := [j, k]) (p := p) (f := fun z => DE (M z)) (B := fun z σ2 G => ∃ x y, σ2 = ((wipe σ [j, k]).set j (some x)).set k (some y) ∧ Rp K G x (D1 z.1) ∧ Rp K G y (D2 z.2)) hi (fun z _ => bnd_two) (fun z _ σ2 G ⟨x, y, e, _⟩ => by subst e; exact wipe2 hjk)
    (fun z hz G1 σ2 l ⟨x, y, e, hx, hy⟩ => by subst e; exact ht z hz G1 x y l hx hy) (fun z hz hp G1 σ2 l ⟨x, y, e, hx, hy⟩ => by subst e; exact he z hz hp G1 x y l hx hy) (fun z σ2 G1 G2 l ⟨x, y, e, hx, hy⟩ => ⟨x, y, e, hx.mono l, hy.mono l⟩) hl
  have e : (xs.filter p).map (fun z => DE (M z)) = ((xs.filter p).map M).map DE := by rw [List.map_map]; rfl
  rw [e] at h
  exact h
theorem ev_lcM2 {α β γ : Type} {D1 : α → PyData} {D2 : β → PyData} {DE : γ → PyData} {xs : List (α × β)} {M : α × β → γ} {j k : Nat} (hjk : j ≠ k) (hi : EvI K wi σ G (xs.map (dP D1 D2)))
    (he : ∀ z ∈ xs, ∀ G1 x y, Le G G1 → Rp K G1 x (D1 z.1) → Rp K G1 y (D2 z.2) → Ev K te (((wipe σ [j, k]).set j (some x)).set k (some y)) G1 (DE (M z))) (hl : xs.length ≤ 100000) :
    Ev K (tLc wi (gTup K 2 (gCons (gName j) (gCons (gName k) gNil))) tYes te [j, k]) σ G (dL DE (xs.map M)) := by
  have h := ev_lcF2 (te := te) (tt := tYes) (p := fun _ => true) (M := M) (DE := DE) hjk hi (fun z hz G1 x y l _ _ G3 H3 l3 i3 Q q => q G3 H3 (Up.refl i3)) (fun z hz _ => he z hz) hl
  rw [List.filter_eq_self.mpr (fun _ _ => rfl)] at h
  exact h
end
end Z

namespace Z
open PySem PySem.Spec PyProof.Rows L2
def Rse (G H : Hp) (E : XK) (C : Addr) : Prop := ∀ G2 H2, Up G H G2 H2 → E (.ref C) none H2
def tyD : PyData → String
  | .none => "NoneType"
  | .bool _ => "bool"
  | .int _ => "int"
  | .str _ => "str"
  | .list _ => "list"
  | .tuple _ => "tuple"
  | .dict _ => "dict"
section
variable {K : PySem.W.Frag} {σ : L2.St} {G H : Hp} {te ta tb : TE}
theorem ty_of {x : V} {d : PyData} (hi : In G H) (p : Rp K G x d) : TyX K H x (.type (tyD d)) := by
  cases p with
  | non => exact .base .non
  | bl b => exact .base (.bl b)
  | int i => exact .base (.int i)
  | str s => exact .base (.str s)
  | lst h _ => exact .base (.lst (hi.ex h rfl))
  | tup h _ =>
    rcases h with q | q
    · rcases q with q | ⟨o, q⟩
      · exact .base (.tup (hi.ex q rfl))
      · exact .fTuple (hi.ex q rfl)
    · obtain ⟨o, its, n, h1, h2, _⟩ := q
      exact .kTuple h1 h2
  | dic h _ =>
    rcases hi _ _ h with q | ⟨_, o, q⟩
    · exact .base (.dK q)
    · exact .fDict q
theorem ev_isi {d : PyData} {c : String} {b : Bool} (h : Ev K te σ G d) (hk : kitB (tyD d) c = some b) : Ev K (tCB (rIsi K) (tCons te (tCons (tC (.ty c)) tNil))) σ G (.bool b) := fun G1 H1 l i Q q =>
  h G1 H1 l i _ fun v G2 H2 u2 p2 => ⟨v, .ty c, .type (tyD d), .type c, b, rfl, by constructor, ty_of u2.i p2, kit_ty hk, q _ G2 H2 u2 (.bl _)⟩
def isiB (d : PyData) (c : String) : Bool := (kitB (tyD d) c).getD false
theorem ev_isiB {d : PyData} {c : String} (h : Ev K te σ G d) (hk : (kitB (tyD d) c).isSome = true) : Ev K (tCB (rIsi K) (tCons te (tCons (tC (.ty c)) tNil))) σ G (.bool (isiB d c)) := by
  obtain ⟨b, hb⟩ := Option.isSome_iff_exists.mp hk
  unfold isiB
  rw [hb]
  exact ev_isi h hb
theorem kitB_some (d : PyData) {c : String} (hc : c = "int" ∨ c = "str" ∨ c = "bool" ∨ c = "list" ∨ c = "tuple" ∨ c = "dict") : (kitB (tyD d) c).isSome = true := by
  rcases hc with rfl | rfl | rfl | rfl | rfl | rfl <;> cases d <;> simp only [tyD] <;> decide +kernel
end
/-! ### words.py -/
def acgt : W := [97, 99, 103, 116]
def m_is_integer : PyData → Bool
  | .int _ => true
  | _ => false
def m_is_between (d : PyData) (lo hi : Int) : Bool := match d with
  | .int i => decide (lo ≤ i) && decide (i ≤ hi)
  | _ => false
def lineB (l : W) : Bool := l.all fun c => decide (c ∈ acgt)
def m_is_line : PyData → Bool
  | .str s => lineB s.cps.toList
  | _ => false
def wordB (l : W) : Bool := lineB l && decide (0 < l.length)
def m_is_word : PyData → Bool
  | .str s => wordB s.cps.toList
  | _ => false
/-- texts are not too long -/
def okD : PyData → Prop
  | .str s => s.cps.toList.length ≤ 100000
  | _ => True
def sp_is_integer (K : PySem.W.Frag) (ca : Str → Addr) : Sp := fun vs H Q E => ∃ (G : Hp) (d : PyData), In G H ∧ RpA K G vs [d] ∧ Ret K G H Q (.bool (m_is_integer d))
def sp_is_between (K : PySem.W.Frag) (ca : Str → Addr) : Sp := fun vs H Q E => ∃ (G : Hp) (d : PyData) (lo hi : Int), In G H ∧ RpA K G vs [d, .int lo, .int hi] ∧ Ret K G H Q (.bool (m_is_between d lo hi))
def sp_is_line (K : PySem.W.Frag) (ca : Str → Addr) : Sp := fun vs H Q E => ∃ (G : Hp) (d : PyData), In G H ∧ RpA K G vs [d] ∧ okD d ∧ Ret K G H Q (.bool (m_is_line d))
def sp_is_word (K : PySem.W.Frag) (ca : Str → Addr) : Sp := fun vs H Q E => ∃ (G : Hp) (d : PyData), In G H ∧ RpA K G vs [d] ∧ okD d ∧ Ret K G H Q (.bool (m_is_word d))
def sp_need_word (K : PySem.W.Frag) (ca : Str → Addr) : Sp := fun vs H Q E => ∃ (G : Hp) (d : PyData), In G H ∧ RpA K G vs [d] ∧ okD d ∧ (m_is_word d = true → Ret K G H Q .none) ∧ (m_is_word d = false → Rse G H E (ca "BadWord"))
def sp_need_length (K : PySem.W.Frag) (ca : Str → Addr) : Sp := fun vs H Q E => ∃ (G : Hp) (d : PyData), In G H ∧ RpA K G vs [d] ∧ (m_is_between d 1 120 = true → Ret K G H Q .none) ∧ (m_is_between d 1 120 = false → Rse G H E (ca "BadLength"))
section
variable {K : PySem.W.Frag} {ca : Str → Addr} {E : XK}
theorem c_is_integer (d : PyData) : SpV K (sp_is_integer K ca) E [d] (.bool (m_is_integer d)) := fun G H vs hi pv Q q => ⟨G, d, hi, pv, q⟩
theorem c_is_between (d : PyData) (lo hi : Int) : SpV K (sp_is_between K ca) E [d, .int lo, .int hi] (.bool (m_is_between d lo hi)) := fun G H vs i pv Q q => ⟨G, d, lo, hi, i, pv, q⟩
theorem c_is_line (d : PyData) (h : okD d) : SpV K (sp_is_line K ca) E [d] (.bool (m_is_line d)) := fun G H vs hi pv Q q => ⟨G, d, hi, pv, h, q⟩
theorem c_is_word (d : PyData) (h : okD d) : SpV K (sp_is_word K ca) E [d] (.bool (m_is_word d)) := fun G H vs hi pv Q q => ⟨G, d, hi, pv, h, q⟩
theorem c_need_word' (d : PyData) (h : okD d) (hw : m_is_word d = true) : SpV K (sp_need_word K ca) E [d] .none := fun G H vs hi pv Q q => ⟨G, d, hi, pv, h, fun _ => q, fun e => by rw [hw] at e; cases e⟩
theorem c_need_length' (d : PyData) (hw : m_is_between d 1 120 = true) : SpV K (sp_need_length K ca) E [d] .none := fun G H vs hi pv Q q => ⟨G, d, hi, pv, fun _ => q, fun e => by rw [hw] at e; cases e⟩
end
def t_is_integer (K : PySem.W.Frag) (ca : Str → Addr) (E : XK) : TS := (tRet ((tAndV ((tCB (rIsi K) ((tCons ((tVar 0)) ((tCons (tC (.ty "int")) (tNil))))))) ((tNotV ((tCB (rIsi K) ((tCons ((tVar 0)) ((tCons (tC (.ty "bool")) (tNil))))))))))))
def t_is_between (K : PySem.W.Frag) (ca : Str → Addr) (E : XK) : TS := (tRet ((tAndV ((tCall (sp_is_integer K ca) [] E ((tCons ((tVar 0)) (tNil))))) ((tChain (rI0 fun i j => .bl (decide (i ≤ j))) (rI0 fun i j => .bl (decide (i ≤ j))) ((tVar 1)) ((tVar 0)) ((tVar 2)))))))
def t_is_line (K : PySem.W.Frag) (ca : Str → Addr) (E : XK) : TS := (tRet ((tAndV ((tCB (rIsi K) ((tCons ((tVar 0)) ((tCons (tC (.ty "str")) (tNil))))))) ((tCB (rAll K) ((tCons ((tLc ((iStr ((tVar 0)))) ((gName 1)) (tYes) ((tOp (rInC) ((tVar 1)) (tC (.str "acgt")))) [1])) (tNil))))))))
def t_is_word (K : PySem.W.Frag) (ca : Str → Addr) (E : XK) : TS := (tRet ((tAndV ((tCall (sp_is_line K ca) [] E ((tCons ((tVar 0)) (tNil))))) ((tOp (rI0 fun i j => .bl (decide (j < i))) ((tCB (rLenU K) ((tCons ((tVar 0)) (tNil))))) (tC (.int 0)))))))
def t_need_word (K : PySem.W.Frag) (ca : Str → Addr) (E : XK) : TS := (tIfS ((tNot ((tB ((tCall (sp_is_word K ca) [] E ((tCons ((tVar 0)) (tNil))))))))) ((tRaise (fun cls d _ H => E cls d H) (fun _ H Q => Q (.ref (ca "BadWord")) none H))) (tNext))
def t_need_length (K : PySem.W.Frag) (ca : Str → Addr) (E : XK) : TS := (tIfS ((tNot ((tB ((tCall (sp_is_between K ca) [] E ((tCons ((tVar 0)) ((tCons (tC (.int 1)) ((tCons (tC (.int 120)) (tNil))))))))))))) ((tRaise (fun cls d _ H => E cls d H) (fun _ H Q => Q (.ref (ca "BadLength")) none H))) (tNext))
section
variable {K : PySem.W.Frag} {ca : Str → Addr}
theorem pure_is_integer (vs : List V) (H : Hp) (Q : VK) (E : XK) (h : sp_is_integer K ca vs H Q E) : vs.length = 1 ∧ t_is_integer K ca E { nx := fun _ H2 => Q .non H2, rt := Q } (start ["value"] vs) H := by
  obtain ⟨G, d, hin, pv, k⟩ := h
  obtain ⟨v, ws, rfl, h0, pv⟩ := rpa_cons pv
  obtain rfl := rpa_nil pv
  refine ⟨rfl, ?_⟩
  have e : m_is_integer d = (isiB d "int" && !isiB d "bool") := by cases d <;> simp only [m_is_integer, isiB, tyD] <;> decide +kernel
  rw [e] at k
  exact s_ret (ev_andB (ev_isiB (ev_var rfl h0) (kitB_some d (by simp))) (fun _ => ev_notB (ev_isiB (ev_var rfl h0) (kitB_some d (by simp))))) hin k
theorem pure_is_between (vs : List V) (H : Hp) (Q : VK) (E : XK) (h : sp_is_between K ca vs H Q E) : vs.length = 3 ∧ t_is_between K ca E { nx := fun _ H2 => Q .non H2, rt := Q } (start ["value", "least", "most"] vs) H := by
  obtain ⟨G, d, lo, hi, hin, pv, k⟩ := h
  obtain ⟨v, ws, rfl, h0, pv⟩ := rpa_cons pv
  obtain ⟨v1, ws, rfl, h1, pv⟩ := rpa_cons pv
  obtain ⟨v2, ws, rfl, h2, pv⟩ := rpa_cons pv
  obtain rfl := rpa_nil pv
  refine ⟨rfl, ?_⟩
  refine s_ret (ev_and (ev_call (ea_cons (ev_var rfl h0) ea_nil) (c_is_integer d)) (b := .bool (m_is_between d lo hi)) (fun e => ?_) (fun e => ?_)) hin k
  · cases d with
    | int i => exact ev_chain (ev_var rfl h1) (ev_var rfl h0) (fun _ => ev_var rfl h2) opv_le (fun _ => opv_le)
    | _ => cases e
  · cases d with
    | int i => cases e
    | _ => rfl
theorem pure_is_line (vs : List V) (H : Hp) (Q : VK) (E : XK) (h : sp_is_line K ca vs H Q E) : vs.length = 1 ∧ t_is_line K ca E { nx := fun _ H2 => Q .non H2, rt := Q } (start ["value", "sign"] vs) H := by
  obtain ⟨G, d, hin, pv, hd, k⟩ := h
  obtain ⟨v, ws, rfl, h0, pv⟩ := rpa_cons pv
  obtain rfl := rpa_nil pv
  refine ⟨rfl, ?_⟩
  refine s_ret (ev_and (ev_isiB (ev_var rfl h0) (kitB_some d (by simp))) (b := .bool (m_is_line d)) (fun e => ?_) (fun e => ?_)) hin k
  · cases d with
    | str s =>
      have hs : s.cps.toList.length ≤ 100000 := hd
      have h0' : Rp K G v (dS s.cps.toList) := by rw [dS, S_eta]; exact h0
      have := ev_cb (ea_cons (ev_lcM (k := 1) (DE := dB) (M := fun c => decide (c ∈ acgt)) (ei_str (ev_var (i := 0) (σ := start ["value", "sign"] [v]) rfl h0')) (fun c _ G1 x l hx => ev_op (ev_var (i := 1) rfl hx) (ev_lit (l := acgt) (z := "acgt") (by decide +kernel)) opv_inC) hs) ea_nil) cav_all
      have e2 : List.all (List.map (fun c => decide (c ∈ acgt)) s.cps.toList) id = m_is_line (.str s) := by
        show _ = lineB s.cps.toList
        unfold lineB
        rw [List.all_map]
        rfl
      rw [e2] at this
      exact this
    | _ => exact absurd e (by simp only [isiB, tyD]; decide +kernel)
  · cases d with
    | str s => exact absurd e (by simp only [isiB, tyD]; decide +kernel)
    | _ => rfl
theorem pure_is_word (vs : List V) (H : Hp) (Q : VK) (E : XK) (h : sp_is_word K ca vs H Q E) : vs.length = 1 ∧ t_is_word K ca E { nx := fun _ H2 => Q .non H2, rt := Q } (start ["value"] vs) H := by
  obtain ⟨G, d, hin, pv, hd, k⟩ := h
  obtain ⟨v, ws, rfl, h0, pv⟩ := rpa_cons pv
  obtain rfl := rpa_nil pv
  refine ⟨rfl, ?_⟩
  refine s_ret (ev_and (ev_call (ea_cons (ev_var rfl h0) ea_nil) (c_is_line d hd)) (b := .bool (m_is_word d)) (fun e => ?_) (fun e => ?_)) hin k
  · cases d with
    | str s =>
      have hs : s.cps.toList.length ≤ 100000 := hd
      have h0' : Rp K G v (dS s.cps.toList) := by rw [dS, S_eta]; exact h0
      have := ev_op (ev_cb (ea_cons (ev_var (i := 0) (σ := start ["value"] [v]) rfl h0') ea_nil) (cav_lenS (by omega))) (ev_int (i := 0)) opv_gt
      have e2 : decide ((0 : Int) < (s.cps.toList.length : Int)) = m_is_word (.str s) := by
        show _ = wordB s.cps.toList
        unfold wordB
        have e' : lineB s.cps.toList = true := e
        rw [e', Bool.true_and]
        simp only [decide_eq_decide]
        omega
      rw [e2] at this
      exact this
    | _ => cases e
  · cases d with
    | str s =>
      have e' : lineB s.cps.toList = false := e
      show PyData.bool (wordB s.cps.toList) = _
      unfold wordB
      rw [e', Bool.false_and]
    | _ => rfl
theorem pure_need_word (vs : List V) (H : Hp) (Q : VK) (E : XK) (h : sp_need_word K ca vs H Q E) : vs.length = 1 ∧ t_need_word K ca E { nx := fun _ H2 => Q .non H2, rt := Q } (start ["word"] vs) H := by
  obtain ⟨G, d, hin, pv, hd, k1, k2⟩ := h
  obtain ⟨v, ws, rfl, h0, pv⟩ := rpa_cons pv
  obtain rfl := rpa_nil pv
  refine ⟨rfl, ?_⟩
  refine s_if (et_not (et_B (ev_call (ea_cons (ev_var rfl h0) ea_nil) (c_is_word d hd)))) hin (fun e G2 H2 u => ?_) (fun e G2 H2 u => ?_)
  · exact k2 (by simpa using e) G2 H2 u
  · exact k1 (by simpa using e) .non G2 H2 u .non
theorem pure_need_length (vs : List V) (H : Hp) (Q : VK) (E : XK) (h : sp_need_length K ca vs H Q E) : vs.length = 1 ∧ t_need_length K ca E { nx := fun _ H2 => Q .non H2, rt := Q } (start ["length"] vs) H := by
  obtain ⟨G, d, hin, pv, k1, k2⟩ := h
  obtain ⟨v, ws, rfl, h0, pv⟩ := rpa_cons pv
  obtain rfl := rpa_nil pv
  refine ⟨rfl, ?_⟩
  refine s_if (et_not (et_B (ev_call (ea_cons (ev_var rfl h0) (ea_cons ev_int (ea_cons ev_int ea_nil))) (c_is_between d 1 120)))) hin (fun e G2 H2 u => ?_) (fun e G2 H2 u => ?_)
  · exact k2 (by simpa using e) G2 H2 u
  · exact k1 (by simpa using e) .non G2 H2 u .non
end
end Z

namespace Z
open PySem PySem.Spec PyProof.Rows L2
/-! ### draws -/
abbrev kq (x : Str) : Key := Sum.inr x
def dkv (w c : Addr) (r t : Int) : List (Key × V) := [(kq "wide", .ref w), (kq "cells", .ref c), (kq "rest", .int r), (kq "turn", .int t)]
theorem k12 : decide ((kq "wide" : Key) = kq "cells") = false := by decide +kernel
theorem k13 : decide ((kq "wide" : Key) = kq "rest") = false := by decide +kernel
theorem k14 : decide ((kq "wide" : Key) = kq "turn") = false := by decide +kernel
theorem k23 : decide ((kq "cells" : Key) = kq "rest") = false := by decide +kernel
theorem k24 : decide ((kq "cells" : Key) = kq "turn") = false := by decide +kernel
theorem k34 : decide ((kq "rest" : Key) = kq "turn") = false := by decide +kernel
theorem k43 : decide ((kq "turn" : Key) = kq "rest") = false := by decide +kernel
theorem kd (k : Key) : decide (k = k) = true := by simp
section
variable (w c : Addr) (r t : Int)
theorem g_wide : valV (dkv w c r t) (kq "wide") = some (.ref w) := by
  unfold valV dkv; rw [List.find?_cons, kd]; rfl
theorem g_cells : valV (dkv w c r t) (kq "cells") = some (.ref c) := by
  unfold valV dkv; rw [List.find?_cons, k12, List.find?_cons, kd]; rfl
theorem g_rest : valV (dkv w c r t) (kq "rest") = some (.int r) := by
  unfold valV dkv; rw [List.find?_cons, k13, List.find?_cons, k23, List.find?_cons, kd]; rfl
theorem g_turn : valV (dkv w c r t) (kq "turn") = some (.int t) := by
  unfold valV dkv; rw [List.find?_cons, k14, List.find?_cons, k24, List.find?_cons, k34, List.find?_cons, kd]; rfl
theorem p_rest (r' : Int) : putK (dkv w c r t) (kq "rest") (.int r') = dkv w c r' t := by
  rw [putK_putE]
  unfold putE dkv
  rw [if_pos (by simp)]
  have e1 : ¬ (kq "wide" : Key) = kq "rest" := of_decide_eq_false k13
  have e2 : ¬ (kq "cells" : Key) = kq "rest" := of_decide_eq_false k23
  have e3 : ¬ (kq "turn" : Key) = kq "rest" := of_decide_eq_false k43
  simp only [List.map_cons, List.map_nil, if_neg e1, if_neg e2, if_neg e3, if_true]
theorem p_turn (t' : Int) : putK (dkv w c r t) (kq "turn") (.int t') = dkv w c r t' := by
  rw [putK_putE]
  unfold putE dkv
  rw [if_pos (by simp)]
  have e1 : ¬ (kq "wide" : Key) = kq "turn" := of_decide_eq_false k14
  have e2 : ¬ (kq "cells" : Key) = kq "turn" := of_decide_eq_false k24
  have e3 : ¬ (kq "rest" : Key) = kq "turn" := of_decide_eq_false k34
  simp only [List.map_cons, List.map_nil, if_neg e1, if_neg e2, if_neg e3, if_true]
end
/-- the draws' state at m, its wide numbers at w: n turns are left -/
def Drw (m w : Addr) (n : Nat) (G H : Hp) : Prop := ∃ (c : Addr) (ws cs : List Int) (r t : Int), H m = some (.dK (dkv w c r t)) ∧ H w = some (.lst (ws.map .int)) ∧ G c = some (.lst (cs.map .int)) ∧ c ≠ w ∧ (∀ x ∈ cs, 0 ≤ x ∧ x < 2147483648) ∧ 0 ≤ t ∧ t + n ≤ 1000000000000
theorem Drw.mono {m w : Addr} {n n' : Nat} {G H : Hp} (d : Drw m w n G H) (h : n' ≤ n) : Drw m w n' G H := by
  obtain ⟨c, ws, cs, r, t, h1, h2, h3, h4, h5, h6, h7⟩ := d
  exact ⟨c, ws, cs, r, t, h1, h2, h3, h4, h5, h6, by omega⟩
/-- a step that may change the draws alone -/
structure UpM (m w : Addr) (G H G2 H2 : Hp) : Prop where
  g : Le G G2
  i : In G2 H2
  h : ∀ a, a ≠ m → a ≠ w → ∀ o, H a = some o → H2 a = some o
  n : ∀ a o, G2 a = some o → G a = some o ∨ H a = none
theorem UpM.refl {m w : Addr} {G H : Hp} (i : In G H) : UpM m w G H G H := ⟨Le.refl _, i, fun _ _ _ _ e => e, fun _ _ e => .inl e⟩
theorem UpM.of {m w : Addr} {G H G2 H2 : Hp} (u : Up G H G2 H2) : UpM m w G H G2 H2 := ⟨u.g, u.i, fun a _ _ o e => u.h a o e, u.n⟩
/-- the draws are hidden, and they stand -/
structure DOk (m w : Addr) (n : Nat) (G H : Hp) : Prop where
  i : In G H
  gm : G m = none
  gw : G w = none
  d : Drw m w n G H
theorem DOk.hm {m w : Addr} {n : Nat} {G H : Hp} (d : DOk m w n G H) : H m ≠ none := by
  obtain ⟨c, ws, cs, r, t, h1, _⟩ := d.d
  rw [h1]; intro q; cases q
theorem DOk.hw {m w : Addr} {n : Nat} {G H : Hp} (d : DOk m w n G H) : H w ≠ none := by
  obtain ⟨c, ws, cs, r, t, h1, h2, _⟩ := d.d
  rw [h2]; intro q; cases q
theorem Drw.up {m w : Addr} {n : Nat} {G G2 H H2 : Hp} (d : Drw m w n G H) (g : Le G G2) (l : Le H H2) : Drw m w n G2 H2 := by
  obtain ⟨c, ws, cs, r, t, h1, h2, h3, h⟩ := d
  exact ⟨c, ws, cs, r, t, l _ _ h1, l _ _ h2, g _ _ h3, h⟩
theorem DOk.up {m w : Addr} {n : Nat} {G H G2 H2 : Hp} (d : DOk m w n G H) (u : Up G H G2 H2) : DOk m w n G2 H2 :=
  ⟨u.i, u.hide d.hm d.gm, u.hide d.hw d.gw, d.d.up u.g u.h⟩
theorem DOk.mono {m w : Addr} {n n' : Nat} {G H : Hp} (d : DOk m w n G H) (h : n' ≤ n) : DOk m w n' G H := ⟨d.i, d.gm, d.gw, d.d.mono h⟩
theorem UpM.trans {m w : Addr} {n : Nat} {G H G2 H2 G3 H3 : Hp} (d2 : DOk m w n G2 H2) (u : UpM m w G H G2 H2) (v : UpM m w G2 H2 G3 H3) : UpM m w G H G3 H3 :=
  ⟨u.g.trans v.g, v.i, fun a h1 h2 o e => v.h a h1 h2 o (u.h a h1 h2 o e), fun a o e => by
    rcases v.n a o e with q | q
    · exact u.n a o q
    · refine .inr ?_
      cases hh : H a with
      | none => rfl
      | some o' =>
        by_cases h1 : a = m
        · subst h1; exact absurd q d2.hm
        · by_cases h2 : a = w
          · subst h2; exact absurd q d2.hw
          · rw [u.h a h1 h2 o' hh] at q; cases q⟩
/-- the promise of a draw -/
def sp__law_take (K : PySem.W.Frag) (ca : Str → Addr) : Sp := fun vs H Q E => ∃ (G : Hp) (m w : Addr) (n : Nat) (tot : Int), vs = [.ref m, .int tot] ∧ DOk m w (n + 1) G H ∧ 0 < tot ∧ tot < 1000000000 ∧
  ∀ v H2, 0 ≤ v → v < tot → UpM m w G H G H2 → DOk m w n G H2 → Q (.int v) H2
def sp__law_mixed (K : PySem.W.Frag) (ca : Str → Addr) : Sp := fun vs H Q E => ∃ (m w c : Addr) (n : Nat) (ws cs : List Int) (r t : Int), vs = [.ref m] ∧ H m = some (.dK (dkv w c r t)) ∧ H w = some (.lst (ws.map .int)) ∧ H c = some (.lst (cs.map .int)) ∧ (∀ x ∈ cs, 0 ≤ x ∧ x < 2147483648) ∧ 0 ≤ t ∧ t + 1 ≤ 1000000000000 ∧
  ∀ v H2, (∀ a, a ≠ m → ∀ o, H a = some o → H2 a = some o) → H2 m = some (.dK (dkv w c r (t + 1))) → Q (.int v) H2
end Z

namespace Z
open PySem PySem.Spec PyProof.Rows L2
def t__law_mixed (K : PySem.W.Frag) (ca : Str → Addr) (E : XK) : TS := (tSeq ((tPar 1 2 ((tCons ((tOp (rI0 fun i j => .int (i + j)) ((tDGet ((tVar 0)) (tC (.str "turn")))) (tC (.int 1)))) ((tCons (tC (.int 0)) (tNil))))))) ((tSeq ((sDPut ((tVar 0)) (tC (.str "turn")) ((tVar 1)))) ((tSeq ((tFor ((iList K ((tLst ((tCons (tC (.int 2147483629)) ((tCons (tC (.int 2147483587)) ((tCons (tC (.int 2147483579)) ((tCons (tC (.int 2147483563)) (tNil))))))))))))) ((gName 3)) ((tSeq ((tAsg ((tOp (rI0 fun i j => .int (i + j)) ((tOp (rI CMul fun i j => .int (i * j)) (tC (.int 62617)) ((tVar 1)))) ((tOp (rI CDivN fun i j => .int (i.fdiv j)) ((tVar 3)) (tC (.int 31)))))) (gName 4))) ((tSeq ((tFor ((iList K ((tDGet ((tVar 0)) (tC (.str "cells")))))) ((gName 5)) ((tAsg ((tOp (rI (fun _ j => j ≠ 0) fun i j => .int (i.fmod j)) ((tCB (rInt1) ((tCons ((tOp (rI0 fun i j => .int (i + j)) ((tOp (rI0 fun i j => .int (i + j)) ((tOp (rI CMul fun i j => .int (i * j)) ((tVar 4)) (tC (.int 48271)))) ((tVar 5)))) ((tVar 1)))) (tNil))))) ((tVar 3)))) (gName 4))))) ((tAsg ((tOp (rI0 fun i j => .int (i + j)) ((tOp (rI CMul fun i j => .int (i * j)) ((tVar 2)) (tC (.int 2147483647)))) ((tOp (rI (fun _ j => j ≠ 0) fun i j => .int (i.fmod j)) ((tCB (rInt1) ((tCons ((tOp (rI CPow fun i j => .int (i ^ j.toNat)) ((tVar 4)) (tC (.int 5)))) (tNil))))) ((tVar 3)))))) (gName 2))))))))) ((tRet ((tVar 2)))))))))
def t__law_take (K : PySem.W.Frag) (ca : Str → Addr) (E : XK) : TS := (tSeq ((tIfS ((tTest (tOp (rEq) ((tDGet ((tVar 0)) (tC (.str "rest")))) (tC (.int 0))))) ((sDPut ((tVar 0)) (tC (.str "rest")) ((tIf ((tTest (tOp (rNeD K) ((tDGet ((tVar 0)) (tC (.str "wide")))) ((tLst (tNil)))))) ((tBM K "list" rPopAt ((tDGet ((tVar 0)) (tC (.str "wide")))) ((tCons (tC (.int 0)) (tNil))))) ((tCall (sp__law_mixed K ca) [] E ((tCons ((tVar 0)) (tNil))))))))) (tNext))) ((tSeq ((tAsg ((tOp (rI (fun _ j => j ≠ 0) fun i j => .int (i.fmod j)) ((tCB (rInt1) ((tCons ((tDGet ((tVar 0)) (tC (.str "rest")))) (tNil))))) ((tVar 1)))) (gName 2))) ((tSeq ((sDPut ((tVar 0)) (tC (.str "rest")) ((tOp (rI CDivN fun i j => .int (i.fdiv j)) ((tDGet ((tVar 0)) (tC (.str "rest")))) ((tVar 1)))))) ((tRet ((tVar 2)))))))))
theorem dget_of {H : Hp} {a : Addr} {kvs : List (Key × V)} {x : Str} {v : V} (h : H a = some (.dK kvs)) (e : valV kvs (kq x) = some v) : DGet H a (.str x) (some v) := .inl ⟨kvs, kq x, .inl h, rfl, e.symm⟩
theorem fmod_bd (a b : Int) (h : 0 < b) : 0 ≤ Int.fmod a b ∧ Int.fmod a b < b := by
  rw [Int.fmod_eq_emod_of_nonneg _ (by omega)]
  exact ⟨Int.emod_nonneg _ (by omega), Int.emod_lt_of_pos _ h⟩
theorem pure__law_mixed {K : PySem.W.Frag} {ca : Str → Addr} (vs : List V) (H : Hp) (Q : VK) (E : XK) (h : sp__law_mixed K ca vs H Q E) : vs.length = 1 ∧ t__law_mixed K ca E { nx := fun _ H2 => Q .non H2, rt := Q } (start ["_law_draw", "_law_tick", "_law_found", "_law_prime", "_law_blend", "_law_cell"] vs) H := by
  obtain ⟨m, w, c, n, ws, cs, r, t, rfl, hm, hw, hc, hcs, ht, htn, k⟩ := h
  refine ⟨rfl, ?_⟩
  refine ⟨.ref m, rfl, m, .int t, rfl, dget_of hm (g_turn w c r t), t, 1, rfl, rfl, .int (t + 1), .int 0, rfl, ?_⟩
  refine ⟨.int (t + 1), rfl, .ref m, rfl, m, upd H m (.dK (dkv w c r (t + 1))), rfl, .inl ⟨_, kq "turn", hm, rfl, by show 4 < sizeLine; decide, by rw [p_turn]⟩, ?_⟩
  refine ⟨by show 4 ≤ sizeLine; decide, fun p hp => ⟨p, rfl, ⟨_, .inl (.inl upd_same)⟩, ?_⟩⟩
  have npm : p ≠ m := fun e => by rw [e, upd_same] at hp; cases hp
  have ncm : c ≠ m := fun e => by rw [e, hm] at hc; cases hc
  have hp0 : H p = none := by rw [upd_ne npm] at hp; exact hp
  have ncp : c ≠ p := fun e => by rw [e, hp0] at hc; cases hc
  refine for_list (K := K) (a := p) (xs := [V.int 2147483629, V.int 2147483587, V.int 2147483579, V.int 2147483563]) (fun i σ H' => ∃ (f : Int) (v3 v4 v5 : Option V), σ = [some (.ref m), some (.int (t + 1)), some (.int f), v3, v4, v5] ∧ H' = upd (upd H m (.dK (dkv w c r (t + 1)))) p (.lst [V.int 2147483629, V.int 2147483587, V.int 2147483579, V.int 2147483563])) ⟨0, none, none, none, rfl, rfl⟩ (fun i σ H' _ ⟨_, _, _, _, _, e⟩ => by rw [e]; exact .inl (.inl upd_same)) ?_ ?_
  · rintro i x σ H' hx ⟨f, v3, v4, v5, rfl, eH⟩
    obtain ⟨pr, rfl, hpr⟩ : ∃ pr, x = V.int pr ∧ 2147483563 ≤ pr ∧ pr ≤ 2147483629 := by
      have hm2 := List.mem_of_getElem? hx
      simp only [List.mem_cons, List.not_mem_nil, or_false] at hm2
      rcases hm2 with e | e | e | e <;> exact ⟨_, e, by omega, by omega⟩
    have hm' : H' m = some (.dK (dkv w c r (t + 1))) := by rw [eH, upd_ne npm.symm, upd_same]
    have hc' : H' c = some (.lst (cs.map .int)) := by rw [eH, upd_ne ncp, upd_ne ncm]; exact hc
    refine ⟨.int (t + 1), rfl, 62617, t + 1, rfl, rfl, .inl ⟨by decide, by decide⟩, .int pr, rfl, pr, 31, rfl, rfl, ⟨by decide, by decide⟩, _, _, rfl, rfl, ?_⟩
    have hb0 : 0 ≤ 62617 * (t + 1) + Int.fdiv pr 31 ∧ 62617 * (t + 1) + Int.fdiv pr 31 < 1000000000000000000 := by
      rw [Int.fdiv_eq_ediv_of_nonneg _ (by omega)]
      omega
    refine ⟨.ref m, rfl, m, .ref c, rfl, dget_of hm' (g_cells w c r (t + 1)), c, rfl, ⟨_, .inl (.inl hc')⟩, ?_⟩
    refine for_list (K := K) (a := c) (xs := cs.map V.int) (fun j σ H'' => H'' = H' ∧ ∃ (b : Int) (u5 : Option V), σ = [some (.ref m), some (.int (t + 1)), some (.int f), some (.int pr), some (.int b), u5] ∧ 0 ≤ b ∧ b < 1000000000000000000) ⟨rfl, _, v5, rfl, hb0⟩ (fun j σ H'' _ ⟨e, _⟩ => by rw [e]; exact .inl (.inl hc')) ?_ ?_
    · rintro j y σ H'' hy ⟨rfl, b, u5, rfl, hb⟩
      obtain ⟨cv, rfl⟩ : ∃ cv, y = V.int cv := by
        rw [List.getElem?_map] at hy
        cases q : cs[j]? with
        | none => rw [q] at hy; cases hy
        | some cv => rw [q] at hy; exact ⟨cv, (Option.some.inj hy).symm⟩
      refine ⟨.int b, rfl, b, 48271, rfl, rfl, .inr ⟨by decide, by decide⟩, .int cv, rfl, _, cv, rfl, rfl, .int (t + 1), rfl, _, t + 1, rfl, rfl, .inl ⟨_, rfl, .int pr, rfl, _, pr, rfl, rfl, by omega, ?_⟩⟩
      have hf := fmod_bd (b * 48271 + cv + (t + 1)) pr (by omega)
      exact ⟨rfl, _, _, rfl, hf.1, by omega⟩
    · rintro σ H'' ⟨rfl, b, u5, rfl, hb⟩
      refine ⟨.int f, rfl, f, 2147483647, rfl, rfl, .inr ⟨by decide, by decide⟩, .int b, rfl, b, 5, rfl, rfl, ⟨by decide, by decide, by omega⟩, .inl ⟨_, rfl, .int pr, rfl, _, pr, rfl, rfl, by omega, _, _, rfl, rfl, ?_⟩⟩
      exact ⟨_, _, _, _, rfl, eH⟩
  · rintro σ H' ⟨f, v3, v4, v5, rfl, eH⟩
    refine ⟨.int f, rfl, k f H' (fun a ha o e => ?_) (by rw [eH, upd_ne npm.symm, upd_same])⟩
    have nap : a ≠ p := fun z => by rw [z, hp0] at e; cases e
    rw [eH, upd_ne nap, upd_ne ha]
    exact e
theorem pure__law_take {K : PySem.W.Frag} {ca : Str → Addr} (vs : List V) (H : Hp) (Q : VK) (E : XK) (h : sp__law_take K ca vs H Q E) : vs.length = 2 ∧ t__law_take K ca E { nx := fun _ H2 => Q .non H2, rt := Q } (start ["_law_draw", "_law_total", "_law_found"] vs) H := by
  obtain ⟨G, m, w, n, tot, rfl, ⟨hin, gm, gw, c, ws, cs, r, t, hm, hw, gc, hcw, hcs, ht, htn⟩, h0, h1, k⟩ := h
  refine ⟨rfl, ?_⟩
  have hc : H c = some (.lst (cs.map .int)) := hin.ex gc rfl
  have nmw : m ≠ w := fun e => by rw [e, hw] at hm; cases hm
  have ncm : c ≠ m := fun e => by rw [e, hm] at hc; cases hc
  -- what follows the first statement
  have tail : ∀ (H' : Hp) (ws' : List Int) (r' t' : Int), H' m = some (.dK (dkv w c r' t')) → H' w = some (.lst (ws'.map .int)) → (∀ a, a ≠ m → a ≠ w → ∀ o, H a = some o → H' a = some o) → 0 ≤ t' → t' ≤ t + 1 →
      tSeq (tAsg (tOp (rI (fun _ j => j ≠ 0) fun i j => .int (i.fmod j)) (tCB rInt1 (tCons (tDGet (tVar 0) (tC (.str "rest"))) tNil)) (tVar 1)) (gName 2)) (tSeq (sDPut (tVar 0) (tC (.str "rest")) (tOp (rI CDivN fun i j => .int (i.fdiv j)) (tDGet (tVar 0) (tC (.str "rest"))) (tVar 1))) (tRet (tVar 2)))
        { nx := fun _ H2 => Q .non H2, rt := Q } (start ["_law_draw", "_law_total", "_law_found"] [.ref m, .int tot]) H' := by
    intro H' ws' r' t' hm' hw' hk ht' htn'
    refine ⟨.ref m, rfl, m, .int r', rfl, dget_of hm' (g_rest w c r' t'), .inl ⟨r', rfl, .int tot, rfl, r', tot, rfl, rfl, by omega, ?_⟩⟩
    refine ⟨.ref m, rfl, m, .int r', rfl, dget_of hm' (g_rest w c r' t'), .int tot, rfl, r', tot, rfl, rfl, ⟨by omega, by omega⟩, .ref m, rfl, m, upd H' m (.dK (dkv w c (r'.fdiv tot) t')), rfl, .inl ⟨_, kq "rest", hm', rfl, by show 4 < sizeLine; decide, by rw [p_rest]⟩, ?_⟩
    have hf := fmod_bd r' tot h0
    have hc' : H' c = some (.lst (cs.map .int)) := hk c ncm hcw _ hc
    refine ⟨.int (r'.fmod tot), rfl, k _ _ hf.1 hf.2 ?_ ?_⟩
    · refine ⟨Le.refl _, fun a o e => ?_, fun a h1 h2 o e => by rw [upd_ne h1]; exact hk a h1 h2 o e, fun a o e => .inl e⟩
      have n1 : a ≠ m := fun z => by rw [z, gm] at e; cases e
      have n2 : a ≠ w := fun z => by rw [z, gw] at e; cases e
      rw [upd_ne n1]
      rcases hin a o e with q | ⟨q1, ob, q⟩
      · exact .inl (hk a n1 n2 _ q)
      · exact .inr ⟨q1, ob, hk a n1 n2 _ q⟩
    · refine ⟨fun a o e => ?_, gm, gw, c, ws', cs, r'.fdiv tot, t', upd_same, by rw [upd_ne nmw.symm]; exact hw', gc, hcw, hcs, ht', by omega⟩
      have n1 : a ≠ m := fun z => by rw [z, gm] at e; cases e
      have n2 : a ≠ w := fun z => by rw [z, gw] at e; cases e
      rw [upd_ne n1]
      rcases hin a o e with q | ⟨q1, ob, q⟩
      · exact .inl (hk a n1 n2 _ q)
      · exact .inr ⟨q1, ob, hk a n1 n2 _ q⟩
  refine ⟨.ref m, rfl, m, .int r, rfl, dget_of hm (g_rest w c r t), rfl, _, rfl, ?_⟩
  by_cases hr : V.int r = V.int 0
  · dsimp only
    rw [if_pos (decide_eq_true hr)]
    refine ⟨.ref m, rfl, m, .ref w, rfl, dget_of hm (g_wide w c r t), Nat.zero_le _, fun p hp => ?_⟩
    have npm : p ≠ m := fun e => by rw [e, hm] at hp; cases hp
    have npw : p ≠ w := fun e => by rw [e, hw] at hp; cases hp
    have npc : p ≠ c := fun e => by rw [e, hc] at hp; cases hp
    have hm1 : upd H p (.lst []) m = some (.dK (dkv w c r t)) := by rw [upd_ne npm.symm]; exact hm
    have hw1 : upd H p (.lst []) w = some (.lst (ws.map .int)) := by rw [upd_ne npw.symm]; exact hw
    have hc1 : upd H p (.lst []) c = some (.lst (cs.map .int)) := by rw [upd_ne npc.symm]; exact hc
    have dws : ∀ xs : List Int, DpAll K (upd H p (.lst [])) (xs.map V.int) (xs.map .int) := by
      intro xs
      induction xs with
      | nil => exact .nil
      | cons x xs ih => exact .cons (.int x) ih
    refine ⟨dL dI ws, dL dI [], .lst (.inl (.inl hw1)) (dws ws), .lst (.inl (.inl upd_same)) .nil, (eqt_L eqt_I).shaped (by decide) (fun _ _ => trivial), (eqt_L eqt_I).shaped (by decide) (fun _ _ => trivial), _, rfl, ?_⟩
    dsimp only
    rw [(eqt_L eqt_I).eq]
    cases ws with
    | nil =>
      rw [if_neg (by simp)]
      refine ⟨.ref m, rfl, m, w, c, n, [], cs, r, t, rfl, hm1, hw1, hc1, hcs, ht, by omega, fun v H2 k2 e2 => ?_⟩
      refine ⟨.ref m, rfl, m, upd H2 m (.dK (dkv w c v (t + 1))), rfl, .inl ⟨_, kq "rest", e2, rfl, by show 4 < sizeLine; decide, by rw [p_rest]⟩, ?_⟩
      refine tail _ [] v (t + 1) upd_same (by rw [upd_ne nmw.symm]; exact k2 w nmw.symm _ hw1) (fun a n1 n2 o e => ?_) (by omega) (by omega)
      have nap : a ≠ p := fun z => by rw [z, hp] at e; cases e
      rw [upd_ne n1]
      exact k2 a n1 o (by rw [upd_ne nap]; exact e)
    | cons x ws =>
      rw [if_pos (by simp)]
      refine ⟨.ref m, rfl, m, .ref w, rfl, dget_of hm1 (g_wide w c r t), .inl ⟨rfl, _, .inl (.inl hw1)⟩, w, _, 0, 0, .int x, rfl, rfl, hw1, by decide, by decide, ?_, rfl, ?_⟩
      · show seqIndex? 0 ((x :: ws).map V.int).length = some 0
        rw [List.length_map, List.length_cons]
        unfold seqIndex?
        simp
      · have hm2 : upd (upd H p (.lst [])) w (.lst (((x :: ws).map V.int).eraseIdx 0)) m = some (.dK (dkv w c r t)) := by rw [upd_ne nmw]; exact hm1
        refine ⟨.ref m, rfl, m, upd (upd (upd H p (.lst [])) w (.lst (((x :: ws).map V.int).eraseIdx 0))) m (.dK (dkv w c x t)), rfl, .inl ⟨_, kq "rest", hm2, rfl, by show 4 < sizeLine; decide, by rw [p_rest]⟩, ?_⟩
        refine tail _ ws x t upd_same (by rw [upd_ne nmw.symm, upd_same]; rfl) (fun a n1 n2 o e => ?_) ht (by omega)
        have nap : a ≠ p := fun z => by rw [z, hp] at e; cases e
        rw [upd_ne n1, upd_ne n2, upd_ne nap]
        exact e
  · dsimp only
    rw [if_neg (by simpa using hr)]
    exact tail H ws r t hm hw (fun _ _ _ _ e => e) ht (by omega)
end Z

namespace Z
open PySem PySem.Spec PyProof.Rows L2
/-! ### the script, the draws' beginning -/
theorem sql_in {K : PySem.W.Frag} {G H : Hp} {a : Addr} {xs : List V} (h : SqL K G a xs) (i : In G H) : SqL K H a xs := by
  rcases h with q | q
  · rcases q with q | ⟨o, q⟩
    · exact .inl (.inl (i.ex q rfl))
    · exact .inl (.inr ⟨o, i.ex q rfl⟩)
  · exact .inr q
theorem sql_le {K : PySem.W.Frag} {G H : Hp} {a : Addr} {xs : List V} (h : SqL K G a xs) (i : Le G H) : SqL K H a xs := by
  rcases h with q | q
  · rcases q with q | ⟨o, q⟩
    · exact .inl (.inl (i _ _ q))
    · exact .inl (.inr ⟨o, i _ _ q⟩)
  · exact .inr q
theorem wk_scr {K : PySem.W.Frag} {G : Hp} {a : Addr} {ns : List Int} (h : SqL K G a (ns.map .int)) : WkD K (Itl K a) G (ns.map .int) := fun G' H' l i => by
  have e : SqL K H' a (ns.map .int) := sql_in (sql_le h l) i
  have W := walk_list (K := K) (a := a) (xs := ns.map .int)
  refine ⟨by have := W.stops H' e; rw [List.length_map] at this ⊢; exact this, fun j d hd => ?_⟩
  rw [List.getElem?_map] at hd
  cases hn : ns[j]? with
  | none => rw [hn] at hd; cases hd
  | some n =>
    rw [hn] at hd
    cases hd
    have hj : j < (ns.map V.int).length := by rw [List.length_map]; exact (List.getElem?_eq_some_iff.mp hn).1
    refine ⟨W.goes j H' hj e, fun x H2 y => ?_⟩
    obtain ⟨e1, e2⟩ := W.yields j H' x H2 hj e y
    rw [List.getElem?_map, hn] at e2
    cases e2
    subst e1
    exact ⟨G', Up.refl i, .int n⟩
theorem ei_scr {K : PySem.W.Frag} {G : Hp} {σ : L2.St} {k : Nat} {a : Addr} {ns : List Int} (hv : σ[k]? = some (some (.ref a))) (h : SqL K G a (ns.map .int)) : EvI K (iList K (tVar k)) σ G (ns.map .int) := fun G1 H1 l i R q =>
  ⟨.ref a, hv, a, rfl, ⟨_, sql_in (sql_le h l) i⟩, q _ G1 H1 (Up.refl i) (wk_scr (sql_le h l))⟩
theorem merge4 (w c : Addr) : mergeK [] [(kq "wide", V.ref w), (kq "cells", .ref c), (kq "rest", .int 0), (kq "turn", .int 0)] = dkv w c 0 0 := by
  have e1 := of_decide_eq_false k12
  have e2 := of_decide_eq_false k13
  have e3 := of_decide_eq_false k14
  have e4 := of_decide_eq_false k23
  have e5 := of_decide_eq_false k24
  have e6 := of_decide_eq_false k34
  unfold mergeK dkv
  simp only [List.foldl_cons, List.foldl_nil, putK_putE]
  simp only [putE, List.any_nil, List.any_cons, List.nil_append, List.cons_append, decide_eq_false e1, decide_eq_false e2, decide_eq_false e3, decide_eq_false e4, decide_eq_false e5, decide_eq_false e6, Bool.or_false, if_false, Bool.false_eq_true]
def sp__law_begun (K : PySem.W.Frag) (ca : Str → Addr) : Sp := fun vs H Q E => ∃ (G : Hp) (a : Addr) (ns : List Int), vs = [.ref a] ∧ In G H ∧ SqL K G a (ns.map .int) ∧ ns.length ≤ 1000 ∧
  ∀ m w G2 H2, Le G G2 → Le H H2 → DOk m w 1000000000000 G2 H2 → Q (.ref m) H2
def t__law_begun (K : PySem.W.Frag) (ca : Str → Addr) (E : XK) : TS := (tSeq ((tAsg (tLc ((iList K ((tVar 0)))) ((gName 2)) ((tTest (tOp (rI0 fun i j => .bl (decide (j ≤ i))) ((tCB (rAbs) ((tCons ((tVar 2)) (tNil))))) ((tOp (rI CPow fun i j => .int (i ^ j.toNat)) (tC (.int 10)) (tC (.int 18))))))) ((tOp (rI0 fun i j => .int (i - j)) ((tCB (rAbs) ((tCons ((tVar 2)) (tNil))))) ((tOp (rI CPow fun i j => .int (i ^ j.toNat)) (tC (.int 10)) (tC (.int 18)))))) [2]) (gName 1))) ((tRet ((tDisp [(tC (.str "wide"), (tVar 1)), (tC (.str "cells"), (tLc ((iList K ((tVar 0)))) ((gName 2)) (tYes) ((tOp (rI (fun _ j => j ≠ 0) fun i j => .int (i.fmod j)) ((tCB (rInt1) ((tCons ((tCB (rAbs) ((tCons ((tVar 2)) (tNil))))) (tNil))))) (tC (.int 2147483629)))) [2])), (tC (.str "rest"), tC (.int 0)), (tC (.str "turn"), tC (.int 0))])))))
theorem pure__law_begun {K : PySem.W.Frag} {ca : Str → Addr} (vs : List V) (H : Hp) (Q : VK) (E : XK) (h : sp__law_begun K ca vs H Q E) : vs.length = 1 ∧ t__law_begun K ca E { nx := fun _ H2 => Q .non H2, rt := Q } (start ["_law_script", "_law_wide", "_law_cell"] vs) H := by
  obtain ⟨G, a, ns, rfl, hin, hs, hl, k⟩ := h
  refine ⟨rfl, ?_⟩
  unfold t__law_begun tSeq tAsg tRet tDisp
  refine lc_new (D := dI) (xs := ns) (p := fun c => decide ((10 : Int) ^ (18 : Int).toNat ≤ (c.natAbs : Int))) (f := fun c => dI ((c.natAbs : Int) - (10 : Int) ^ (18 : Int).toNat)) (B := fun z σ2 G => ∃ x, σ2 = (wipe (start ["_law_script", "_law_wide", "_law_cell"] [.ref a]) [2]).set 2 (some x) ∧ Rp K G x (dI z)) (ei_scr (k := 0) rfl hs) (fun z _ => bnd_name) (fun z _ σ2 G ⟨x, e, _⟩ => by rw [e]; exact wipe1) (fun z _ G1 σ2 l1 ⟨x, e, r⟩ => ?_) (fun z _ _ G1 σ2 l1 ⟨x, e, r⟩ => ?_) (fun z σ2 G1 G2 l2 ⟨x, e, r⟩ => ⟨x, e, r.mono l2⟩) (by omega) (Le.refl _) hin ?_
  · subst e
    exact et_test (ev_op (ev_cb (ea_cons (ev_var rfl r) ea_nil) cav_abs) (ev_op ev_int ev_int (opv_pow ⟨by decide, by decide, by decide⟩)) opv_ge)
  · subst e
    exact ev_op (ev_cb (ea_cons (ev_var rfl r) ea_nil) cav_abs) (ev_op ev_int ev_int (opv_pow ⟨by decide, by decide, by decide⟩)) opv_sub
  intro w G3 H3 acc hw gw u3 i3 e3 r3
  intro p hp
  unfold tPairs tC tPairs tVar
  refine ⟨.ref w, rfl, ?_⟩
  have i4 : In G3 (upd H3 p (.dK [])) := i3.mut (i3.no hp)
  refine lc_new (D := dI) (xs := ns) (p := fun _ => true) (f := fun c => dI ((c.natAbs : Int).fmod 2147483629)) (B := fun z σ2 G => ∃ x, σ2 = (wipe ((start ["_law_script", "_law_wide", "_law_cell"] [.ref a]).set 1 (some (.ref w))) [2]).set 2 (some x) ∧ Rp K G x (dI z)) (ei_scr (k := 0) rfl (sql_le hs u3.g)) (fun z _ => bnd_name) (fun z _ σ2 G ⟨x, e, _⟩ => by rw [e]; exact wipe1) (fun z _ G1 σ2 l1 ⟨x, e, r⟩ => ?_) (fun z _ _ G1 σ2 l1 ⟨x, e, r⟩ => ?_) (fun z σ2 G1 G2 l2 ⟨x, e, r⟩ => ⟨x, e, r.mono l2⟩) (by omega) (Le.refl _) i4 ?_
  · exact fun G1 H1 l i Q q => q G1 H1 (Up.refl i)
  · subst e
    exact ev_op (ev_cb (ea_cons (ev_cb (ea_cons (ev_var rfl r) ea_nil) cav_abs) ea_nil) cav_int) ev_int (opv_mod (by decide))
  intro c G5 H5 acc2 hc gc u5 i5 e5 r5
  have nwp : w ≠ p := fun e => by rw [e, hp] at e3; cases e3
  have ncp : c ≠ p := fun e => by rw [e, upd_same] at hc; cases hc
  have ncw : c ≠ w := fun e => by rw [e, upd_ne nwp, e3] at hc; cases hc
  have up5 : ∀ b, b ≠ c → ∀ o, upd H3 p (.dK []) b = some o → H5 b = some o := fun b nb o e => by
    have := u5.h b o e
    simp only [if_neg nb] at this
    exact this
  have hp5 : H5 p = some (.dK []) := up5 p ncp.symm _ upd_same
  have hw5 : H5 w = some (.lst acc) := up5 w ncw.symm _ (by rw [upd_ne nwp]; exact e3)
  have hp0 : H p = none := by
    cases q : H p with
    | none => rfl
    | some o =>
      have := u3.h p o q
      simp only [if_neg nwp.symm] at this
      rw [hp] at this; cases this
  have le5 : Le H H5 := fun b o e => by
    have nw : b ≠ w := fun z => by rw [z, hw] at e; cases e
    have np : b ≠ p := fun z => by rw [z, hp0] at e; cases e
    have h3 := u3.h b o e
    simp only [if_neg nw] at h3
    have nc : b ≠ c := fun z => by rw [← z, upd_ne np, h3] at hc; cases hc
    exact up5 b nc o (by rw [upd_ne np]; exact h3)
  refine ⟨hp5, [(kq "wide", V.ref w), (kq "cells", .ref c), (kq "rest", .int 0), (kq "turn", .int 0)], rfl, by show 4 ≤ 15; decide, ?_⟩
  rw [merge4]
  have gw0 : G w = none := hin.no hw
  have gp0 : G p = none := hin.no hp0
  have hc0 : H c = none := by
    cases q : H c with
    | none => rfl
    | some o =>
      have := u3.h c o q
      simp only [if_neg ncw] at this
      rw [upd_ne ncp, this] at hc; cases hc
  have gc0 : G c = none := hin.no hc0
  have le6 : Le H (upd H5 p (.dK (dkv w c 0 0))) := fun b o e => by
    rw [upd_ne (fun z => by rw [z, hp0] at e; cases e)]; exact le5 b o e
  refine k p w (upd G c (.lst acc2)) _ (fun b o e => ?_) le6 ⟨fun b o e => ?_, by rw [upd_ne ncp.symm]; exact gp0, by rw [upd_ne ncw.symm]; exact gw0, ?_⟩
  · rw [upd_ne (fun z => by rw [z, gc0] at e; cases e)]; exact e
  · by_cases hb : b = c
    · subst hb; rw [upd_same] at e; cases e; rw [upd_ne ncp]; exact .inl e5
    · rw [upd_ne hb] at e
      exact (hin.ge le6) b o e
  · have ea := rpa_ints (ns := (ns.filter fun c => decide ((10 : Int) ^ (18 : Int).toNat ≤ (c.natAbs : Int))).map fun c => (c.natAbs : Int) - (10 : Int) ^ (18 : Int).toNat) (by rw [List.map_map]; exact r3)
    have eb := rpa_ints (ns := ns.map fun c => (c.natAbs : Int).fmod 2147483629) (by rw [List.map_map]; rw [List.filter_eq_self.mpr (fun _ _ => rfl)] at r5; exact r5)
    refine ⟨c, _, _, 0, 0, upd_same, by rw [upd_ne nwp, hw5, ea], by rw [upd_same, eb], ncw, fun x hx => ?_, by decide, by decide⟩
    obtain ⟨y, _, rfl⟩ := List.mem_map.mp hx
    have := fmod_bd (y.natAbs : Int) 2147483629 (by decide)
    omega
end Z

namespace Z
open PySem PySem.Spec PyProof.Rows L2
def sp__law_shuffled (K : PySem.W.Frag) (ca : Str → Addr) : Sp := fun vs H Q E => ∃ (α : Type) (_ : DecidableEq α) (D : α → PyData) (ok : α → Prop) (dn : Nat) (G : Hp) (m w : Addr) (n : Nat) (v : V) (xs : List α), Eqt D ok dn ∧ dn < 64 ∧ (∀ x ∈ xs, ok x) ∧ vs = [.ref m, v] ∧ DOk m w (n + xs.length) G H ∧ Rp K G v (dL D xs) ∧ xs.length ≤ 100000 ∧
  ∀ u ys G2 H2, List.Perm ys xs → UpM m w G H G2 H2 → DOk m w n G2 H2 → Rp K G2 u (dL D ys) → Q u H2
theorem rpa_app {K : PySem.W.Frag} {G : Hp} : ∀ {v1 v2 : List V} {d1 d2 : List PyData}, RpA K G v1 d1 → RpA K G v2 d2 → RpA K G (v1 ++ v2) (d1 ++ d2)
  | _, _, _, _, .nil, h => h
  | _, _, _, _, .cons h a, h2 => .cons h (rpa_app a h2)
theorem rpa_erase {K : PySem.W.Frag} {G : Hp} : ∀ {v1 : List V} {d1 : List PyData} (k : Nat), RpA K G v1 d1 → RpA K G (v1.eraseIdx k) (d1.eraseIdx k)
  | _, _, _, .nil => .nil
  | _, _, 0, .cons h a => a
  | _, _, k + 1, .cons h a => .cons h (rpa_erase k a)
theorem perm_erase {α : Type} : ∀ (l : List α) (k : Nat) (y : α), l[k]? = some y → List.Perm (y :: l.eraseIdx k) l
  | [], _, _, h => by simp at h
  | x :: l, 0, y, h => by simp at h; subst h; exact List.Perm.refl _
  | x :: l, k + 1, y, h => by
    have := perm_erase l k y (by simpa using h)
    exact (List.Perm.swap x y _).trans (this.cons x)
theorem map_erase {α β : Type} (f : α → β) : ∀ (l : List α) (k : Nat), (l.eraseIdx k).map f = (l.map f).eraseIdx k
  | [], _ => rfl
  | x :: l, 0 => rfl
  | x :: l, k + 1 => by simp [List.eraseIdx, map_erase f l k]
def t__law_shuffled (K : PySem.W.Frag) (ca : Str → Addr) (E : XK) : TS := (tSeq ((tPar 2 3 ((tCons ((tCB (rListOf K) ((tCons ((tVar 1)) (tNil))))) ((tCons ((tLst (tNil))) (tNil))))))) ((tSeq ((tWhile ((tTest (tOp (rNeD K) ((tVar 2)) ((tLst (tNil)))))) ((tDrop ((tBM K "list" rAppend ((tVar 3)) ((tCons ((tBM K "list" rPopAt ((tVar 2)) ((tCons ((tCall (sp__law_take K ca) [] E ((tCons ((tVar 0)) ((tCons ((tCB (rLenU K) ((tCons ((tVar 2)) (tNil))))) (tNil))))))) (tNil))))) (tNil))))))))) ((tRet ((tVar 3)))))))
theorem pure__law_shuffled {K : PySem.W.Frag} {ca : Str → Addr} (vs : List V) (H : Hp) (Q : VK) (E : XK) (h : sp__law_shuffled K ca vs H Q E) : vs.length = 2 ∧ t__law_shuffled K ca E { nx := fun _ H2 => Q .non H2, rt := Q } (start ["_law_draw", "_law_some", "_law_left", "_law_found"] vs) H := by
  obtain ⟨α, _, D, ok, dn, G, m, w, n, v, xs, eq, hdn, hok, rfl, d, hv, hl, k⟩ := h
  refine ⟨rfl, ?_⟩
  obtain ⟨a, vs, rfl, ha, hvs⟩ := rp_ref hv
  refine ⟨.ref a, rfl, a, vs, rfl, .inl (.inl (.inl (d.i.ex ha rfl))), fun p1 hp1 => ⟨Nat.zero_le _, fun p2 hp2 => ⟨_, _, rfl, ?_⟩⟩⟩
  have n12 : p2 ≠ p1 := fun e => by rw [e, upd_same] at hp2; cases hp2
  have hp2' : H p2 = none := by rw [upd_ne n12] at hp2; exact hp2
  have hm0 := d.hm
  have hw0 := d.hw
  have m1 : p1 ≠ m := fun e => hm0 (by rw [← e]; exact hp1)
  have m2 : p2 ≠ m := fun e => hm0 (by rw [← e]; exact hp2')
  have w1 : p1 ≠ w := fun e => hw0 (by rw [← e]; exact hp1)
  have w2 : p2 ≠ w := fun e => hw0 (by rw [← e]; exact hp2')
  have g1 : G p1 = none := d.i.no hp1
  have g2 : G p2 = none := d.i.no hp2'
  have u1 := Up.hid (o := .lst vs) d.i hp1
  have u2 := u1.trans (Up.hid (o := .lst []) u1.i hp2)
  refine ⟨fun M σ H' => ∃ (ls fs : List α) (vl vf : List V), M = ls.length ∧ σ = [some (.ref m), some (.ref a), some (.ref p1), some (.ref p2)] ∧ H' p1 = some (.lst vl) ∧ H' p2 = some (.lst vf) ∧ RpA K G vl (ls.map D) ∧ RpA K G vf (fs.map D) ∧ List.Perm (fs ++ ls) xs ∧ (∀ b, b ≠ m → b ≠ w → ∀ o, H b = some o → H' b = some o) ∧ DOk m w (n + ls.length) G H',
    ⟨_, xs, [], vs, [], rfl, rfl, by rw [upd_ne n12.symm, upd_same], upd_same, hvs, .nil, List.Perm.refl _, fun b _ _ o e => u2.h b o e, d.up u2⟩, ?_⟩
  rintro M σ H' ⟨ls, fs, vl, vf, rfl, rfl, h1, h2, r1, r2, pm, hk, dk⟩
  refine ⟨.ref p1, rfl, Nat.zero_le _, fun q hq => ?_⟩
  have nq1 : p1 ≠ q := fun e => by rw [← e, h1] at hq; cases hq
  have nq2 : p2 ≠ q := fun e => by rw [← e, h2] at hq; cases hq
  have uq := Up.hid (o := .lst []) dk.i hq
  have okl : ∀ x ∈ ls, ok x := fun x hx => hok x (pm.subset (List.mem_append.mpr (.inr hx)))
  have sh1 : SeqAt.shaped (dL D ls) = true := (eqt_L eq).shaped (by omega) okl
  have sh2 : SeqAt.shaped (dL D []) = true := (eqt_L eq).shaped (by omega) (fun _ h => by cases h)
  have df1 : dicFs (ls.map D) = true := by
    have := dicF_of_lay _ (SeqAt.canLay_of_shaped sh1)
    simpa [dL, dicF] using this
  refine ⟨dL D ls, dL D [], .lst (.inl (.inl (by rw [upd_ne nq1]; exact h1))) (r1.dp uq.i df1), .lst (.inl (.inl upd_same)) .nil, sh1, sh2, _, rfl, ?_⟩
  dsimp only
  rw [(eqt_L eq).eq]
  cases ls with
  | nil =>
    rw [if_neg (by simp)]
    obtain rfl := rpa_nil r1
    refine ⟨.ref p2, rfl, ?_⟩
    have dq := dk.up uq
    have hh2 : upd H' q (.lst []) p2 = some (.lst vf) := by rw [upd_ne nq2]; exact h2
    have lg : Le G (upd G p2 (.lst vf)) := fun b o e => by
      rw [upd_ne (fun z => by rw [z, g2] at e; cases e)]; exact e
    have ig : In (upd G p2 (.lst vf)) (upd H' q (.lst [])) := fun b o e => by
      by_cases hb : b = p2
      · subst hb; rw [upd_same] at e; cases e; exact .inl hh2
      · rw [upd_ne hb] at e; exact dq.i b o e
    refine k _ fs _ _ (by simpa using pm) ⟨lg, ig, fun b n1 n2 o e => uq.h b o (hk b n1 n2 o e), fun b o e => ?_⟩ ⟨ig, by rw [upd_ne m2.symm]; exact dq.gm, by rw [upd_ne w2.symm]; exact dq.gw, dq.d.up lg (Le.refl _)⟩ (.lst upd_same (r2.mono lg))
    by_cases hb : b = p2
    · subst hb; exact .inr hp2'
    · rw [upd_ne hb] at e; exact .inl e
  | cons x ls =>
    rw [if_pos (by simp)]
    have dq := dk.up uq
    have hh1 : upd H' q (.lst []) p1 = some (.lst vl) := by rw [upd_ne nq1]; exact h1
    have hh2 : upd H' q (.lst []) p2 = some (.lst vf) := by rw [upd_ne nq2]; exact h2
    have hvl : vl.length = ls.length + 1 := by rw [r1.len, List.length_map, List.length_cons]
    have hlx : fs.length + (ls.length + 1) = xs.length := by have := pm.length_eq; rw [List.length_append, List.length_cons] at this; exact this
    refine ⟨fun σ' H' => ∃ m', m' < (x :: ls).length ∧ ∃ (ls fs : List α) (vl vf : List V), m' = ls.length ∧ σ' = [some (.ref m), some (.ref a), some (.ref p1), some (.ref p2)] ∧ H' p1 = some (.lst vl) ∧ H' p2 = some (.lst vf) ∧ RpA K G vl (ls.map D) ∧ RpA K G vf (fs.map D) ∧ List.Perm (fs ++ ls) xs ∧ (∀ b, b ≠ m → b ≠ w → ∀ o, H b = some o → H' b = some o) ∧ DOk m w (n + ls.length) G H', fun σ' H' z => z, ?_⟩
    refine ⟨.ref p2, rfl, .inl ⟨rfl, _, .inl (.inl hh2)⟩, .ref p1, rfl, .inl ⟨rfl, _, .inl (.inl hh1)⟩, .ref m, rfl, .ref p1, rfl, .ref p1, vl.length, rfl, .inl ⟨vl, .inl (.inl hh1), rfl⟩, ?_⟩
    refine ⟨G, m, w, n + ls.length, (vl.length : Int), rfl, dq.mono (by simp; omega), by omega, by omega, fun i H3 i0 i1 u3 d3 => ?_⟩
    have h31 : H3 p1 = some (.lst vl) := u3.h _ m1 w1 _ hh1
    have h32 : H3 p2 = some (.lst vf) := u3.h _ m2 w2 _ hh2
    obtain ⟨j, rfl⟩ : ∃ j : Nat, i = (j : Int) := ⟨i.toNat, by omega⟩
    have hj : j < (x :: ls).length := by rw [List.length_cons]; omega
    obtain ⟨y, hy1, hy2⟩ := r1.get (i := j) (d := D (x :: ls)[j]) (by rw [List.getElem?_map, List.getElem?_eq_getElem hj]; rfl)
    refine ⟨p1, vl, j, j, y, rfl, rfl, h31, by omega, by omega, ?_, hy1, p2, vf, y, rfl, rfl, by rw [upd_ne n12]; exact h32, ?_, ?_⟩
    · unfold seqIndex?
      simp [hvl]
      omega
    · have : vf.length = fs.length := by rw [r2.len, List.length_map]
      have : vf.length ≤ 100000 := by omega
      exact Nat.lt_of_le_of_lt this (by decide)
    · refine ⟨ls.length, by simp, (x :: ls).eraseIdx j, fs ++ [(x :: ls)[j]], vl.eraseIdx j, vf ++ [y], by rw [List.length_eraseIdx_of_lt hj]; simp, rfl, by rw [upd_ne n12.symm, upd_same], upd_same, by rw [map_erase]; exact rpa_erase j r1, by rw [List.map_append]; exact rpa_app r2 (.cons hy2 .nil), ?_, fun b n1 n2 o e => ?_, ?_⟩
      · rw [List.append_assoc]
        exact (List.Perm.append_left fs (perm_erase _ _ _ (List.getElem?_eq_getElem hj))).trans pm
      · have e1 : b ≠ p1 := fun z => by rw [z, hp1] at e; cases e
        have e2 : b ≠ p2 := fun z => by rw [z, hp2'] at e; cases e
        rw [upd_ne e2, upd_ne e1]
        exact u3.h b n1 n2 o (uq.h b o (hk b n1 n2 o e))
      · obtain ⟨c, ws, cs, r, t, e1, e2, e3, e4, e5, e6, e7⟩ := d3.d
        have hle : ((x :: ls).eraseIdx j).length = ls.length := by rw [List.length_eraseIdx_of_lt hj]; simp
        refine ⟨(d3.i.mut g1).mut g2, d3.gm, d3.gw, c, ws, cs, r, t, by rw [upd_ne m2.symm, upd_ne m1.symm]; exact e1, by rw [upd_ne w2.symm, upd_ne w1.symm]; exact e2, e3, e4, e5, e6, by rw [hle]; exact e7⟩
end Z

namespace Z
open PySem PySem.Spec PyProof.Rows L2
/-! ### expressions that draw -/
/-- t gives a thing of D, one of P, and takes b turns -/
def EvN (K : PySem.W.Frag) (m w : Addr) (b : Nat) (t : TE) (σ : L2.St) (G : Hp) {α : Type} (D : α → PyData) (P : α → Prop) : Prop :=
  ∀ n G1 H1, Le G G1 → DOk m w (n + b) G1 H1 → ∀ Q : VK, (∀ v a G2 H2, UpM m w G1 H1 G2 H2 → DOk m w n G2 H2 → P a → Rp K G2 v (D a) → Q v H2) → t σ H1 Q
def EaN (K : PySem.W.Frag) (m w : Addr) (b : Nat) (t : TA) (σ : L2.St) (G : Hp) (P : List PyData → Prop) : Prop :=
  ∀ n G1 H1, Le G G1 → DOk m w (n + b) G1 H1 → ∀ Q : List V → Hp → Prop, (∀ vs ds G2 H2, UpM m w G1 H1 G2 H2 → DOk m w n G2 H2 → P ds → RpA K G2 vs ds → Q vs H2) → t σ H1 Q
section
variable {K : PySem.W.Frag} {ca : Str → Addr} {E : XK} {σ : L2.St} {G H : Hp} {ta tb te tx : TE} {tt : TT} {wi : TI} {D : Ends} {m w : Addr} {b b' n : Nat}
theorem en_ev {α : Type} {DD : α → PyData} {a : α} (h : Ev K te σ G (DD a)) : EvN K m w 0 te σ G DD (fun x => x = a) := fun n G1 H1 l d Q q => h G1 H1 l d.i Q fun v G2 H2 u r => q v a G2 H2 (.of u) (d.up u) rfl r
theorem EvN.imp {α : Type} {DD : α → PyData} {P P' : α → Prop} (h : EvN K m w b te σ G DD P) (f : ∀ a, P a → P' a) : EvN K m w b te σ G DD P' := fun n G1 H1 l d Q q => h n G1 H1 l d Q fun v a G2 H2 u d2 p r => q v a G2 H2 u d2 (f a p) r
theorem EvN.mono {α : Type} {DD : α → PyData} {P : α → Prop} {G' : Hp} (l : Le G G') (h : EvN K m w b te σ G DD P) : EvN K m w b te σ G' DD P := fun n G1 H1 l1 d Q q => h n G1 H1 (l.trans l1) d Q q
theorem en_take {k : Nat} {tot : Int} (hv : σ[k]? = some (some (.ref m))) (ht : Ev K te σ G (.int tot)) (h0 : 0 < tot) (h1 : tot < 1000000000) : EvN K m w 1 (tCall (sp__law_take K ca) [] E (tCons (tVar k) (tCons te tNil))) σ G dI (fun i => 0 ≤ i ∧ i < tot) := fun n G1 H1 l d Q q =>
  ⟨.ref m, hv, ht G1 H1 l d.i _ fun v G2 H2 u2 r2 => by
    rw [rp_int r2]
    refine ⟨G2, m, w, n, tot, rfl, d.up u2, h0, h1, fun v H3 a1 a2 u3 d3 => q _ v G2 H3 (UpM.trans (d.up u2) (.of u2) u3) d3 ⟨a1, a2⟩ (.int _)⟩⟩
theorem en_op {α β γ : Type} {DA : α → PyData} {DB : β → PyData} {DC : γ → PyData} {PA : α → Prop} {PB : β → Prop} {r : R2} {f : α → β → γ} (ha : EvN K m w b ta σ G DA PA) (hb : EvN K m w b' tb σ G DB PB) (hr : ∀ x y, PA x → PB y → OpV K r (DA x) (DB y) (DC (f x y))) : EvN K m w (b' + b) (tOp r ta tb) σ G DC (fun c => ∃ x y, PA x ∧ PB y ∧ c = f x y) := fun n G1 H1 l d Q q =>
  ha (n + b') G1 H1 l (by rw [Nat.add_assoc]; exact d) _ fun v x G2 H2 u2 d2 p2 r2 => hb n G2 H2 (l.trans u2.g) d2 _ fun v' y G3 H3 u3 d3 p3 r3 =>
    hr x y p2 p3 G3 H3 v v' d3.i (r2.mono u3.g) r3 Q fun z G4 H4 u4 r4 => q z _ G4 H4 (UpM.trans d3 (UpM.trans d2 u2 u3) (.of u4)) (d3.up u4) ⟨x, y, p2, p3, rfl⟩ r4
theorem ean_nil : EaN K m w 0 tNil σ G (fun ds => ds = []) := fun n G1 H1 l d Q q => q [] [] G1 H1 (.refl d.i) d rfl .nil
theorem ean_cons {α : Type} {DA : α → PyData} {PA : α → Prop} {tr : TA} {P : List PyData → Prop} (ha : EvN K m w b ta σ G DA PA) (hr : EaN K m w b' tr σ G P) : EaN K m w (b' + b) (tCons ta tr) σ G (fun ds => ∃ a r, ds = DA a :: r ∧ PA a ∧ P r) := fun n G1 H1 l d Q q =>
  ha (n + b') G1 H1 l (by rw [Nat.add_assoc]; exact d) _ fun v x G2 H2 u2 d2 p2 r2 => hr n G2 H2 (l.trans u2.g) d2 _ fun vs ds G3 H3 u3 d3 p3 r3 =>
    q (v :: vs) (DA x :: ds) G3 H3 (UpM.trans d2 u2 u3) d3 ⟨x, ds, rfl, p2, p3⟩ (.cons (r2.mono u3.g) r3)
/-- a shuffled list -/
theorem en_shuffled {α : Type} [DecidableEq α] {DD : α → PyData} {ok : α → Prop} {dn : Nat} {xs : List α} {k : Nat} (hv : σ[k]? = some (some (.ref m))) (ht : Ev K te σ G (dL DD xs)) (eq : Eqt DD ok dn) (hdn : dn < 64) (hok : ∀ x ∈ xs, ok x) (hl : xs.length ≤ 100000) :
    EvN K m w xs.length (tCall (sp__law_shuffled K ca) [] E (tCons (tVar k) (tCons te tNil))) σ G (dL DD) (fun ys => List.Perm ys xs) := fun n G1 H1 l d Q q =>
  ⟨.ref m, hv, ht G1 H1 l d.i _ fun v G2 H2 u2 r2 => by
    refine ⟨α, inferInstance, DD, ok, dn, G2, m, w, n, v, xs, eq, hdn, hok, rfl, d.up u2, r2, hl, fun v ys G3 H3 pm u3 d3 r3 => q _ ys G3 H3 (UpM.trans (d.up u2) (.of u2) u3) d3 pm r3⟩⟩
theorem en_slL {α : Type} {DD : α → PyData} {P : List α → Prop} {tl th : TO} {lo hi : Option Int} (h : EvN K m w b te σ G (dL DD) P) (hl : ∀ G1, Le G G1 → EvO tl σ G1 lo) (hh : ∀ G1, Le G G1 → EvO th σ G1 hi) : EvN K m w b (tSl (rSlL K) te tl th) σ G (dL DD) (fun ys => ∃ xs, P xs ∧ ys = cutL xs lo hi) := fun n G1 H1 l d Q q =>
  h n G1 H1 l d _ fun v xs G2 H2 u2 d2 p2 r2 => by
    have e : Ev K (fun _ H Q => Q v H) σ G2 (dL DD xs) := fun G3 H3 l3 i3 Q q => q v G3 H3 (Up.refl i3) (r2.mono l3)
    exact ev_slLT e (hl G2 (l.trans u2.g)) (hh G2 (l.trans u2.g)) G2 H2 (Le.refl _) d2.i Q fun z G3 H3 u3 r3 => q z _ G3 H3 (UpM.trans d2 u2 (.of u3)) (d2.up u3) ⟨xs, p2, rfl⟩ r3
/-! statements that draw -/
theorem sn_set {α : Type} {DD : α → PyData} {P : α → Prop} {i : Nat} (h : EvN K m w b te σ G DD P) (d : DOk m w (n + b) G H) (k : ∀ v a G2 H2, UpM m w G H G2 H2 → DOk m w n G2 H2 → P a → Rp K G2 v (DD a) → D.nx (σ.set i (some v)) H2) : tAsg te (gName i) D σ H := h n G H (Le.refl _) d _ k
theorem sn_tup3 {tr : TA} {P : List PyData → Prop} {i j l : Nat} (h : EaN K m w b tr σ G P) (d : DOk m w (n + b) G H) (hP : ∀ ds, P ds → ds.length = 3) (k : ∀ v1 v2 v3 d1 d2 d3 G2 H2, UpM m w G H G2 H2 → DOk m w n G2 H2 → P [d1, d2, d3] → Rp K G2 v1 d1 → Rp K G2 v2 d2 → Rp K G2 v3 d3 → D.nx (((σ.set i (some v1)).set j (some v2)).set l (some v3)) H2) : tAsg (tTup tr) (gTup K 3 (gCons (gName i) (gCons (gName j) (gCons (gName l) gNil)))) D σ H :=
  h n G H (Le.refl _) d _ fun vs ds G2 H2 u2 d2 p2 r2 => by
    have h3 := hP ds p2
    match ds, h3, p2, r2 with
    | [e1, e2, e3], _, p2, r2 =>
      obtain ⟨v1, ws, rfl, q1, r2⟩ := rpa_cons r2
      obtain ⟨v2, ws, rfl, q2, r2⟩ := rpa_cons r2
      obtain ⟨v3, ws, rfl, q3, r2⟩ := rpa_cons r2
      obtain rfl := rpa_nil r2
      refine ⟨by show 3 ≤ sizeLine; decide, fun p hp => ⟨p, _, rfl, .inl (.inl upd_same), rfl, _, _, rfl, _, _, rfl, _, _, rfl, rfl, ?_⟩⟩
      have u3 := Up.hid (o := .tup [v1, v2, v3]) d2.i hp
      exact k v1 v2 v3 e1 e2 e3 G2 _ (UpM.trans d2 u2 (.of u3)) (d2.up u3) p2 q1 q2 q3
theorem sn_list2 {α : Type} {DD : α → PyData} {P : List α → Prop} {i j : Nat} (h : EvN K m w b te σ G (dL DD) P) (d : DOk m w (n + b) G H) (hP : ∀ ds, P ds → ds.length = 2) (k : ∀ v1 v2 a1 a2 G2 H2, UpM m w G H G2 H2 → DOk m w n G2 H2 → P [a1, a2] → Rp K G2 v1 (DD a1) → Rp K G2 v2 (DD a2) → D.nx ((σ.set i (some v1)).set j (some v2)) H2) : tAsg te (gUnl K 2 (gCons (gName i) (gCons (gName j) gNil))) D σ H :=
  h n G H (Le.refl _) d _ fun v ds G2 H2 u2 d2 p2 r2 => by
    have h3 := hP ds p2
    match ds, h3, p2, r2 with
    | [e1, e2], _, p2, r2 =>
      obtain ⟨p, xs, rfl, h1, r2⟩ := rp_ref r2
      have r2 : RpA K G2 xs [DD e1, DD e2] := r2
      obtain ⟨v1, ws, rfl, q1, r2⟩ := rpa_cons r2
      obtain ⟨v2, ws, rfl, q2, r2⟩ := rpa_cons r2
      obtain rfl := rpa_nil r2
      exact ⟨p, _, rfl, .inl (.inl (d2.i.ex h1 rfl)), rfl, _, _, rfl, _, _, rfl, rfl, k v1 v2 e1 e2 G2 H2 u2 d2 p2 q1 q2⟩
/-- a for whose turns draw: Sl is kept of the slots -/
theorem sn_for {α : Type} {DD : α → PyData} {xs : List α} {k : Nat} {tb : TS} (Sl : L2.St → Prop) (hi : EvI K wi σ G (xs.map DD)) (d : DOk m w (n + b * xs.length) G H) (h0 : Sl σ)
    (body : ∀ z ∈ xs, ∀ σ1 G1 H1 x r, Sl σ1 → Le G G1 → DOk m w (r + b) G1 H1 → Rp K G1 x (DD z) → ∀ D2 : Ends, (∀ σ2 G2 H2, Sl σ2 → Le G1 G2 → DOk m w r G2 H2 → D2.nx σ2 H2) → tb D2 (σ1.set k (some x)) H1)
    (hn : ∀ σ2 G2 H2, Sl σ2 → Le G G2 → DOk m w n G2 H2 → D.nx σ2 H2) : tFor wi (gName k) tb D σ H := by
  refine s_for hi d.i fun G0 H0 u0 => ⟨fun i σ1 G1 H1 => Sl σ1 ∧ Le G G1 ∧ Le G0 G1 ∧ DOk m w (n + b * (xs.length - i)) G1 H1, ⟨h0, u0.g, Le.refl _, d.up u0⟩, fun i σ1 G1 H1 h => ⟨h.2.2.1, h.2.2.2.i⟩, ?_, ?_⟩
  · rintro i e x σ1 G1 H1 G2 H2 hd ⟨h1, h2, h3, h4⟩ u2 r2
    rw [List.getElem?_map] at hd
    cases hz : xs[i]? with
    | none => rw [hz] at hd; cases hd
    | some z =>
      rw [hz] at hd
      cases hd
      have hlt : i < xs.length := (List.getElem?_eq_some_iff.mp hz).1
      show tb _ (σ1.set k (some x)) H2
      refine body z (List.mem_of_getElem? hz) σ1 G2 H2 x (n + b * (xs.length - (i + 1))) h1 (h2.trans u2.g) ?_ r2 _ (fun σ2 G3 H3 s3 l3 d3 => ⟨G3, s3, h2.trans (u2.g.trans l3), h3.trans (u2.g.trans l3), d3⟩)
      have e : n + b * (xs.length - (i + 1)) + b = n + b * (xs.length - i) := by
        have : xs.length - i = (xs.length - (i + 1)) + 1 := by omega
        rw [this, Nat.mul_add, Nat.mul_one, Nat.add_assoc]
      rw [e]
      exact h4.up u2
  · rintro σ1 G1 H1 ⟨h1, h2, _, h4⟩
    rw [List.length_map, Nat.sub_self, Nat.mul_zero, Nat.add_zero] at h4
    exact hn σ1 G1 H1 h1 h2 h4
end
end Z

namespace Z
open PySem PySem.Spec PyProof.Rows L2
section
variable {K : PySem.W.Frag} {σ : L2.St} {G H : Hp} {ta tb te tk tv : TE} {tt : TT} {wi : TI} {D : Ends}
/-! ### dict displays -/
def EvPs (K : PySem.W.Frag) (trs : List (TE × TE)) (σ : L2.St) (G : Hp) (es : List (Key × PyData)) : Prop :=
  ∀ G1 H1, Le G G1 → In G1 H1 → ∀ Q : List (V × V) → Hp → Prop, (∀ kvs G2 H2, Up G1 H1 G2 H2 → RpE K G2 kvs es → Q (kvs.map fun e => (kV e.1, e.2)) H2) → tPairs trs σ H1 Q
theorem ep_nil : EvPs K [] σ G [] := fun G1 H1 l i Q q => q [] G1 H1 (Up.refl i) .nil
theorem rp_key {v : V} {k : Key} (h : Rp K G v (kD k)) : v = kV k := by
  cases k with
  | inl i => exact rp_int h
  | inr x => exact rp_str h
theorem ep_cons {k : Key} {d : PyData} {trs : List (TE × TE)} {es : List (Key × PyData)} (ha : Ev K tk σ G (kD k)) (hb : Ev K tv σ G d) (hr : EvPs K trs σ G es) : EvPs K ((tk, tv) :: trs) σ G ((k, d) :: es) := fun G1 H1 l i Q q =>
  ha G1 H1 l i _ fun x G2 H2 u2 p2 => hb G2 H2 (l.trans u2.g) u2.i _ fun y G3 H3 u3 p3 => hr G3 H3 (l.trans (u2.g.trans u3.g)) u3.i _ fun kvs G4 H4 u4 r4 => by
    rw [rp_key p2]
    exact q ((k, y) :: kvs) G4 H4 ((u2.trans u3).trans u4) (.cons (p3.mono u4.g) r4)
theorem rpe_merge : ∀ {kvs : List (Key × V)} {es : List (Key × PyData)}, RpE K G kvs es → ∀ {k0 : List (Key × V)} {e0 : List (Key × PyData)}, RpE K G k0 e0 → RpE K G (kvs.foldl (fun acc kv => putK acc kv.1 kv.2) k0) (es.foldl (fun acc e => putE acc e.1 e.2) e0)
  | _, _, .nil, _, _, h => h
  | _, _, .cons p a, _, _, h => rpe_merge a (RpE.put h p)
theorem mrgE_map {α β : Type} (f : α → β) (es : List (Key × α)) : mrgE (es.map fun e => (e.1, f e.2)) = (mrgE es).map fun e => (e.1, f e.2) := by
  have put : ∀ (a : List (Key × α)) k v, putE (a.map fun e => (e.1, f e.2)) k (f v) = (putE a k v).map fun e => (e.1, f e.2) := by
    intro a k v
    unfold putE
    rw [List.any_map]
    have e : (fun e : Key × α => decide (e.1 = k)) = ((fun e : Key × β => decide (e.1 = k)) ∘ fun e : Key × α => (e.1, f e.2)) := rfl
    rw [← e]
    cases a.any fun e => decide (e.1 = k) with
    | true =>
      simp only [if_true, List.map_map]
      refine List.map_congr_left fun x _ => ?_
      simp only [Function.comp]
      split <;> rfl
    | false => simp
  have go : ∀ (es a : List (Key × α)), (es.map fun e => (e.1, f e.2)).foldl (fun acc e => putE acc e.1 e.2) (a.map fun e => (e.1, f e.2)) = (es.foldl (fun acc e => putE acc e.1 e.2) a).map fun e => (e.1, f e.2) := by
    intro es
    induction es with
    | nil => intro a; rfl
    | cons e es ih => intro a; simp only [List.map_cons, List.foldl_cons, put, ih]
  exact go es []
theorem ev_disp {α : Type} {DE : α → PyData} {trs : List (TE × TE)} {es : List (Key × α)} (h : EvPs K trs σ G (es.map fun e => (e.1, DE e.2))) (hl : es.length ≤ 15) : Ev K (tDisp trs) σ G (dM DE (mrgE es)) := fun G1 H1 l i Q q => fun p hp => by
  have i1 : In G1 (upd H1 p (.dK [])) := i.mut (i.no hp)
  refine h G1 _ l i1 _ fun kvs G2 H2 u2 r2 => ?_
  have hp2 : H2 p = some (.dK []) := u2.h _ _ upd_same
  have gp2 : G2 p = none := u2.hide (by rw [upd_same]; intro z; cases z) (i.no hp)
  refine ⟨hp2, kvs, rfl, by rw [r2.len, List.length_map]; exact hl, ?_⟩
  have lg : Le G2 (upd G2 p (.dK (mergeK [] kvs))) := fun b o e => by
    rw [upd_ne (fun z => by rw [z, gp2] at e; cases e)]; exact e
  refine q _ (upd G2 p (.dK (mergeK [] kvs))) _ ⟨fun b o e => lg b o (u2.g b o e), fun b o e => ?_, fun b o e => ?_, fun b o e => ?_⟩ ?_
  · by_cases hb : b = p
    · subst hb; rw [upd_same] at e ⊢; exact .inl e
    · rw [upd_ne hb] at e ⊢; exact u2.i b o e
  · have nb : b ≠ p := fun z => by rw [z, hp] at e; cases e
    rw [upd_ne nb]
    exact u2.h b o (by rw [upd_ne nb]; exact e)
  · by_cases hb : b = p
    · subst hb; exact .inr hp
    · rw [upd_ne hb] at e
      rcases u2.n b o e with z | z
      · exact .inl z
      · rw [upd_ne hb] at z; exact .inr z
  · have r3 : RpE K G2 (mergeK [] kvs) (mrgE (es.map fun e => (e.1, DE e.2))) := rpe_merge r2 .nil
    rw [mrgE_map] at r3
    exact .dic upd_same (rpe_to (r3.mono lg))
/-! ### `!=` of things that are the same -/
theorem opv_neSe {a b : W} (h : a = b) : OpV K rNe (dS a) (dS b) (.bool false) := by
  subst h; have := opv_neS (K := K) (a := a) (b := a); simpa using this
theorem opv_neIe {a b : Int} (h : a = b) : OpV K rNe (dI a) (dI b) (.bool false) := by
  subst h; have := opv_neI (K := K) (i := a) (j := a); simpa using this
theorem opv_neBe {a b : Bool} (h : a = b) : OpV K rNe (dB a) (dB b) (.bool false) := by
  subst h; have := opv_neB (K := K) (i := a) (j := a); simpa using this
theorem opv_neTe {α : Type} [DecidableEq α] {DD : α → PyData} {ok : α → Prop} {n : Nat} (e : Eqt DD ok n) {a b : α} (h : a = b) (hb : ok b) (hn : n ≤ 64) : OpV K (rNeD K) (DD a) (DD b) (.bool false) := by
  subst h; have := opv_neT (K := K) e (a := a) (b := a) ⟨hb, hb, hn⟩; simpa using this
theorem opv_neMI {a b : List (Key × Int)} (h : a = b) (hv : ∀ e ∈ b, valK b e.1 = some e.2) : OpV K rNeDic (dM dI a) (dM dI b) (.bool false) := by
  subst h
  refine opv_neDic rfl fun k d hm => ?_
  obtain ⟨e, he, eq⟩ := List.mem_map.mp hm
  obtain ⟨rfl, rfl⟩ := Prod.mk.inj eq
  have := hv e he
  refine ⟨?_, rfl⟩
  unfold valK at this ⊢
  rw [List.find?_map]
  cases q : a.find? (fun x => decide (x.1 = e.1)) with
  | none => rw [q] at this; cases this
  | some x =>
    rw [q] at this
    have e2 : (fun e_1 : Key × PyData => decide (e_1.1 = e.1)) ∘ (fun e : Key × Int => (e.1, dI e.2)) = fun x => decide (x.1 = e.1) := rfl
    rw [e2, q]
    simp only [Option.map_some, Option.some.injEq] at this ⊢
    rw [this]
/-! ### the script -/
theorem ev_lenScr {k : Nat} {a : Addr} {ns : List Int} (hv : σ[k]? = some (some (.ref a))) (h : SqL K G a (ns.map .int)) : Ev K (tCB (rLenU K) (tCons (tVar k) tNil)) σ G (.int (ns.length : Int)) := fun G1 H1 l i Q q =>
  ⟨.ref a, hv, .ref a, ns.length, rfl, .inl ⟨_, sql_in (sql_le h l) i, by rw [List.length_map]⟩, q _ G1 H1 (Up.refl i) (.int _)⟩
theorem and_dec {p : Prop} {b : Bool} [Decidable p] (h : (decide p && b) = true) : p ∧ b = true := by
  rw [Bool.and_eq_true] at h
  exact ⟨of_decide_eq_true h.1, h.2⟩
end
end Z

namespace Z
open PySem PySem.Spec PyProof.Rows L2
theorem walkW {l : PySem.W.OpenLaw} {n k : Nat} {q : Program} {loose : List Str} {XP : (Str → Option Value) → Heap → Prop} {YP : World → Heap → Prop} {d : DefRec} {CX : World → CXT} {x : Str}
    (hn : l.most = some n) (hn2 : n ≤ sizeLine) (hdf : d.params.defaults = []) (hr : Room k callerA)
    (F : ∀ (w : World) (mg : Str → Option Value) (fa : Addr) (h : Heap), YP w h → h.Ns mainGlobals mg → mg d.name = some (.ref fa) →
      ∃ (K : PySem.W.Frag) (fd : FuncData) (sp : Sp), K.In h ∧ (∀ (s : Shared) (u : Value), BindsTo s fd ⟨[u], []⟩ [(x, u)]) ∧
        (∀ (H : Hp) (a : Addr) (ns : List Int), ns.length ≤ n → Only H → SqL K H a (ns.map V.int) → sp [.ref a] H (fun v _ => v = .bl true) fun _ _ _ => False) ∧
        ∀ base : Heap, K.In base → base.Ns mainGlobals mg → FnOk l.prog w K mg base (CX w) k fa fd [x] sp)
    (hX : ∀ (w : World) (H : Hp) (s : Shared) (e : Value) (s' : Shared), CX w [] H s (fun _ _ _ => False) e s' → False) :
    PySem.W.WalkO q loose XP YP l.row.toRowW d [] (fun f vs => PySem.call f vs) := by
  refine Att.attach_call hn hdf fun w t0 t1 mg mb fa o pm cd doc a vs ns G Y ho hd hcd hmg hob hin hle hgn => ?_
  obtain ⟨K, fd, sp, KX, hb, hsp, hF⟩ := F w mg fa _ Y G.T.g hmg
  exact law_call KX G.T.g G.T.b G.T.builtins G.T.nolimit hgn hob hin (Nat.le_trans hle hn2) hr hF hb (fun H hO hS => hsp H a ns hle hO hS) fun H e s' => hX w H t1 e s'
end Z

namespace Z
open PySem PySem.Spec PyProof.Rows L2
section
variable {K : PySem.W.Frag} {ca : Str → Addr} {E : XK} {σ : L2.St} {G H : Hp} {ta tb te tx : TE} {tt : TT} {wi : TI} {D : Ends} {m w : Addr} {b b' n : Nat} {Q : VK}
/-! opening a reading: what is done first -/
theorem ev_at {d : PyData} (h : Ev K te σ G d) (hi : In G H) (k : ∀ v G2 H2, Up G H G2 H2 → Rp K G2 v d → Q v H2) : te σ H Q := h G H (Le.refl _) hi Q k
theorem o_op {r : R2} (h : ta σ H fun x H1 => tb σ H1 fun y H2 => r x y H2 Q) : tOp r ta tb σ H Q := h
theorem o_call {sp : Sp} {t : TA} (h : t σ H fun vs H1 => sp vs H1 Q E) : tCall sp [] E t σ H Q := by
  show t σ H fun vs H1 => sp (vs ++ []) H1 Q E
  have e : (fun vs H1 => sp (vs ++ []) H1 Q E) = fun vs H1 => sp vs H1 Q E := by
    funext vs H1; rw [List.append_nil]
  rw [e]; exact h
theorem o_cons {t : TA} {Q' : List V → Hp → Prop} (h : ta σ H fun v H1 => t σ H1 fun vs H2 => Q' (v :: vs) H2) : tCons ta t σ H Q' := h
theorem o_nil {Q' : List V → Hp → Prop} (h : Q' [] H) : tNil σ H Q' := h
theorem o_var {k : Nat} {v : V} (hv : σ[k]? = some (some v)) (h : Q v H) : tVar k σ H Q := ⟨v, hv, h⟩
theorem o_cb {r : List V → Hp → VK → Prop} {t : TA} (h : t σ H fun vs H1 => r vs H1 Q) : tCB r t σ H Q := h
theorem o_lst {t : TA} (h : t σ H fun vs H1 => vs.length ≤ sizeLine ∧ ∀ p, H1 p = none → Q (.ref p) (upd H1 p (.lst vs))) : tLst t σ H Q := h
theorem o_tup {t : TA} (h : t σ H fun vs H1 => vs.length ≤ sizeLine ∧ ∀ p, H1 p = none → Q (.ref p) (upd H1 p (.tup vs))) : tTup t σ H Q := h
theorem o_ret (h : te σ H D.rt) : tRet te D σ H := h
theorem o_asg {g : TG} (h : te σ H fun x H1 => g x σ H1 D.nx) : tAsg te g D σ H := h
theorem o_set {k : Nat} (h : te σ H fun x H1 => D.nx (σ.set k (some x)) H1) : tAsg te (gName k) D σ H := h
theorem o_drop (h : te σ H fun _ H1 => D.nx σ H1) : tDrop te D σ H := h
theorem o_seq {a c : TS} (h : a { D with nx := fun σ H => c D σ H } σ H) : tSeq a c D σ H := h
theorem o_ifS {c : TT} {t u : TS} (h : c σ H fun b H1 => if b = true then t D σ H1 else u D σ H1) : tIfS c t u D σ H := h
theorem o_par {i j : Nat} {t : TA} (h : t σ H fun vs H1 => ∃ v v', vs = [v, v'] ∧ D.nx ((σ.set i (some v)).set j (some v')) H1) : tPar i j t D σ H := h
theorem o_test {Q' : Bool → Hp → Prop} (h : te σ H fun v H1 => ∃ b, v = .bl b ∧ Q' b H1) : tTest te σ H Q' := h
theorem o_sl {r : V → Option Int → Option Int → Hp → VK → Prop} {tl th : TO} (h : te σ H fun x H1 => tl σ H1 fun lo H2 => th σ H2 fun hi H3 => r x lo hi H3 Q) : tSl r te tl th σ H Q := h
theorem o_noPart {Q' : Option Int → Hp → Prop} (h : Q' none H) : tNoPart σ H Q' := h
theorem o_part {Q' : Option Int → Hp → Prop} (h : te σ H fun v H1 => ∃ i, v = .int i ∧ Q' (some i) H1) : tPart te σ H Q' := h
theorem o_m1 {r : V → List V → Hp → VK → Prop} (h : ta σ H fun x H1 => (∃ a, x = .str a) ∧ tb σ H1 fun y H2 => r x [y] H2 Q) : tM1 r ta tb σ H Q := h
theorem o_next (h : D.nx σ H) : tNext D σ H := h
theorem o_sSet {k : Nat} {c : TS} (h : te σ H fun x H1 => c D (σ.set k (some x)) H1) : tSeq (tAsg te (gName k)) c D σ H := h
theorem o_sAsg {g : TG} {c : TS} (h : te σ H fun x H1 => g x σ H1 fun σ2 H2 => c D σ2 H2) : tSeq (tAsg te g) c D σ H := h
theorem o_sPar {i j : Nat} {t : TA} {c : TS} (h : t σ H fun vs H1 => ∃ v v', vs = [v, v'] ∧ c D ((σ.set i (some v)).set j (some v')) H1) : tSeq (tPar i j t) c D σ H := h
theorem o_sDrop {c : TS} (h : te σ H fun _ H1 => c D σ H1) : tSeq (tDrop te) c D σ H := h
theorem o_sIf {t : TT} {a c : TS} (h : t σ H fun b H1 => if b = true then a { D with nx := fun σ H => c D σ H } σ H1 else c D σ H1) : tSeq (tIfS t a tNext) c D σ H := h
theorem o_c {v : V} (h : Q v H) : tC v σ H Q := h
/-- a list comprehension whose turns draw -/
theorem lcN {α β : Type} {DD : α → PyData} {DE : β → PyData} {xs : List α} {P : α → β → Prop} {k : Nat} (hi : EvI K wi σ G (xs.map DD))
    (body : ∀ z ∈ xs, ∀ G1 H1 x r, Le G G1 → DOk m w (r + b) G1 H1 → Rp K G1 x (DD z) → ∀ Q : VK, (∀ v a G2 H2, UpM m w G1 H1 G2 H2 → DOk m w r G2 H2 → P z a → Rp K G2 v (DE a) → Q v H2) → te (σ.set k (some x)) H1 Q)
    (hl : xs.length ≤ 100000) (d : DOk m w (n + b * xs.length) G H)
    (q : ∀ v as G2 H2, as.length = xs.length → (∀ (i : Nat) z a, xs[i]? = some z → as[i]? = some a → P z a) → UpM m w G H G2 H2 → DOk m w n G2 H2 → Rp K G2 v (dL DE as) → Q v H2) : tLc wi (gName k) tYes te [k] σ H Q := hi G H (Le.refl _) d.i _ fun J G2 H2 u2 wk => by
  intro D' hD
  have d2 := d.up u2
  have nm : D' ≠ m := fun e => d2.hm (by rw [← e]; exact hD)
  have nw : D' ≠ w := fun e => d2.hw (by rw [← e]; exact hD)
  have g2D : G2 D' = none := u2.i.no hD
  refine ⟨fun i mm H' => mm = xs.length - i ∧ i ≤ xs.length ∧ ∃ (G3 : Hp) (as : List β) (acc : List V), G3 D' = none ∧ DOk m w (n + b * (xs.length - i)) G3 H' ∧ Le G2 G3 ∧ (∀ a, a ≠ m → a ≠ w → a ≠ D' → ∀ o, H2 a = some o → H' a = some o) ∧ (∀ a o, G3 a = some o → G2 a = some o ∨ H2 a = none) ∧ H' D' = some (.lst acc) ∧ RpA K G3 acc (as.map DE) ∧ as.length = i ∧ (∀ (i : Nat) z a, xs[i]? = some z → as[i]? = some a → P z a),
    ⟨xs.length, rfl, Nat.zero_le _, G2, [], [], g2D, d2.up (Up.hid u2.i hD), Le.refl _, fun a _ _ n3 o e => by rw [upd_ne n3]; exact e, fun _ _ e => .inl e, upd_same, .nil, rfl, fun i z a _ e => by simp at e⟩, ?_⟩
  rintro j mm H' ⟨rfl, hj, G3, as, acc, g3, d3, l3, hk, hn, hacc, racc, hlen, hP⟩
  obtain ⟨wstop, wgo⟩ := wk G3 H' l3 d3.i
  by_cases hlt : j < xs.length
  · have hz : xs[j]? = some xs[j] := List.getElem?_eq_getElem hlt
    obtain ⟨go, yl⟩ := wgo j (DD xs[j]) (by rw [List.getElem?_map, hz]; rfl)
    refine .inr ⟨go, fun H' => j + 1 ≤ xs.length ∧ ∃ (G3 : Hp) (as : List β) (acc : List V), G3 D' = none ∧ DOk m w (n + b * (xs.length - (j + 1))) G3 H' ∧ Le G2 G3 ∧ (∀ a, a ≠ m → a ≠ w → a ≠ D' → ∀ o, H2 a = some o → H' a = some o) ∧ (∀ a o, G3 a = some o → G2 a = some o ∨ H2 a = none) ∧ H' D' = some (.lst acc) ∧ RpA K G3 acc (as.map DE) ∧ as.length = j + 1 ∧ (∀ (i : Nat) z a, xs[i]? = some z → as[i]? = some a → P z a), fun H' x => ⟨xs.length - (j + 1), by omega, rfl, x.1, x.2⟩, fun x H4 y => ?_⟩
    obtain ⟨G4, u4, r4⟩ := yl x H4 y
    have d4 := d3.up u4
    have hD4 : H4 D' = some (.lst acc) := u4.h _ _ hacc
    have hG4 : G4 D' = none := u4.hide (by rw [hacc]; intro z; cases z) g3
    refine ⟨wipe1, ?_⟩
    have eb : n + b * (xs.length - j) = n + b * (xs.length - (j + 1)) + b := by
      have : xs.length - j = (xs.length - (j + 1)) + 1 := by omega
      rw [this, Nat.mul_add, Nat.mul_one, Nat.add_assoc]
    show te ((wipe σ [k]).set k (some x)) H4 _
    rw [wipe1s]
    refine body _ (List.getElem_mem hlt) G4 H4 x _ (u2.g.trans (l3.trans u4.g)) (by rw [← eb]; exact d4) r4 _ fun v a G5 H5 u5 d5 p5 r5 => ?_
    have hD5 : H5 D' = some (.lst acc) := u5.h _ nm nw _ hD4
    have hG5 : G5 D' = none := by
      cases q5 : G5 D' with
      | none => rfl
      | some o =>
        rcases u5.n _ _ q5 with z | z
        · rw [hG4] at z; cases z
        · rw [hD4] at z; cases z
    have hal : acc.length = j := by rw [racc.len, List.length_map, hlen]
    refine ⟨acc, hD5, Nat.lt_of_le_of_lt (show acc.length ≤ 100000 by omega) (by decide), hlt, G5, as ++ [a], acc ++ [v], hG5, ?_, l3.trans (u4.g.trans u5.g), fun c n1 n2 n3 o e => ?_, fun c o e => ?_, upd_same, ?_, by rw [List.length_append, hlen]; rfl, ?_⟩
    · obtain ⟨c, ws, cs, r, t, e1, e2, e3, e4⟩ := d5.d
      exact ⟨d5.i.mut hG5, d5.gm, d5.gw, c, ws, cs, r, t, by rw [upd_ne nm.symm]; exact e1, by rw [upd_ne nw.symm]; exact e2, e3, e4⟩
    · rw [upd_ne n3]
      exact u5.h c n1 n2 o (u4.h c o (hk c n1 n2 n3 o e))
    · rcases u5.n c o e with z | z
      · rcases u4.n c o z with z | z
        · exact hn c o z
        · refine .inr ?_
          cases h2 : H2 c with
          | none => rfl
          | some o2 =>
            by_cases c1 : c = m
            · subst c1; exact absurd z d3.hm
            · by_cases c2 : c = w
              · subst c2; exact absurd z d3.hw
              · by_cases c3 : c = D'
                · subst c3; rw [hD] at h2; cases h2
                · rw [hk c c1 c2 c3 o2 h2] at z; cases z
      · refine .inr ?_
        cases h2 : H2 c with
        | none => rfl
        | some o2 =>
          by_cases c1 : c = m
          · subst c1; exact absurd z d4.hm
          · by_cases c2 : c = w
            · subst c2; exact absurd z d4.hw
            · by_cases c3 : c = D'
              · subst c3; rw [hD] at h2; cases h2
              · rw [u4.h c o2 (hk c c1 c2 c3 o2 h2)] at z; cases z
    · rw [List.map_append]
      exact rpa_app (racc.mono (u4.g.trans u5.g)) (.cons r5 .nil)
    · intro i z a' hz' ha'
      by_cases hij : i < as.length
      · rw [List.getElem?_append_left hij] at ha'
        exact hP i z a' hz' ha'
      · have e : i = as.length := by
          have := (List.getElem?_eq_some_iff.mp ha').1
          rw [List.length_append] at this
          simp at this
          omega
        rw [e, List.getElem?_append_right (Nat.le_refl _)] at ha'
        simp at ha'
        subst ha'
        rw [e, hlen, hz] at hz'
        cases hz'
        exact p5
  · have e : j = xs.length := by omega
    subst e
    refine .inl ⟨by simpa using wstop, ?_⟩
    rw [Nat.sub_self, Nat.mul_zero, Nat.add_zero] at d3
    have lg : Le G3 (upd G3 D' (.lst acc)) := fun c o e => by
      rw [upd_ne (fun z => by rw [z, g3] at e; cases e)]; exact e
    have ig : In (upd G3 D' (.lst acc)) H' := fun c o e => by
      by_cases hc : c = D'
      · subst hc; rw [upd_same] at e; cases e; exact .inl hacc
      · rw [upd_ne hc] at e; exact d3.i c o e
    refine q _ as _ H' hlen hP ⟨u2.g.trans (l3.trans lg), ig, fun c n1 n2 o e => ?_, fun c o e => ?_⟩ ⟨ig, by rw [upd_ne nm.symm]; exact d3.gm, by rw [upd_ne nw.symm]; exact d3.gw, d3.d.up lg (Le.refl _)⟩ (.lst upd_same (racc.mono lg))
    · have h2 := u2.h c o e
      exact hk c n1 n2 (fun z => by rw [z, hD] at h2; cases h2) o h2
    · by_cases hc : c = D'
      · subst hc; exact .inr (u2.h.no hD)
      · rw [upd_ne hc] at e
        rcases hn c o e with z | z
        · exact u2.n c o z
        · exact .inr (u2.h.no z)
end
section
variable {K : PySem.W.Frag} {σ : L2.St} {G H : Hp} {wi : TI} {D : Ends} {m w : Addr} {b n : Nat}
/-- a for whose turns draw: Sl is kept of the slots, turn by turn -/
theorem sn_forI {α : Type} {DD : α → PyData} {xs : List α} {k : Nat} {tb : TS} (Sl : Nat → L2.St → Prop) (hi : EvI K wi σ G (xs.map DD)) (d : DOk m w (n + b * xs.length) G H) (h0 : Sl 0 σ)
    (body : ∀ (i : Nat) z, xs[i]? = some z → ∀ σ1 G1 H1 x r, Sl i σ1 → Le G G1 → DOk m w (r + b) G1 H1 → Rp K G1 x (DD z) → ∀ D2 : Ends, (∀ σ2 G2 H2, Sl (i + 1) σ2 → UpM m w G1 H1 G2 H2 → DOk m w r G2 H2 → D2.nx σ2 H2) → tb D2 (σ1.set k (some x)) H1)
    (hn : ∀ σ2 G2 H2, Sl xs.length σ2 → UpM m w G H G2 H2 → DOk m w n G2 H2 → D.nx σ2 H2) : tFor wi (gName k) tb D σ H := by
  refine s_for hi d.i fun G0 H0 u0 => ⟨fun i σ1 G1 H1 => Sl i σ1 ∧ UpM m w G H G1 H1 ∧ Le G0 G1 ∧ DOk m w (n + b * (xs.length - i)) G1 H1, ⟨h0, .of u0, Le.refl _, d.up u0⟩, fun i σ1 G1 H1 h => ⟨h.2.2.1, h.2.2.2.i⟩, ?_, ?_⟩
  · rintro i e x σ1 G1 H1 G2 H2 hd ⟨h1, h2, h3, h4⟩ u2 r2
    rw [List.getElem?_map] at hd
    cases hz : xs[i]? with
    | none => rw [hz] at hd; cases hd
    | some z =>
      rw [hz] at hd
      cases hd
      have hlt : i < xs.length := (List.getElem?_eq_some_iff.mp hz).1
      have e : n + b * (xs.length - (i + 1)) + b = n + b * (xs.length - i) := by
        have : xs.length - i = (xs.length - (i + 1)) + 1 := by omega
        rw [this, Nat.mul_add, Nat.mul_one, Nat.add_assoc]
      show tb _ (σ1.set k (some x)) H2
      have d2 := h4.up u2
      refine body i z hz σ1 G2 H2 x (n + b * (xs.length - (i + 1))) h1 (h2.g.trans u2.g) (by rw [e]; exact d2) r2 _ (fun σ2 G3 H3 s3 u3 d3 => ⟨G3, s3, UpM.trans d2 (UpM.trans h4 h2 (.of u2)) u3, h3.trans (u2.g.trans u3.g), d3⟩)
  · rintro σ1 G1 H1 ⟨h1, h2, _, h4⟩
    rw [List.length_map] at h1
    rw [List.length_map, Nat.sub_self, Nat.mul_zero, Nat.add_zero] at h4
    exact hn σ1 G1 H1 h1 h2 h4
end
/-! ### one of them -/
def itemsD : PyData → List PyData
  | .list ds => ds
  | .str x => x.cps.toList.map fun c => .str (S [c])
  | _ => []
def sp__law_pick (K : PySem.W.Frag) (ca : Str → Addr) : Sp := fun vs H Q E => ∃ (G : Hp) (m w : Addr) (n : Nat) (v : V) (d : PyData), vs = [.ref m, v] ∧ DOk m w (n + 1) G H ∧ Rp K G v d ∧ itemsD d ≠ [] ∧ (itemsD d).length ≤ 100000 ∧
  ∀ u e G2 H2, e ∈ itemsD d → UpM m w G H G2 H2 → DOk m w n G2 H2 → Rp K G2 u e → Q u H2
def t__law_pick (K : PySem.W.Frag) (ca : Str → Addr) (E : XK) : TS := (tRet ((tOp (rIx K) ((tVar 1)) ((tCall (sp__law_take K ca) [] E ((tCons ((tVar 0)) ((tCons ((tCB (rLenU K) ((tCons ((tVar 1)) (tNil))))) (tNil))))))))))
theorem pure__law_pick {K : PySem.W.Frag} {ca : Str → Addr} (vs : List V) (H : Hp) (Q : VK) (E : XK) (h : sp__law_pick K ca vs H Q E) : vs.length = 2 ∧ t__law_pick K ca E { nx := fun _ H2 => Q .non H2, rt := Q } (start ["_law_draw", "_law_some"] vs) H := by
  obtain ⟨G, m, w, n, v, d, rfl, dk, rv, hne, hl, k⟩ := h
  refine ⟨rfl, ?_⟩
  have hp : 0 < (itemsD d).length := List.length_pos_iff.mpr hne
  have hlen : LenV K v H (itemsD d).length := by
    cases d with
    | list ds =>
      obtain ⟨p, xs, rfl, h1, h2⟩ := rp_ref rv
      exact .inl ⟨xs, .inl (.inl (dk.i.ex h1 rfl)), h2.len.symm⟩
    | str x =>
      rw [rp_str rv]
      refine ⟨Nat.le_trans ?_ (show 100000 ≤ sizeLine by decide), ?_⟩
      · have e : (itemsD (.str x)).length = x.length := by show (x.cps.toList.map _).length = x.cps.size; simp
        omega
      · show (x.cps.toList.map _).length = x.cps.size
        simp
    | _ => exact absurd rfl hne
  refine ⟨v, rfl, .ref m, rfl, v, rfl, v, _, rfl, hlen, G, m, w, n, ((itemsD d).length : Int), rfl, dk, by omega, by omega, fun i H2 i0 i1 u2 d2 => ?_⟩
  obtain ⟨j, rfl⟩ : ∃ j : Nat, i = (j : Int) := ⟨i.toNat, by omega⟩
  have hj : j < (itemsD d).length := by omega
  have fin : OpV K (rIx K) d (.int (j : Int)) (itemsD d)[j] := by
    cases d with
    | list ds =>
      refine opv_ixL ?_
      have hj' : j < ds.length := hj
      unfold atI ixN
      rw [if_pos (by omega), if_pos (by omega)]
      simp [itemsD, hj']
    | str x =>
      have hj' : j < x.cps.toList.length := by simpa [itemsD] using hj
      have e : (itemsD (.str x))[j] = .str (S [x.cps.toList[j]]) := by simp [itemsD]
      rw [e]
      have ex : x = S x.cps.toList := (S_eta x).symm
      have hz : x.cps.toList.length ≤ 10000000 := by
        have : x.cps.toList.length ≤ 100000 := by simpa [itemsD] using hl
        omega
      have := opv_ixS (K := K) (l := x.cps.toList) (i := (j : Int)) (c := x.cps.toList[j]) hz (by
        unfold atI ixN
        rw [if_pos (by omega), if_pos (by omega)]
        simp)
      rw [← ex] at this
      exact this
    | _ => exact absurd rfl hne
  exact fin G H2 v (.int j) d2.i rv (.int _) Q fun u G3 H3 u3 r3 => k u _ G3 H3 (List.getElem_mem hj) (UpM.trans d2 u2 (.of u3)) (d2.up u3) r3
section
variable {K : PySem.W.Frag} {ca : Str → Addr} {E : XK} {G H : Hp} {m w : Addr} {n : Nat} {v : V} {Q : VK}
theorem spv_pick {α : Type} {DD : α → PyData} {xs : List α} (d : DOk m w (n + 1) G H) (r : Rp K G v (dL DD xs)) (h : xs ≠ []) (hl : xs.length ≤ 100000) (k : ∀ u a G2 H2, a ∈ xs → UpM m w G H G2 H2 → DOk m w n G2 H2 → Rp K G2 u (DD a) → Q u H2) : sp__law_pick K ca [.ref m, v] H Q E :=
  ⟨G, m, w, n, v, _, rfl, d, r, by simpa [itemsD, dL] using h, by simpa [itemsD, dL] using hl, fun u e G2 H2 he u2 d2 r2 => by
    obtain ⟨a, ha, rfl⟩ := List.mem_map.mp (show e ∈ xs.map DD from he)
    exact k u a G2 H2 ha u2 d2 r2⟩
theorem spv_pickS {l : W} (d : DOk m w (n + 1) G H) (r : Rp K G v (dS l)) (h : l ≠ []) (hl : l.length ≤ 100000) (k : ∀ u a G2 H2, a ∈ l → UpM m w G H G2 H2 → DOk m w n G2 H2 → Rp K G2 u (dC a) → Q u H2) : sp__law_pick K ca [.ref m, v] H Q E :=
  ⟨G, m, w, n, v, _, rfl, d, r, by simpa [itemsD, dS, S_cps] using h, by simpa [itemsD, dS, S_cps] using hl, fun u e G2 H2 he u2 d2 r2 => by
    have he : e ∈ (S l).cps.toList.map fun c => PyData.str (S [c]) := he
    rw [S_cps] at he
    obtain ⟨a, ha, rfl⟩ := List.mem_map.mp he
    exact k u a G2 H2 ha u2 d2 r2⟩
end
/-! ### signs, letters, a text -/
def signs : List W := [[97], [97, 99], [97, 103], [99, 116], [97, 97, 99], [97, 99, 103], [97, 99, 103, 116], [97, 99, 103, 116], [103, 116], [97, 97, 97, 99, 116]]
def sp__law_signs (K : PySem.W.Frag) (ca : Str → Addr) : Sp := fun vs H Q E => ∃ (G : Hp) (m w : Addr) (n : Nat), vs = [.ref m] ∧ DOk m w (n + 1) G H ∧ ∀ l G2 H2, l ∈ signs → UpM m w G H G2 H2 → DOk m w n G2 H2 → Q (.str (S l)) H2
def t__law_signs (K : PySem.W.Frag) (ca : Str → Addr) (E : XK) : TS := (tRet ((tCall (sp__law_pick K ca) [] E ((tCons ((tVar 0)) ((tCons ((tLst ((tCons (tC (.str "a")) ((tCons (tC (.str "ac")) ((tCons (tC (.str "ag")) ((tCons (tC (.str "ct")) ((tCons (tC (.str "aac")) ((tCons (tC (.str "acg")) ((tCons (tC (.str "acgt")) ((tCons (tC (.str "acgt")) ((tCons (tC (.str "gt")) ((tCons (tC (.str "aaact")) (tNil))))))))))))))))))))))) (tNil))))))))
theorem pure__law_signs {K : PySem.W.Frag} {ca : Str → Addr} (vs : List V) (H : Hp) (Q : VK) (E : XK) (h : sp__law_signs K ca vs H Q E) : vs.length = 1 ∧ t__law_signs K ca E { nx := fun _ H2 => Q .non H2, rt := Q } (start ["_law_draw"] vs) H := by
  obtain ⟨G, m, w, n, rfl, dk, k⟩ := h
  refine ⟨rfl, ?_⟩
  have e : Ev K (tLst (tCons (tC (.str "a")) (tCons (tC (.str "ac")) (tCons (tC (.str "ag")) (tCons (tC (.str "ct")) (tCons (tC (.str "aac")) (tCons (tC (.str "acg")) (tCons (tC (.str "acgt")) (tCons (tC (.str "acgt")) (tCons (tC (.str "gt")) (tCons (tC (.str "aaact")) tNil))))))))))) (start ["_law_draw"] [.ref m]) G (dL dS signs) :=
    ev_lst (ea_cons (ev_lit (by decide +kernel)) (ea_cons (ev_lit (by decide +kernel)) (ea_cons (ev_lit (by decide +kernel)) (ea_cons (ev_lit (by decide +kernel)) (ea_cons (ev_lit (by decide +kernel)) (ea_cons (ev_lit (by decide +kernel)) (ea_cons (ev_lit (by decide +kernel)) (ea_cons (ev_lit (by decide +kernel)) (ea_cons (ev_lit (by decide +kernel)) (ea_cons (ev_lit (by decide +kernel)) ea_nil)))))))))) (by decide)
  refine ⟨.ref m, rfl, e.at dk.i fun v G2 H2 u2 r2 => ?_⟩
  show sp__law_pick K ca [.ref m, v] H2 Q E
  refine spv_pick (dk.up u2) r2 (by decide) (by decide) fun u a G3 H3 ha u3 d3 r3 => ?_
  rw [rp_str r3]
  exact k a G3 H3 ha (UpM.trans (dk.up u2) (.of u2) u3) d3
def sp__law_letters (K : PySem.W.Frag) (ca : Str → Addr) : Sp := fun vs H Q E => ∃ (G : Hp) (m w : Addr) (n : Nat) (l : W) (many : Int), vs = [.ref m, .str (S l), .int many] ∧ DOk m w (n + many.toNat) G H ∧ l ≠ [] ∧ l.length ≤ 1000 ∧ -1000 ≤ many ∧ many ≤ 1000 ∧
  ∀ t G2 H2, t.length = many.toNat → (∀ c ∈ t, c ∈ l) → UpM m w G H G2 H2 → DOk m w n G2 H2 → Q (.str (S t)) H2
def t__law_letters (K : PySem.W.Frag) (ca : Str → Addr) (E : XK) : TS := (tRet ((tM1 (rJoin K) (tC (.str "")) ((tLc ((iRng1 ((tCons ((tVar 2)) (tNil))))) ((gName 3)) (tYes) ((tCall (sp__law_pick K ca) [] E0 ((tCons ((tVar 0)) ((tCons ((tVar 1)) (tNil))))))) [3])))))
theorem pure__law_letters {K : PySem.W.Frag} {ca : Str → Addr} (vs : List V) (H : Hp) (Q : VK) (E : XK) (h : sp__law_letters K ca vs H Q E) : vs.length = 3 ∧ t__law_letters K ca E { nx := fun _ H2 => Q .non H2, rt := Q } (start ["_law_draw", "_law_signs_here", "_law_many", "_law_lap"] vs) H := by
  obtain ⟨G, m, w, n, l, many, rfl, dk, hne, hl, hm0, hm, k⟩ := h
  refine ⟨rfl, ?_⟩
  have hlr : (rng 0 many.toNat).length = many.toNat := rng_len _ _
  unfold t__law_letters
  refine o_ret (o_m1 (o_c ⟨⟨_, rfl⟩, ?_⟩))
  refine lcN (K := K) (σ := start ["_law_draw", "_law_signs_here", "_law_many", "_law_lap"] [.ref m, .str (S l), .int many]) (m := m) (w := w) (b := 1) (n := n) (DD := dI) (DE := dC) (xs := rng 0 many.toNat) (P := fun _ c => c ∈ l) (ei_rng1 (ea_cons (ev_var (i := 2) rfl (.int many)) ea_nil) (by omega) (by omega)) (fun z hz G1 H1 x r l1 d1 rx Q q => ?_) (by omega) (by rw [hlr, Nat.one_mul]; exact dk) fun v as G2 H2 hal hP u2 d2 r2 => ?_
  · refine o_call (o_cons (o_var (k := 0) rfl (o_cons (o_var (k := 1) rfl (o_nil ?_)))))
    exact spv_pickS d1 (.str _) hne (by omega) fun u a G2 H2 ha u2 d2 r2 => q u a G2 H2 u2 d2 ha r2
  · have e : Ev K (fun _ H Q => Q v H) [] G2 (dL dC as) := fun G3 H3 l3 i3 Q q => q v G3 H3 (Up.refl i3) (r2.mono l3)
    have hlen : as.length ≤ 1000 := by omega
    have ej := ev_joinC (K := K) (σ := []) (G := G2) (ta := tC (.str "")) (te := fun _ H Q => Q v H) (l := as) (ev_lit (by decide +kernel)) e (by omega)
    refine (ej G2 H2 (Le.refl _) d2.i Q fun u G3 H3 u3 r3 => ?_).2
    rw [rp_str r3]
    refine k as G3 H3 (by omega) (fun c hc => ?_) (UpM.trans d2 u2 (.of u3)) (d2.up u3)
    obtain ⟨i, hi, rfl⟩ := List.getElem_of_mem hc
    have hi' : i < (rng 0 many.toNat).length := by omega
    exact hP i _ _ (List.getElem?_eq_getElem hi') (List.getElem?_eq_getElem hi)
end Z

namespace Z
open PySem PySem.Spec PyProof.Rows L2
section
variable {K : PySem.W.Frag} {ca : Str → Addr} {E : XK} {G H : Hp} {m w : Addr} {n : Nat} {v : V} {Q : VK}
theorem spv_take {tot : Int} (d : DOk m w (n + 1) G H) (h0 : 0 < tot) (h1 : tot < 1000000000) (k : ∀ i H2, 0 ≤ i → i < tot → UpM m w G H G H2 → DOk m w n G H2 → Q (.int i) H2) : sp__law_take K ca [.ref m, .int tot] H Q E := ⟨G, m, w, n, tot, rfl, d, h0, h1, k⟩
theorem spv_letters {l : W} {many : Int} (d : DOk m w (n + many.toNat) G H) (h1 : l ≠ []) (h2 : l.length ≤ 1000) (h3 : -1000 ≤ many) (h4 : many ≤ 1000) (k : ∀ t G2 H2, t.length = many.toNat → (∀ c ∈ t, c ∈ l) → UpM m w G H G2 H2 → DOk m w n G2 H2 → Q (.str (S t)) H2) : sp__law_letters K ca [.ref m, .str (S l), .int many] H Q E := ⟨G, m, w, n, l, many, rfl, d, h1, h2, h3, h4, k⟩
end
theorem signs_ok : ∀ l ∈ signs, l ≠ [] ∧ l.length ≤ 1000 ∧ ∀ c ∈ l, c ∈ [97, 99, 103, 116] := by decide
def sp__law_text (K : PySem.W.Frag) (ca : Str → Addr) : Sp := fun vs H Q E => ∃ (G : Hp) (m w : Addr) (n : Nat) (most : Int), vs = [.ref m, .int most] ∧ DOk m w (n + 2000) G H ∧ 1 ≤ most ∧ most ≤ 900 ∧
  ∀ t G2 H2, wordB t = true → (t.length : Int) ≤ most → UpM m w G H G2 H2 → DOk m w n G2 H2 → Q (.str (S t)) H2
theorem wordB_of {t : W} (h : t ≠ []) (h2 : ∀ c ∈ t, c ∈ [97, 99, 103, 116]) : wordB t = true := by
  unfold wordB
  rw [Bool.and_eq_true]
  refine ⟨List.all_eq_true.mpr fun c hc => ?_, ?_⟩
  · exact decide_eq_true (h2 c hc)
  · have := List.length_pos_iff.mpr h
    exact decide_eq_true this
theorem cut_to {α : Type} {t : List α} {i : Int} (h : 0 ≤ i) : cutL t none (some i) = t.take i.toNat := by
  unfold cutL
  have e0 : HT.sIx t.length 0 none = 0 := rfl
  rw [e0, List.drop_zero, Nat.sub_zero]
  have : HT.sIx t.length t.length (some i) = min i.toNat t.length := by
    unfold HT.sIx
    simp
    omega
  rw [this, List.take_eq_take_iff]
  omega
def t__law_text (K : PySem.W.Frag) (ca : Str → Addr) (E : XK) : TS := (tSeq ((tAsg ((tTup ((tCons ((tCall (sp__law_signs K ca) [] E ((tCons ((tVar 0)) (tNil))))) ((tCons ((tOp (rI0 fun i j => .int (i + j)) (tC (.int 1)) ((tCall (sp__law_take K ca) [] E ((tCons ((tVar 0)) ((tCons ((tVar 1)) (tNil))))))))) (tNil))))))) (gTup K 2 (gCons (gName 2) (gCons (gName 3) gNil))))) ((tSeq ((tIfS ((tTest (tOp (rI0 fun i j => .bl (decide (j < i))) ((tCall (sp__law_take K ca) [] E ((tCons ((tVar 0)) ((tCons (tC (.int 3)) (tNil))))))) (tC (.int 0))))) ((tRet ((tCall (sp__law_letters K ca) [] E ((tCons ((tVar 0)) ((tCons ((tVar 2)) ((tCons ((tVar 3)) (tNil))))))))))) (tNext))) ((tSeq ((tPar 4 5 ((tCons ((tLc ((iRng1 ((tCons (tC (.int 2)) (tNil))))) ((gName 6)) (tYes) ((tCall (sp__law_letters K ca) [] E0 ((tCons ((tVar 0)) ((tCons ((tVar 2)) ((tCons ((tOp (rI0 fun i j => .int (i + j)) (tC (.int 1)) ((tCall (sp__law_take K ca) [] E0 ((tCons ((tVar 0)) ((tCons (tC (.int 4)) (tNil))))))))) (tNil))))))))) [6])) ((tCons (tC (.str "")) (tNil))))))) ((tSeq ((tFor ((iRng1 ((tCons ((tVar 3)) (tNil))))) ((gName 6)) ((tAsg ((tOp (rAddS) ((tVar 5)) ((tCall (sp__law_pick K ca) [] E ((tCons ((tVar 0)) ((tCons ((tVar 4)) (tNil))))))))) (gName 5))))) ((tRet ((tSl (rSlS) ((tVar 5)) (tNoPart) ((tPart ((tVar 3)))))))))))))))
theorem pure__law_text {K : PySem.W.Frag} {ca : Str → Addr} (vs : List V) (H : Hp) (Q : VK) (E : XK) (h : sp__law_text K ca vs H Q E) : vs.length = 2 ∧ t__law_text K ca E { nx := fun _ H2 => Q .non H2, rt := Q } (start ["_law_draw", "_law_most", "_law_signs_here", "_law_many", "_law_some", "_law_found", "_law_lap"] vs) H := by
  obtain ⟨G, m, w, n, most, rfl, dk, hm1, hm9, k⟩ := h
  refine ⟨rfl, ?_⟩
  unfold t__law_text
  -- signs, many
  refine o_sAsg (o_tup (o_cons (o_call (o_cons (o_var (k := 0) rfl (o_nil ?_))))))
  refine ⟨G, m, w, n + 1999, rfl, dk, fun l G1 H1 hl u1 d1 => ?_⟩
  refine o_cons (o_op (o_c (o_call (o_cons (o_var (k := 0) rfl (o_cons (o_var (k := 1) rfl (o_nil ?_))))))))
  refine spv_take (n := n + 1998) d1 (by omega) (by omega) fun i H2 i0 i1 u2 d2 => ?_
  refine ⟨1, i, rfl, rfl, ?_⟩
  refine o_nil ⟨by show 2 ≤ sizeLine; decide, fun p hp => ⟨p, _, rfl, .inl (.inl upd_same), rfl, _, _, rfl, _, _, rfl, rfl, ?_⟩⟩
  have u3 := Up.hid (o := .tup [.str (S l), .int (1 + i)]) d2.i hp
  have d3 := d2.up u3
  have um3 := UpM.trans d2 (UpM.trans d1 u1 u2) (.of u3)
  obtain ⟨hl1, hl2, hl3⟩ := signs_ok l hl
  -- a plain one
  refine o_sIf (o_test (o_op (o_call (o_cons (o_var (k := 0) rfl (o_cons (o_c (o_nil ?_))))))))
  refine spv_take (n := n + 1997) d3 (by decide) (by decide) fun j H4 j0 j1 u4 d4 => ?_
  have um4 := UpM.trans d3 um3 u4
  refine o_c ⟨j, 0, rfl, rfl, _, rfl, ?_⟩
  by_cases hj : 0 < j
  · rw [if_pos (by simp [hj])]
    refine o_ret (o_call (o_cons (o_var (k := 0) rfl (o_cons (o_var (k := 2) rfl (o_cons (o_var (k := 3) rfl (o_nil ?_))))))))
    refine spv_letters (n := n) (d4.mono (by omega)) hl1 hl2 (by omega) (by omega) fun t G5 H5 ht hc u5 d5 => ?_
    refine k t G5 H5 (wordB_of ?_ (fun c h => hl3 c (hc c h))) (by omega) (UpM.trans d4 um4 u5) d5
    intro e; rw [e] at ht; simp at ht; omega
  · rw [if_neg (by simp [hj])]
    -- of pieces
    refine o_sPar (o_cons ?_)
    refine lcN (K := K) (m := m) (w := w) (b := 5) (n := n + 1900) (DD := dI) (DE := dS) (xs := rng 0 (2 : Int).toNat) (P := fun _ t => (t ≠ [] ∧ t.length ≤ 4) ∧ ∀ c ∈ t, c ∈ [97, 99, 103, 116]) (ei_rng1 (ea_cons ev_int ea_nil) (by omega) (by omega)) (fun z hz G5 H5 x r l5 d5 rx Q q => ?_) (by decide) (d4.mono (by rw [rng_len]; omega)) fun v as G5 H5 hal hP u5 d5 r5 => ?_
    · refine o_call (o_cons (o_var (k := 0) rfl (o_cons (o_var (k := 2) rfl (o_cons (o_op (o_c (o_call (o_cons (o_var (k := 0) rfl (o_cons (o_c (o_nil ?_)))))))))))))
      refine spv_take (n := r + 4) d5 (by decide) (by decide) fun a H6 a0 a1 u6 d6 => ?_
      refine ⟨1, a, rfl, rfl, o_nil ?_⟩
      refine spv_letters (n := r) (d6.mono (by omega)) hl1 hl2 (by omega) (by omega) fun t G7 H7 ht hc u7 d7 => ?_
      refine q _ t G7 H7 (UpM.trans d6 u6 u7) d7 ⟨⟨?_, by omega⟩, fun c h => hl3 c (hc c h)⟩ (.str _)
      intro e; rw [e] at ht; simp at ht; omega
    · have um5 := UpM.trans d4 um4 u5
      have ha2 : as.length = 2 := by rw [hal, rng_len]; rfl
      have hP' : ∀ a ∈ as, (a ≠ [] ∧ a.length ≤ 4) ∧ (∀ c ∈ a, c ∈ [97, 99, 103, 116]) := fun a ha => by
        obtain ⟨i', hi', rfl⟩ := List.getElem_of_mem ha
        have hi2 : i' < (rng 0 (2 : Int).toNat).length := by omega
        exact hP i' _ _ (List.getElem?_eq_getElem hi2) (List.getElem?_eq_getElem hi')
      refine o_cons (o_c (o_nil ⟨_, _, rfl, ?_⟩))
      have hlr : (rng 0 (1 + i).toNat).length = (1 + i).toNat := rng_len _ _
      refine o_seq (sn_forI (K := K) (b := 1) (n := n) (DD := dI) (xs := rng 0 (1 + i).toNat) (fun a σ => ∃ (t : W) (y6 : Option V), σ = [some (.ref m), some (.int most), some (.str (S l)), some (.int (1 + i)), some v, some (.str (S t)), y6] ∧ a ≤ t.length ∧ t.length ≤ a * 5 ∧ ∀ c ∈ t, c ∈ [97, 99, 103, 116]) (ei_rng1 (ea_cons (ev_var (i := 3) rfl (.int (1 + i))) ea_nil) (by omega) (by omega)) (d5.mono (by rw [hlr]; omega)) ⟨[], none, rfl, by simp, by simp, by simp⟩ ?_ ?_)
      · rintro a z hz σ1 G6 H6 x r ⟨t, y6, rfl, h1, h2, h3⟩ l6 d6 rx D2 kn
        refine o_set (o_op (o_var (k := 5) rfl (o_call (o_cons (o_var (k := 0) rfl (o_cons (o_var (k := 4) rfl (o_nil ?_))))))))
        refine spv_pick (n := r) d6 (r5.mono l6) (by intro e; rw [e] at ha2; cases ha2) (by omega) fun u q G7 H7 hq u7 d7 r7 => ?_
        have ha : a < (rng 0 (1 + i).toNat).length := (List.getElem?_eq_some_iff.mp hz).1
        rw [hlr] at ha
        rw [rp_str r7]
        obtain ⟨⟨q1, q2⟩, q3⟩ := hP' q hq
        have ql : 0 < q.length := List.length_pos_iff.mpr q1
        refine (opv_addS (K := K) (a := t) (b := q) (by omega)) G7 H7 _ _ d7.i (.str _) (.str _) _ fun u' G8 H8 u8 r8 => ?_
        rw [rp_str r8]
        refine kn _ G8 H8 ⟨t ++ q, _, rfl, by rw [List.length_append]; omega, by rw [List.length_append]; omega, fun c hc => ?_⟩ (UpM.trans d7 u7 (.of u8)) (d7.up u8)
        rcases List.mem_append.mp hc with z | z
        · exact h3 c z
        · exact q3 c z
      · rintro σ2 G6 H6 ⟨t, y6, rfl, h1, h2, h3⟩ u6 d6
        rw [hlr] at h1 h2
        have um6 := UpM.trans d5 um5 u6
        refine (ev_slS (K := K) (l := t) (ev_var (i := 5) rfl (.str _)) eo_none (eo_some (K := K) (i := 1 + i) (ev_var (i := 3) rfl (.int _))) (by omega)) G6 H6 (Le.refl _) d6.i Q fun u G7 H7 u7 r7 => ?_
        rw [rp_str r7]
        have hcut : cutL t none (some (1 + i)) = t.take (1 + i).toNat := cut_to (by omega)
        rw [hcut]
        have hlt : (t.take (1 + i).toNat).length = (1 + i).toNat := by rw [List.length_take]; omega
        refine k _ G7 H7 (wordB_of ?_ (fun c hc => h3 c (List.mem_of_mem_take hc))) (by omega) (UpM.trans d6 um6 (.of u7)) (d6.up u7)
        intro e; rw [e] at hlt; simp at hlt; omega
/-! ### odd things -/
theorem ev_dnew {K : PySem.W.Frag} {σ : L2.St} {G : Hp} : Ev K tDNewK σ G (.dict []) := fun G1 H1 l i Q q => fun p hp => by
  have u := Up.new (o := .dK []) i hp
  exact q _ _ _ u (.dic upd_same .nil)
def odds : List PyData := [.none, .bool true, .bool false, .int (-1), .int (10 ^ 30 - 1), dS [], dS [65], dS [97, 99, 103, 117], dS [97, 32, 99], dS [32, 97], dS [97, 99, 10], .tuple [], .list [], .dict [], .tuple [dS [97]], .list [dS [97]]] ++ [dM dI [((Sum.inr (S [97]) : Key), (1 : Int))], .tuple [.none], dS [49], .tuple [dS [97], dS [99]], .list [.list [dS [97]]], dS [110]]
def sp__law_odd (K : PySem.W.Frag) (ca : Str → Addr) : Sp := fun vs H Q E => ∃ (G : Hp) (m w : Addr) (n : Nat), vs = [.ref m] ∧ DOk m w (n + 1) G H ∧ ∀ u d G2 H2, d ∈ odds → UpM m w G H G2 H2 → DOk m w n G2 H2 → Rp K G2 u d → Q u H2
def t__law_odd (K : PySem.W.Frag) (ca : Str → Addr) (E : XK) : TS := (tSeq ((tAsg ((tLst ((tCons (tC .non) ((tCons (tC (.bl true)) ((tCons (tC (.bl false)) ((tCons ((tUn (rU fun i => .int (-i)) (tC (.int 1)))) ((tCons ((tOp (rI0 fun i j => .int (i - j)) ((tOp (rI CPow fun i j => .int (i ^ j.toNat)) (tC (.int 10)) (tC (.int 30)))) (tC (.int 1)))) ((tCons (tC (.str "")) ((tCons (tC (.str "A")) ((tCons (tC (.str "acgu")) ((tCons (tC (.str "a c")) ((tCons (tC (.str " a")) ((tCons (tC (.str "ac\n")) ((tCons ((tTup (tNil))) ((tCons ((tLst (tNil))) ((tCons (tDNewK) ((tCons ((tTup ((tCons (tC (.str "a")) (tNil))))) ((tCons ((tLst ((tCons (tC (.str "a")) (tNil))))) (tNil))))))))))))))))))))))))))))))))))) (gName 1))) ((tRet ((tCall (sp__law_pick K ca) [] E ((tCons ((tVar 0)) ((tCons ((tOp (rCat) ((tVar 1)) ((tLst ((tCons ((tDisp [(tC (.str "a"), tC (.int 1))])) ((tCons ((tTup ((tCons (tC .non) (tNil))))) ((tCons (tC (.str "1")) ((tCons ((tTup ((tCons (tC (.str "a")) ((tCons (tC (.str "c")) (tNil))))))) ((tCons ((tLst ((tCons ((tLst ((tCons (tC (.str "a")) (tNil))))) (tNil))))) ((tCons (tC (.str "n")) (tNil))))))))))))))))) (tNil))))))))))
theorem pure__law_odd {K : PySem.W.Frag} {ca : Str → Addr} (vs : List V) (H : Hp) (Q : VK) (E : XK) (h : sp__law_odd K ca vs H Q E) : vs.length = 1 ∧ t__law_odd K ca E { nx := fun _ H2 => Q .non H2, rt := Q } (start ["_law_draw", "_law_some"] vs) H := by
  obtain ⟨G, m, w, n, rfl, dk, k⟩ := h
  refine ⟨rfl, ?_⟩
  unfold t__law_odd
  refine o_sSet (ev_at (K := K) (ev_lst (ea_cons ev_non (ea_cons ev_bl (ea_cons ev_bl (ea_cons (ev_un ev_int unv_neg) (ea_cons (ev_op (ev_op ev_int ev_int (opv_pow ⟨by decide, by decide, by decide⟩)) ev_int opv_sub) (ea_cons (ev_lit (l := []) (by decide +kernel)) (ea_cons (ev_lit (l := [65]) (by decide +kernel)) (ea_cons (ev_lit (l := [97, 99, 103, 117]) (by decide +kernel)) (ea_cons (ev_lit (l := [97, 32, 99]) (by decide +kernel)) (ea_cons (ev_lit (l := [32, 97]) (by decide +kernel)) (ea_cons (ev_lit (l := [97, 99, 10]) (by decide +kernel)) (ea_cons (ev_tup ea_nil (by decide)) (ea_cons (ev_lst ea_nil (by decide)) (ea_cons ev_dnew (ea_cons (ev_tup (ea_cons (ev_lit (l := [97]) (by decide +kernel)) ea_nil) (by decide)) (ea_cons (ev_lst (ea_cons (ev_lit (l := [97]) (by decide +kernel)) ea_nil) (by decide)) ea_nil)))))))))))))))) (by decide)) dk.i fun v G1 H1 u1 r1 => ?_)
  refine o_ret (o_call (o_cons (o_var (k := 0) rfl (o_cons (ev_at (K := K) (ev_op (ev_var (i := 1) rfl r1) (ev_lst (ea_cons (ev_disp (DE := dI) (es := [((Sum.inr (S [97]) : Key), (1 : Int))]) (ep_cons (ev_lit (l := [97]) (by decide +kernel)) ev_int ep_nil) (by decide)) (ea_cons (ev_tup (ea_cons ev_non ea_nil) (by decide)) (ea_cons (ev_lit (l := [49]) (by decide +kernel)) (ea_cons (ev_tup (ea_cons (ev_lit (l := [97]) (by decide +kernel)) (ea_cons (ev_lit (l := [99]) (by decide +kernel)) ea_nil)) (by decide)) (ea_cons (ev_lst (ea_cons (ev_lst (ea_cons (ev_lit (l := [97]) (by decide +kernel)) ea_nil) (by decide)) ea_nil) (by decide)) (ea_cons (ev_lit (l := [110]) (by decide +kernel)) ea_nil)))))) (by decide)) (opv_cat (by decide))) u1.i fun v2 G2 H2 u2 r2 => ?_)))))
  have d2 := dk.up (u1.trans u2)
  refine o_nil ⟨G2, m, w, n, v2, _, rfl, d2, r2, by simp [itemsD], by simp [itemsD], fun u e G3 H3 he u3 d3 r3 => k u e G3 H3 ?_ (UpM.trans d2 (.of (u1.trans u2)) u3) d3 r3⟩
  exact he
end Z

namespace Z
open PySem PySem.Spec PyProof.Rows L2
/-! ### calls with keywords -/
/-- the arguments in the parameters' order: is tells, for each parameter, its place among the written values -/
def perm (is : List Nat) {α : Type} (us ws : List α) : List α := is.filterMap fun i => (us ++ ws)[i]?
theorem vals_get {vs : List V} {us : List Value} (r : Vals vs us) : ∀ i : Nat, (vs[i]? = none ∧ us[i]? = none) ∨ ∃ v u, vs[i]? = some v ∧ us[i]? = some u ∧ RelV v u := by
  induction r with
  | nil => intro i; exact .inl ⟨by simp, by simp⟩
  | cons h _ ih =>
    intro i
    cases i with
    | zero => exact .inr ⟨_, _, rfl, rfl, h⟩
    | succ i => simpa using ih i
theorem perm_rel (is : List Nat) {vs zs : List V} {us ws : List Value} (r : Vals vs us) (rz : Vals zs ws) : Vals (perm is vs zs) (perm is us ws) := by
  have ra := r.append rz
  unfold perm
  induction is with
  | nil => exact .nil
  | cons i is ih =>
    rcases vals_get ra i with ⟨e1, e2⟩ | ⟨v, u, e1, e2, h⟩
    · rw [List.filterMap_cons_none e1, List.filterMap_cons_none e2]; exact ih
    · rw [List.filterMap_cons_some e1, List.filterMap_cons_some e2]; exact .cons h ih
/-- a def called with n positional values and the keywords ks -/
def FnKw (P : Program) (w : World) (K : PySem.W.Frag) (mg : Str → Option Value) (base : Heap) (k : Nat) (x : Str) (ps : List Str) (sp : Sp) (n : Nat) (ks : List Str) (is : List Nat) : Prop :=
  ∃ f fd, FnOk P w K mg base (L2.CX P w) k f fd ps sp ∧ mg x = some (.ref f) ∧ PySem.W.keepIn K (.ref f) = true ∧ KBn K fd ps n ks (perm is) (perm is)
theorem kb_of {K : PySem.W.Frag} {x qual : Str} {params : Arguments} {body : List Stmt} {scope : Scope} {f : Addr} {fd : FuncData} {ps : List Str} (F : FunD K x qual params body scope [] [] f fd) (n : Nat) (ks : List Str) (is : List Nat)
    (h : ∀ (kV doc pm : Value) (an : Option Addr) (cdv ct : Value) (us ws : List Value), us.length = n → ws.length = ks.length → bindArgs (PySem.W.fnOf x qual params body scope .none kV doc pm an cdv ct) ⟨us, ks.zip ws⟩ = pure (ps.zip (perm is us ws))) : KBn K fd ps n ks (perm is) (perm is) := by
  obtain ⟨oc, od, dV, kV, doc, pm, an, cdv, ct, osl, rfl, lk, hcd, hD, hK⟩ := F.ex
  rcases hD with ⟨_, rfl⟩ | ⟨e, _⟩
  · exact ⟨fun s us ws _ l1 l2 => .of_eq (h kV doc pm an cdv ct us ws l1 l2), fun r rz => perm_rel is r rz⟩
  · exact absurd rfl e
section
variable {X : Cx} {k n : Nat} {x : Str} {ps ks : List Str} {is : List Nat} {sp : Sp} {E : XK} {e : Expr} {es : List Expr} {kws : List Keyword} {t tk : TA} {p pos : Pos}
theorem pe_fnK0 (F : FnKw X.prog X.w X.K X.mg X.base k x ps sp 0 ks is) (hr : Room k X.A) (hg : Gl X x) (hx : Passes (L2.CX X.prog X.w) X E) (hkw : PK X kws tk)
    (hall : (backToKw pos (keywordEach kws X.env)).all (·.1.isSome) = true := by rfl) (hks : (backToKw pos (keywordEach kws X.env)).filterMap (·.1) = ks := by rfl)
    (hdb : (x == ("__debug__" : Str)) = false := by decide) (hpl : ((backTo pos (starEach [] X.env)).any (·.1) || (backToKw pos (keywordEach kws X.env)).any (·.1.isNone)) = false := by rfl) :
    PE X (.Call (.Name x p) [] kws pos) (tCallN 0 ks.length sp (perm is) E tNil tk) := by
  obtain ⟨f, fd, G, hm, hk, hb⟩ := F
  refine ⟨fun pins s σ H Q I h => ?_⟩
  refine wpAny_Call_Name_kw (ld_glob I hg hm ?_ hdb)
  refine PySem.W.callWith_KW0 (h₀ := X.base) I.ok.mod.kin hk hall (thn (hkw.run pos pins s σ H _ I h) fun ws s2 ⟨zs, H2, I2, rz, l1, l2, q2⟩ => ⟨I2.kIn, ?_⟩) hpl
  rw [hks]
  exact run_fnN (us := []) (vs := []) G hr hb hx I2 .nil rz l1 l2 q2
theorem pe_fnK (F : FnKw X.prog X.w X.K X.mg X.base k x ps sp n ks is) (hr : Room k X.A) (hg : Gl X x) (hx : Passes (L2.CX X.prog X.w) X E) (ha : PA X (e :: es) t) (hkw : PK X kws tk)
    (hall : (backToKw pos (keywordEach kws X.env)).all (·.1.isSome) = true := by rfl) (hks : (backToKw pos (keywordEach kws X.env)).filterMap (·.1) = ks := by rfl)
    (hdb : (x == ("__debug__" : Str)) = false := by decide) (he : starEach (e :: es) X.env = (false, eval e X.env) :: starEach es X.env := by rfl)
    (hpl : ((backTo pos (starEach (e :: es) X.env)).any (·.1) || (backToKw pos (keywordEach kws X.env)).any (·.1.isNone)) = false := by rfl) :
    PE X (.Call (.Name x p) (e :: es) kws pos) (tCallN n ks.length sp (perm is) E t tk) := by
  obtain ⟨f, fd, G, hm, hk, hb⟩ := F
  exact pe_callN G hr hg hm hk hb hx ha hkw hall hks hdb he hpl
end
section
variable {K : PySem.W.Frag} {σ : L2.St} {G : Hp}
/-- what a keyword call gives -/
theorem ev_callN {sp : Sp} {E : XK} {t tk : TA} {n m : Nat} {is : List Nat} {as bs ds : List PyData} {d : PyData} (ha : EvA K t σ G as) (hk : EvA K tk σ G bs) (h1 : as.length = n) (h2 : bs.length = m) (hp : perm is as bs = ds) (hr : SpV K sp E ds d) : Ev K (tCallN n m sp (perm is) E t tk) σ G d := fun G1 H1 l i Q q =>
  ha G1 H1 l i _ fun vs G2 H2 u2 p2 => hk G2 H2 (l.trans u2.g) u2.i _ fun zs G3 H3 u3 p3 => by
    refine ⟨p2.len.trans h1, p3.len.trans h2, hr G3 H3 _ u3.i ?_ Q fun v G4 H4 u4 p4 => q v G4 H4 ((u2.trans u3).trans u4) p4⟩
    rw [← hp]
    have ra := rpa_app (p2.mono u3.g) p3
    unfold perm
    clear hp hr
    induction is with
    | nil => exact .nil
    | cons i is ih =>
      cases hd : (as ++ bs)[i]? with
      | none =>
        have hv : (vs ++ zs)[i]? = none := by
          rw [List.getElem?_eq_none_iff] at hd ⊢
          rw [ra.len]; exact hd
        rw [List.filterMap_cons_none hd, List.filterMap_cons_none hv]; exact ih
      | some e =>
        obtain ⟨v, hv, r⟩ := ra.get hd
        rw [List.filterMap_cons_some hd, List.filterMap_cons_some hv]; exact .cons r ih
end
end Z

namespace Z
open PySem PySem.Spec PyProof.Rows L2
/-! ### repr -/
def rRepr (K : PySem.W.Frag) : List V → Hp → VK → Prop := fun xs H Q => ∃ x d, xs = [x] ∧ Dp K H x d ∧ d.showable = true ∧ d.hasDict = false ∧ d.depth ≤ 60 ∧ d.shown.length ≤ sizeLine ∧ Q (.str d.shown) H
theorem cr_repr {X : Cx} (hg : X.A.guards = some []) (hu : X.A.units + 64 < cLine) : CallR X (.builtin "repr") (rRepr X.K) := by
  intro pins s σ H xs us Q I r h
  obtain ⟨x, d, rfl, hd, hs, hn, hp, hz, q⟩ := h
  obtain ⟨u, rfl, ru⟩ := vals1 r
  cases hd with
  | non =>
    cases ru
    exact PySem.P.repr_of_none ⟨.str _, H, I.tok _, ⟨_, rfl⟩, q⟩
  | bl b =>
    cases ru
    exact PySem.P.repr_of_bool ⟨.str _, H, I.tok _, ⟨_, by cases b <;> rfl⟩, q⟩
  | int i =>
    obtain ⟨t, rfl⟩ := ru
    exact PySem.P.repr_of_int (by simpa [PyData.showable] using hs) ⟨.str _, H, I.tok _, ⟨_, rfl⟩, q⟩
  | str y =>
    obtain ⟨t, rfl⟩ := ru
    exact PySem.P.repr_of_str ⟨.str _, H, I.tok _, ⟨_, rfl⟩, q⟩ hz
  | lst h1 h2 =>
    rename_i a xs ds
    obtain rfl : u = Value.ref a := ru
    obtain ⟨as, hr⟩ := Dp.reads I _ _ _ (Dp.lst h1 h2) rfl
    exact repr_of_reads' hr hs (fun z => by rw [hn] at z; cases z) hg (by omega) (fun _ _ e => e) (fun h' u' tk hk => ⟨.str _, H, I.kept hk, ⟨_, rfl⟩, q⟩) hz
  | tup h1 h2 =>
    rename_i a xs ds
    obtain rfl : u = Value.ref a := ru
    obtain ⟨as, hr⟩ := Dp.reads I _ _ _ (Dp.tup h1 h2) rfl
    exact repr_of_reads' hr hs (fun z => by rw [hn] at z; cases z) hg (by omega) (fun _ _ e => e) (fun h' u' tk hk => ⟨.str _, H, I.kept hk, ⟨_, rfl⟩, q⟩) hz
end Z

namespace Z
open PySem PySem.Spec PyProof.Rows L2 LamX
/-! ### defs that run where no repr is under way -/
structure FnG (P : Program) (w : World) (K : PySem.W.Frag) (mg : Str → Option Value) (base : Heap) (C : CXT) (k : Nat) (f : Addr) (fd : FuncData) (ps : List Str) (sp : Sp) : Prop where
  len : ∀ vs H Q E, sp vs H Q E → vs.length = ps.length
  run : ∀ (A : Around) (outer : List Env) (s : Shared) (H : Hp) (args : Args) (us : List Value) (vs : List V) (Q : VK) (E : XK), A.guards = some [] → Room k A → Env0 P w K mg base A outer s H → BindsTo s fd args (ps.zip us) → Vals vs us → sp vs H Q E →
    codeAny (model P w) A (.call (.ref f) args) (CR C outer P w H s Q E) s
theorem FnG.of {P : Program} {w : World} {K : PySem.W.Frag} {mg : Str → Option Value} {base : Heap} {C : CXT} {k : Nat} {f : Addr} {fd : FuncData} {ps : List Str} {sp : Sp} (F : FnOk P w K mg base C k f fd ps sp) : FnG P w K mg base C k f fd ps sp :=
  ⟨F.len, fun A outer s H args us vs Q E _ => F.run A outer s H args us vs Q E⟩
/-- the rule for such a def: its body may ask for the guards -/
theorem okG {P : Program} {w : World} {K : PySem.W.Frag} {mg : Str → Option Value} {base : Heap} {x qual : Str} {params : Arguments} {body : List Stmt} {scope : Scope} {dvs : List V} {kws : List (Str × V)} {f : Addr} {fd : FuncData} {C : CXT} {N ps : List Str} {k : Nat} {sp : Sp}
    (F : FunD K x qual params body scope dvs kws f fd) (S : FnScope N ps scope) (len : ∀ vs H Q E, sp vs H Q E → vs.length = ps.length)
    (hb : ∀ (cdv : Value) (A : Around) (outer : List Env) (s : Shared) (H : Hp) (vs : List V) (Q : VK) (E : XK), fd.code = cdv → A.guards = some [] → Room k (A.deeper (envOfC qual scope s.heap.objs.size f cdv)) → sp vs H Q E →
      ∃ t, PSs (cxOf C P w K mg base N qual scope f cdv A outer s H E) body t ∧ t { nx := fun _ H' => Q .non H', rt := Q } (start N vs) H) : FnG P w K mg base C (k + 1) f fd ps sp := by
  refine ⟨len, fun A outer s H args us vs Q E hg hr e0 hbd r hsp => ?_⟩
  obtain ⟨oc, od, dV, kV, doc, pm, an, cdv, ct, osl, rfl, lk, hcd, _, _⟩ := F.ex
  have KS : K.In s.heap := e0.mod.kin.keeps fun b o e => (e0.bs b o e).1
  have LS : s.heap.NoLimit := e0.mod.nolimit.keeps fun b o e => (e0.bs b o e).1
  have hn : ∀ y ∈ ps.zip us, scope.names.lookup y.1 = some .local ∨ (scope.names.lookup y.1 = some .cell ∧ ((cellsFrom (s.heap.objs.size + 1) scope.names []).lookup y.1).isSome = true) := by
    rintro ⟨n, v⟩ hy
    rcases S.par n (List.of_mem_zip hy).1 with q | q
    · left; exact q
    · right; exact ⟨q, PySem.W.cellsFrom_some _ _ _ (.inl q)⟩
  refine codeAny_call_function hr.depth (KS _ _ lk) rfl S.co S.gen rfl (PySem.W.codeRec_of KS hcd) (hbd _ _ _ _ ?_)
  refine wpAny_newFunctionEnv_cells S.kind hn fun env he s1 y => ?_
  subst he
  refine ⟨LS.keeps y.toInCall.keep, codeAny_func ?_⟩
  obtain ⟨t, ht, hq⟩ := hb cdv A outer s H vs Q E rfl hg (hr.deeper _) hsp
  have I0 : Inv (cxOf C P w K mg base N qual scope f cdv A outer s H E) [] (start N vs) H s1 := inv_start S hr.hd e0 (len _ _ _ _ hsp) r y
  refine wpAny_mono (ht.run [] s1 (start N vs) H _ I0 hq) (fun fl s' hs => ?_) fun e s' hs => hs
  cases fl with
  | ret u =>
    obtain ⟨v, σ1, H1, J, rv, q⟩ := hs
    exact ⟨v, H1, J.os, J.bare, J.base, J.hok, rv, q⟩
  | next =>
    obtain ⟨σ1, H1, J, q⟩ := hs
    exact ⟨V.non, H1, J.os, J.bare, J.base, J.hok, rfl, q⟩
  | brk =>
    obtain ⟨_, _, _, q⟩ := hs
    exact q.elim
  | cont =>
    obtain ⟨_, _, _, q⟩ := hs
    exact q.elim
/-- the def x of the module, called where no repr is under way -/
def FnGs (P : Program) (w : World) (K : PySem.W.Frag) (mg : Str → Option Value) (base : Heap) (k : Nat) (x : Str) (ps : List Str) (sp : Sp) : Prop :=
  ∃ f fd, FnG P w K mg base (L2.CX P w) k f fd ps sp ∧ mg x = some (.ref f) ∧ PySem.W.keepIn K (.ref f) = true ∧ Binds K fd ps []
theorem pe_fnG {X : Cx} {k : Nat} {x : Str} {ps : List Str} {sp : Sp} {E : XK} {e : Expr} {es : List Expr} {t : TA} {p pos : Pos} (F : FnGs X.prog X.w X.K X.mg X.base k x ps sp) (hgd : X.A.guards = some []) (hr : Room k X.A) (hg : Gl X x) (hx : Passes (L2.CX X.prog X.w) X E) (ha : PA X (e :: es) t) (hdb : (x == ("__debug__" : Str)) = false := by decide)
    (he : starEach (e :: es) X.env = (false, eval e X.env) :: starEach es X.env := by rfl) (hpl : (backTo pos (starEach es X.env)).any (·.1) = false := by rfl) :
    PE X (.Call (.Name x p) (e :: es) [] pos) (tCall sp [] E t) := by
  obtain ⟨f, fd, F, hm, hk, hb⟩ := F
  refine ⟨fun pins s σ H Q I h => ?_⟩
  refine wpAny_Call_Name_kw (ld_glob I hg hm ?_ hdb)
  refine PySem.W.callWith_K (h₀ := X.base) I.ok.mod.kin hk (thn (ha.run pos pins s σ H _ I h) fun us s1 ⟨vs, H1, I1, r, q⟩ => ⟨I1.kIn, ?_⟩) he hpl
  have r2 : Vals (vs ++ []) (us ++ []) := r.append .nil
  have q : sp (vs ++ []) H1 Q E := q
  have hl : (us ++ []).length = ps.length := by rw [← r2.length]; exact F.len _ _ _ _ q
  refine wpAny_call (codeAny_mono (F.run X.A X.stack s1 H1 ⟨us, []⟩ (us ++ []) (vs ++ []) Q E hgd hr I1.env0 (hb s1 us I1.kIn hl) r2 q) fun r' s' hq => ?_)
  match r', hq with
  | .error e, hq => exact hx pins σ H1 s1 e s' I1 hq
  | .ok (.ret u), hq => exact I1.after hq
  | .ok .next, hq => exact False.elim hq
  | .ok .brk, hq => exact False.elim hq
  | .ok .cont, hq => exact False.elim hq
end Z

namespace Z
open PySem PySem.Spec PyProof.Rows L2 LamX
/-- the law's call where the law's def is of FnG; cs: code objects with their tables -/
theorem lawCallG {P : Program} {w : World} {K : PySem.W.Frag} {mg mb : Str → Option Value} {C : CXT} {k : Nat} {fa a : Addr} {cs : List (Addr × Addr)} {fd : FuncData} {x : Str} {sp : Sp} {t1 : Shared} {vs : List Value} {ns : List Int}
    (KX : K.In t1.heap) (gN : t1.heap.Ns mainGlobals mg) (bN : t1.heap.Ns builtinsNs mb) (bB : ∀ x : Str, x ≠ "__name__" → mb x = bootBuiltins x) (lim : t1.heap.NoLimit) (gen0 : t1.gens = #[])
    (hT : ∀ p ∈ cs, t1.heap.get? p.2 = some { cls := .none, data := .fields #[] }) (nT : ∀ p ∈ cs, K.lookup p.2 = none) (hC : ∀ p ∈ cs, PySem.W.CodeHd t1.heap p.1 p.2)
    (bmn : ∃ (bm : Addr) (ob : Obj), mg "__builtins__" = some (.ref bm) ∧ bm ≠ builtinsNs ∧ t1.heap.get? bm = some ob ∧ ob.cls = .type "module" ∧ ob.dict = some builtinsNs ∧ ob.data = .plain)
    (hA : t1.heap.get? a = some { cls := .type "list", data := .seq vs.toArray }) (hI : IntsAre vs ns) (hL : ns.length ≤ sizeLine) (hR : Room k callerA)
    (F : ∀ base : Heap, K.In base → base.Ns mainGlobals mg → (∀ p ∈ cs, TabB base mg p.1 p.2) → FnG P w K mg base C k fa fd [x] sp) (hB : ∀ (s : Shared) (u : Value), BindsTo s fd ⟨[u], []⟩ [(x, u)])
    (hsp : ∀ H : Hp, (∀ p ∈ cs, H p.2 = some (.tbl #[])) → SqL K H a (ns.map V.int) → sp [.ref a] H (fun v _ => v = .bl true) fun _ _ _ => False)
    (hX : ∀ H e s', C [] H t1 (fun _ _ _ => False) e s' → False) :
    codeAny (model P w) callerA (.call (.ref fa) ⟨[.ref a], []⟩) (fun r s' => r = .ok (.ret (.bool true)) ∧ OldK t1.heap s'.heap ∧ s'.os = t1.os ∧ AllBare s'.gens) t1 := by
  have rv := vals_ints hI
  have T0 : ∀ b, b ∈ cs.map (·.2) → t1.heap.get? b = some { cls := .none, data := .fields #[] } := by
    intro b hb
    obtain ⟨p, hp, rfl⟩ := List.mem_map.mp hb
    exact hT p hp
  have inT : ∀ p ∈ cs, p.2 ∈ cs.map (·.2) := fun p hp => List.mem_map_of_mem hp
  have aT : ¬ a ∈ cs.map (·.2) := by
    intro z
    have q := T0 a z
    rw [hA] at q
    have z' : Data.seq vs.toArray _ = Data.fields #[] := congrArg Obj.data (Option.some.inj q)
    cases z'
  -- what is tracked: the tables, and the script unless the module knows it
  let so : HO := .frz { cls := .type "list", data := .seq vs.toArray } (.lst (ns.map V.int))
  let H : Hp := fun b => if b ∈ cs.map (·.2) then some (.tbl #[]) else if b = a ∧ K.lookup a = none then some so else none
  have HT : ∀ b, b ∈ cs.map (·.2) → H b = some (.tbl #[]) := fun b hb => if_pos hb
  have Hs : ∀ b o, H b = some o → (b ∈ cs.map (·.2) ∧ o = .tbl #[]) ∨ (b = a ∧ K.lookup a = none ∧ o = so) := by
    intro b o e
    by_cases hb : b ∈ cs.map (·.2)
    · left; rw [HT b hb] at e; cases e; exact ⟨hb, rfl⟩
    · right
      have e : (if b = a ∧ K.lookup a = none then some so else none) = some o := (if_neg hb).symm.trans e
      by_cases h2 : b = a ∧ K.lookup a = none
      · rw [if_pos h2] at e; cases e; exact ⟨h2.1, h2.2, rfl⟩
      · rw [if_neg h2] at e; cases e
  have Sq : SqL K H a (ns.map V.int) := by
    cases hk : K.lookup a with
    | some o =>
      have e := KX a o hk
      rw [hA] at e; cases e
      exact .inr ⟨_, vs.toArray, _, hk, rfl, rfl, rfl, by rw [List.size_toArray, hI.length]; exact hL, by simpa using rv⟩
    | none =>
      refine .inl (.inr ⟨{ cls := .type "list", data := .seq vs.toArray }, ?_⟩)
      show (if a ∈ cs.map (·.2) then _ else _) = _
      rw [if_neg aT, if_pos ⟨rfl, hk⟩]
  have hok : HOk P w H t1.heap := by
    intro b o e
    rcases Hs b o e with ⟨hb, rfl⟩ | ⟨rfl, _, rfl⟩
    · exact T0 b hb
    · exact ⟨hA, by rw [List.length_map]; exact hL, vs, _, rv, hA⟩
  have free : ∀ {b : Addr} {o : Obj}, t1.heap.get? b = some o → (∀ us n, o.data ≠ .seq us n) → o.data ≠ .fields #[] → H b = none := by
    intro b o e h1 h2
    cases q : H b with
    | none => rfl
    | some u =>
      rcases Hs b u q with ⟨hb, _⟩ | ⟨rfl, _, _⟩
      · rw [T0 b hb] at e; cases e; exact (h2 rfl).elim
      · rw [hA] at e; cases e; exact (h1 _ _ rfl).elim
  have dfree : ∀ {b : Addr} {o : Obj} {es : Array DictEntry} {n : Nat}, t1.heap.get? b = some o → o.data = .dict es n → H b = none := by
    intro b o es n e d
    refine free e (fun us m z => ?_) (fun z => ?_) <;> rw [d] at z <;> cases z
  have NsK : ∀ {b : Addr} {f : Str → Option Value}, t1.heap.Ns b f → (hidT t1.heap H).Ns b f := by
    rintro b f ⟨o, es, n, e, d, r⟩
    exact ⟨o, es, n, hidT_get e (dfree e d), d, r⟩
  have KB : K.In (hidT t1.heap H) := by
    intro b o e
    refine hidT_get (KX b o e) ?_
    cases q : H b with
    | none => rfl
    | some u =>
      rcases Hs b u q with ⟨hb, _⟩ | ⟨rfl, hk, _⟩
      · obtain ⟨p, hp, rfl⟩ := List.mem_map.mp hb
        rw [nT p hp] at e; cases e
      · rw [hk] at e; cases e
  obtain ⟨mc, l1, l2⟩ := lim
  have M0 : L2.Mod K mg (hidT t1.heap H) := { kin := KB, glob := NsK gN, blt := ⟨mb, NsK bN, bB⟩, nolimit := ⟨mc, NsK l1, l2⟩ }
  have TB : ∀ p ∈ cs, TabB (hidT t1.heap H) mg p.1 p.2 := by
    intro p hp
    have hTp := hT p hp
    constructor
    · obtain ⟨o, us, file, tf, flags, tg, inF, text, tt, e1, r1, r2, r3, rr⟩ := hC p hp
      refine ⟨o, us, file, tf, flags, tg, inF, text, tt, hidT_get e1 (free e1 (fun us n z => ?_) (fun z => ?_)), r1, r2, r3, rr⟩
      · rw [r2] at z; cases z
      · rw [r2] at z; cases z; simp at r3
    · obtain ⟨bm, ob, b1, b2, b3, b4, b5, b6⟩ := bmn
      refine ⟨bm, ob, b1, b2, fun q => ?_, fun q => ?_, hidT_get b3 (free b3 (fun us n z => ?_) (fun z => ?_)), b4, b5, b6⟩
      · obtain ⟨o, es, n, e, d, _⟩ := gN
        rw [q, e] at b3; cases b3; rw [d] at b6; cases b6
      · rw [q, hTp] at b3; cases b3; cases b6
      · rw [b6] at z; cases z
      · rw [b6] at z; cases z
    · intro z
      obtain ⟨o, es, n, e, d, _⟩ := gN
      rw [z, hTp] at e; cases e; cases d
  have E0' : Env0 P w K mg (hidT t1.heap H) callerA [] t1 H := by
    refine ⟨rfl, M0, fun b o e => of_hidT e, Nat.le_of_eq (hidT_size _ _), trivial, fun b hb => ?_, hok, .of_eq gen0⟩
    exact absurd (show b ∈ ([] : List Addr) from hb) (by simp)
  refine codeAny_mono ((F _ KB (NsK gN) TB).run callerA [] t1 H ⟨[.ref a], []⟩ [.ref a] [.ref a] _ _ rfl hR E0' (hB t1 (.ref a)) (.cons rfl .nil) (hsp H (fun p hp => HT _ (inT p hp)) Sq)) fun r s' h => ?_
  match r, h with
  | .error e, h => exact (hX H e s' h).elim
  | .ok .next, h => exact h.elim
  | .ok .brk, h => exact h.elim
  | .ok .cont, h => exact h.elim
  | .ok (.ret u), h =>
    obtain ⟨v, H', os, bare, un, hok', r', q⟩ := h
    have q : v = .bl true := q
    subst q
    obtain rfl : u = Value.bool true := r'
    have old : ∀ b o, ¬ b ∈ cs.map (·.2) → t1.heap.get? b = some o → s'.heap.get? b = some o := by
      intro b o nb e
      cases q : H b with
      | none => exact un.keep b o e q (fun z => absurd (show b ∈ ([] : List Addr) from z) (by simp)) (by simp)
      | some u =>
        rcases Hs b u q with ⟨hb, _⟩ | ⟨rfl, _, rfl⟩
        · exact absurd hb nb
        · obtain ⟨e1, _⟩ := hok b _ q
          obtain ⟨e2, _⟩ := hok' b _ (un.frzs b _ _ q)
          rw [e] at e1; cases e1
          exact e2
    have grew : ∀ p ∈ cs, ∃ more : Array Value, s'.heap.get? p.2 = some { cls := .none, data := .fields more } := by
      intro p hp
      obtain ⟨more, z⟩ := un.tbls p.2 #[] (HT _ (inT p hp))
      exact ⟨_, hok' p.2 _ z⟩
    refine ⟨rfl, ⟨fun b o e => ?_, fun b o e => ?_⟩, os, bare⟩
    · by_cases hb : b ∈ cs.map (·.2)
      · obtain ⟨p, hp, rfl⟩ := List.mem_map.mp hb
        obtain ⟨more, hm⟩ := grew p hp
        rw [hT p hp] at e
        cases e
        exact .inr (.inl ⟨((hC p hp).tab (hT p hp)).isCodeTable, rfl, #[], more, rfl, by rw [Array.empty_append]; exact hm⟩)
      · exact .inl (old b o hb e)
    · by_cases hb : b ∈ cs.map (·.2)
      · obtain ⟨p, hp, rfl⟩ := List.mem_map.mp hb
        obtain ⟨more, hm⟩ := grew p hp
        exact ⟨_, hm⟩
      · exact ⟨o, old b o hb e⟩
/-- the walk of a law whose def is of FnG -/
theorem walkG {l : PySem.W.OpenLaw} {n k : Nat} {q : Program} {loose : List Str} {XP : (Str → Option Value) → Heap → Prop} {YP : World → Heap → Prop} {d : DefRec} {C : World → CXT} {x : Str}
    (hn : l.most = some n) (hn2 : n ≤ sizeLine) (hdf : d.params.defaults = []) (hR : Room k callerA)
    (F : ∀ (w : World) (mg : Str → Option Value) (fa : Addr) (h : Heap), YP w h → h.Ns mainGlobals mg → mg d.name = some (.ref fa) →
      ∃ (K : PySem.W.Frag) (fd : FuncData) (cs : List (Addr × Addr)) (sp : Sp), K.In h ∧ (∀ p ∈ cs, h.get? p.2 = some { cls := .none, data := .fields #[] }) ∧ (∀ p ∈ cs, K.lookup p.2 = none) ∧ (∀ p ∈ cs, PySem.W.CodeHd h p.1 p.2) ∧ (∀ (s : Shared) (u : Value), BindsTo s fd ⟨[u], []⟩ [(x, u)]) ∧
        (∀ (H : Hp) (a : Addr) (ns : List Int), ns.length ≤ n → (∀ p ∈ cs, H p.2 = some (.tbl #[])) → SqL K H a (ns.map V.int) → sp [.ref a] H (fun v _ => v = .bl true) fun _ _ _ => False) ∧
        ∀ base : Heap, K.In base → base.Ns mainGlobals mg → (∀ p ∈ cs, TabB base mg p.1 p.2) → FnG l.prog w K mg base (C w) k fa fd [x] sp)
    (hX : ∀ (w : World) (H : Hp) (s : Shared) (e : Value) (s' : Shared), C w [] H s (fun _ _ _ => False) e s' → False) :
    PySem.W.WalkO q loose XP YP l.row.toRowW d [] (fun f vs => PySem.call f vs) := by
  refine Att.attach_callB hn hdf fun w t0 t1 mg mb fa o pm cd doc a vs ns G Y ho hd hcd hmg hob hin hle hbi hgn => ?_
  obtain ⟨K, fd, cs, sp, KX, h1, h2, h3, hb, hsp, hF⟩ := F w mg fa _ Y G.T.g hmg
  exact lawCallG KX G.T.g G.T.b G.T.builtins G.T.nolimit hgn h1 h2 h3 G.T.bmain hob hin (Nat.le_trans hle hn2) hR hF hb (fun H hH hS => hsp H a ns hle hH hS) fun H e s' => hX w H t1 e s'
end Z

namespace Z
open PySem PySem.Spec PyProof.Rows L2
/-! ### an exception that is caught and kept -/
/-- a caught exception of the class cls at a -/
def ExV (cls : Value) (d : Option Addr) (a : Addr) : HO := .ext fun h => ∃ (oe : Obj) (vs : Array Value), h.get? a = some oe ∧ Zc cls d oe ∧ oe.data = .fields vs
section
variable {X : Cx} {pins : List (Addr × Obj)} {σ : L2.St} {H : Hp} {s : Shared}
/-- an object of ours that nothing knows may be tracked -/
theorem track {a : Addr} {o : HO} {oe : Obj} (I : Inv X pins σ H s) (e : s.heap.get? a = some oe) (hc : ∀ v, oe.data ≠ .cell v) (n0 : X.s_0.heap.get? a = none) (hn : H a = none) (nL : a ≠ X.env.locals) (hp : ∀ p ∈ X.pn ++ pins, p.1 ≠ a) (new : ObjOk X.prog X.w (upd H a o) s.heap a o) : Inv X pins σ (upd H a o) s := by
  have ne0 : ∀ b u, X.s_0.heap.get? b = some u → b ≠ a := fun b u q z => by rw [z, n0] at q; cases q
  have neH : ∀ b u, H b = some u → b ≠ a := fun b u q z => by rw [z, hn] at q; cases q
  refine ⟨I.ok, I.os, I.bare, ⟨I.base.keep, I.base.slot, fun b u q n hx => ?_, I.base.there, fun b xs q => ?_, fun b u w q => ?_, fun b ps q => ?_⟩, I.loc, I.cell, ?_, fun x c q => ?_, fun p hq => ?_, fun b u q => ?_, I.len⟩
  · rw [upd_ne (ne0 b u q)]; exact I.base.free b u q n hx
  · have z := I.base.tups b xs q
    rw [upd_ne (neH _ _ z)]; exact z
  · have z := I.base.frzs b u w q
    rw [upd_ne (neH _ _ z)]; exact z
  · obtain ⟨more, z⟩ := I.base.tbls b ps q
    exact ⟨more, by rw [upd_ne (neH _ _ z)]; exact z⟩
  · rw [upd_ne nL.symm]; exact I.free
  · have nc : c ≠ a := fun z => by
      obtain ⟨v, oc, e1, e2⟩ := I.cell x c q
      rw [z, e] at e1; cases e1
      exact hc v e2
    rw [upd_ne nc]; exact I.freeC x c q
  · obtain ⟨e1, e2, e3, e4, e5⟩ := I.pin p hq
    exact ⟨e1, by rw [upd_ne (hp p hq)]; exact e2, e3, e4, e5⟩
  · by_cases hb : b = a
    · subst hb; rw [upd_same] at q; cases q; exact new
    · rw [upd_ne hb] at q
      refine (I.hok b u q).stay (fun c v _ z => z) (fun c z => ?_) fun c xs z => ?_
      · rw [upd_ne (neH _ _ z)]; exact z
      · rw [upd_ne (neH _ _ z)]; exact z
end
/-- what 'except x as n' wishes of the body's exception: it is kept behind the suite -/
def wAsK (K : PySem.W.Frag) (c : Value) (i : Nat) (ts : Addr → Value → Option Addr → TS) (Wout : WX) (D : Ends) : WX := fun cls d σ H =>
  ∃ b, PySem.W.exmOne K cls c = some b ∧ (b = true → ∀ a, H a = none → ts a cls d { nx := fun σ' H' => H' = H ∧ D.nx (σ'.set i none) (upd H a (ExV cls d a)), rt := fun _ _ => False } (σ.set i (some (.ref a))) H) ∧ (b = false → Wout cls d σ H)
section
variable {X : Cx} {x n : Str} {c : Value} {i : Nat} {body suite : List Stmt} {b₀ : Stmt} {np pos pos' : Pos} {tb : WX → TS} {ts : Addr → Value → Option Addr → TS} {Wout : WX}
theorem ps_try_asK (hx0 : X.ex = []) (hs : X.stack = X.env :: X.outer) (hf : X.env.frame = some X.env.locals) (hN : X.N.Nodup) (hi : X.N[i]? = some n) (hln : X.env.kindOf n = some .local) (hc : Names X x c) (tk : Takes X Wout)
    (hb : ∀ (W : WX) (pn : List (Addr × Obj)) (xe : Value → Shared → Prop), Takes (X.tr pn xe) W → PassesOwn (model X.prog X.w) X.A X.env xe → PSs (X.tr pn xe) body (tb W))
    (hsu : ∀ (a : Addr) (oe : Obj) (cls : Value) (d : Option Addr) (pn : List (Addr × Obj)), Zc cls d oe → (∃ vs, oe.data = .fields vs) → PSs (X.suite a ((a, oe) :: pn)) (b₀ :: suite) (ts a cls d)) :
    PS X (.Try body [.ExceptHandler (some (.Name x np)) (some n) (b₀ :: suite) pos'] [] [] pos) (fun D σ H => tb (wAsK X.K c i ts Wout D) D σ H) := by
  refine ⟨fun pins s σ H D I h => ?_⟩
  have ok := I.ok
  have fr : X.A.frames = some (X.env :: X.outer) := by rw [ok.frames, hs]
  refine wpAny_Try_except ?_
  refine wpAny_mono ((hb (wAsK X.K c i ts Wout D) (X.pn ++ pins) (fun e s₁ => wpAny (model X.prog X.w) X.A (noteFrame e X.env) (fun _ s₂ => wpAny (model X.prog X.w) X.A (setFlight e none) (fun _ s₃ =>
    wpAny (model X.prog X.w) X.A (handleBy e X.env [.ExceptHandler (some (.Name x np)) (some n) (b₀ :: suite) pos']) (SP X pins D) X.xe s₃) X.xe s₂) X.xe s₁) (fun u s' y => ?_) PassesOwn.looking).run [] s σ H D (I.toTry _) h) (fun f s1 q => ?_) (fun e s1 he => he)
  · obtain ⟨a, B, sI, pins', σ1, H1, cls, d, rfl, J0, nb, up, sky, na, os, ag, b, hb1, hyes, hno⟩ := y
    have J : Inv X pins σ1 H1 sI := J0.ofTry ok
    have sky1 : Sky B (X.env :: X.outer) a (Zc cls d) X.env.locals s'.heap := by rw [← hs]; exact sky
    show wpAny (model X.prog X.w) X.A (noteFrame (.ref a) X.env) _ _ _
    refine Sky.land Zc.steady fr hf sky1 fun h3 fl3 up3 => ?_
    have J3 : Inv X pins σ1 H1 { s' with heap := h3 } := J.landed nb fl3.1 (up.trans up3) os ag
    obtain ⟨o3, v3, e3, z3, d3⟩ := fl3.there
    have nfr : a ∉ frs (X.env :: X.outer) := by
      intro hm
      obtain ⟨_, o1, q1, hnf⟩ := fl3.2.2.1.mem hm
      rw [e3] at q1; cases q1
      exact hnf _ d3
    have nL : a ≠ X.env.locals := fun z => nfr (List.mem_filterMap.mpr ⟨X.env, List.mem_cons_self, by rw [hf, z]⟩)
    have nF : a ∉ X.fs := fun hm => by
      obtain ⟨e, he, q⟩ := List.mem_filterMap.mp hm
      exact nfr (List.mem_filterMap.mpr ⟨e, List.mem_cons_of_mem _ he, q⟩)
    have Ba : B.get? a = none := fl3.2.1
    have nI : sI.heap.get? a = none := by
      cases q : sI.heap.get? a with
      | none => rfl
      | some o =>
        have := nb a o q (by rw [hs]; exact nfr)
        rw [Ba] at this; cases this
    have n0 : X.s_0.heap.get? a = none := by
      cases q : X.s_0.heap.get? a with
      | none => rfl
      | some o =>
        obtain ⟨o1, q1⟩ := J.base.there a o q (by rw [hx0]; exact fun z => nomatch z)
        rw [nI] at q1; cases q1
    have S3 := J3.suite e3 d3 na nL nF
    refine wpAny_handleBy_cons (codeAny_handlers_test ?_) (by intro q; cases q)
    have LT : PySem.W.Looks (model X.prog X.w) h3 (typeOf (.ref a)) cls := fun A Q E s k q => wpAny_typeOf_ref (k _ _ e3) (by rw [z3.1]; exact q)
    have LM := PySem.W.exm_one (M := model X.prog X.w) (J3.kIn) LT hb1
    have tst : ∀ {Q : Value → Shared → Prop} {E : Value → Shared → Prop}, Q c { s' with heap := h3 } → wpAny (model X.prog X.w) (X.A.mark (some (.ref a))) (eval (.Name x np) X.env) Q E { s' with heap := h3 } := by
      intro Q E q
      obtain ⟨hg, hdb, hm | ⟨hm, hv, hnn⟩⟩ := hc
      · exact ld_glob (X := X.suite a ((a, o3) :: (X.pn ++ pins))) S3 hg hm q hdb
      · exact ld_blt (X := X.suite a ((a, o3) :: (X.pn ++ pins))) S3 hg hm hv q hnn hdb
    refine tst (LM.here ?_)
    cases b with
    | true =>
      refine codeAny_handlers_suite_as ?_
      refine HandSPX.lands_againZ fl3 fun h4 fl4 up4 => ?_
      have J4 : Inv X pins σ1 H1 { s' with heap := h4 } := J.landed nb fl4.1 ((up.trans up3).trans up4) os ag
      obtain ⟨o4, v4, e4, z4, d4⟩ := fl4.there
      have S4 := J4.suite e4 d4 na nL nF
      refine store_ok (X := X.suite a ((a, o4) :: (X.pn ++ pins))) (v := .ref a) S4 hN hi (.inl hln) rfl (fun s5 S5 => ?_) (.inr hln)
      refine wpAny_mono ((hsu a o4 cls d (X.pn ++ pins) z4 ⟨_, d4⟩).run [] s5 _ H1 _ S5 (hyes rfl a na)) (fun f s6 q => ?_) (fun _ _ z => False.elim z)
      cases f with
      | next =>
        obtain ⟨σ6, H6, S6, eH, q6⟩ := q
        subst eH
        have P6 := S6.pin (a, o4) (List.mem_append_left _ List.mem_cons_self)
        have J6 : Inv X pins σ6 H6 s6 := S6.unsuite ok
        have K6 : Inv X ((a, o4) :: pins) σ6 H6 s6 := ⟨J6.ok, J6.os, J6.bare, J6.base, J6.loc, J6.cell, J6.free, J6.freeC, fun p hp => by
          rcases List.mem_append.mp hp with z | z
          · exact J6.pin p (List.mem_append_left _ z)
          · rcases List.mem_cons.mp z with z | z
            · rw [z]; exact P6
            · exact J6.pin p (List.mem_append_right _ z), J6.hok, J6.len⟩
        show wpAny (model X.prog X.w) X.A (do bindName X.env n .none; unbindBehindTheSuite X.env n pos') _ X.xe s6
        refine gone_ok K6 hN hi hln fun s7 K7 => ?_
        have P7 := K7.pin (a, o4) (List.mem_append_right _ List.mem_cons_self)
        have J7 : Inv X pins (σ6.set i none) H6 s7 := K7.pins_of fun p hp => K7.pin p (List.mem_append_right _ (List.mem_cons_of_mem _ hp))
        have new : ObjOk X.prog X.w (upd H6 a (ExV cls d a)) s7.heap a (ExV cls d a) := ⟨⟨o4, v4, P7.1, z4, d4⟩, ⟨o4, P7.1⟩, fun _ _ ⟨o, v, q, r⟩ k => ⟨o, v, k o q, r⟩⟩
        refine ⟨_, upd H6 a (ExV cls d a), track J7 P7.1 P7.2.2.2.2 n0 na nL (fun p hp z => ?_) new, q6⟩
        have := (J.pin p hp).1
        rw [z, nI] at this; cases this
      | brk => obtain ⟨σ6, H6, S6, q6⟩ := q; exact q6.elim
      | cont => obtain ⟨σ6, H6, S6, q6⟩ := q; exact q6.elim
      | ret u => obtain ⟨v6, σ6, H6, S6, r6, q6⟩ := q; exact q6.elim
    | false =>
      show wpAny _ X.A (handleBy (.ref a) X.env []) _ _ _
      refine wpAny_handleBy_nil ?_
      obtain ⟨k1, k2, k3, oe, vs, T, oT, ts', he, hz, hd, h1, hr⟩ := id fl3
      unfold PySem.passOn
      refine wpAny_bind (wpAny_field he hd h1 ?_)
      rw [if_neg (show ¬ ((Value.ref T == Value.none) = true) from by simp)]
      have fin : wpAny (model X.prog X.w) X.A (setFlight (.ref a) X.env.frame) (fun _ s4 => wpAny (model X.prog X.w) X.A (throw (.ref a) : Sem Flow) (SP X pins D) X.xe s4) X.xe { s' with heap := h3 } := by
        rw [hf]
        refine HandSPX.setFlight_upZ fl3 fun h4 hh4 up4 => wpAny_throw (tk _ _ ?_)
        exact ⟨a, B, sI, pins, σ1, H1, cls, d, rfl, J, nb, (up.trans up3).trans up4, .inr (.inr (by rw [hs]; exact hh4)), na, os, ag, hno rfl⟩
      first
        | exact wpAny_bind (wpAny_pure (wpAny_bind fin))
        | exact wpAny_bind fin
  · cases f with
    | next =>
      obtain ⟨σ1, H1, J1, q⟩ := q
      exact wpAny_execs_nil ⟨σ1, H1, J1.ofTry ok, q⟩
    | brk =>
      obtain ⟨σ1, H1, J1, q⟩ := q
      exact ⟨σ1, H1, J1.ofTry ok, q⟩
    | cont =>
      obtain ⟨σ1, H1, J1, q⟩ := q
      exact ⟨σ1, H1, J1.ofTry ok, q⟩
    | ret u =>
      obtain ⟨v, σ1, H1, J1, r, q⟩ := q
      exact ⟨v, σ1, H1, J1.ofTry ok, r, q⟩
end
end Z

namespace Z
open PySem PySem.Spec PyProof.Rows L2 LamX
/-! ### isinstance of a caught exception -/
def rIsX (K : PySem.W.Frag) : List V → Hp → VK → Prop := fun xs H Q => ∃ (a D : Addr) (c : V) (cv : Value) (b : Bool), xs = [.ref a, c] ∧ H a = some (ExV (.ref D) none a) ∧ ExcC K D ∧ (∀ u, RelV c u → u = cv) ∧ PySem.W.kitOne K (.ref D) cv = some b ∧ Q (.bl b) H
theorem call_isX {X : Cx} : CallR X (.builtin "isinstance") (rIsX X.K) := by
  intro pins s σ H xs us Q I r h
  obtain ⟨a, D, c, cv, b, rfl, ha, C, hcv, e, q⟩ := h
  obtain ⟨u1, u2, rfl, r1, r2⟩ := vals2 r
  obtain rfl : u1 = Value.ref a := r1
  obtain rfl := hcv _ r2
  obtain ⟨⟨oe, vs, hget, hz, hv⟩, _⟩ := I.hok a _ ha
  have J : PySem.W.InstAt s.heap a oe D none := by
    obtain ⟨oc, od, oda, osl⟩ := oe
    obtain ⟨h1, h2⟩ := hz
    dsimp only at h1 h2 hv
    subst h1 h2 hv
    exact ⟨hget, rfl, rfl, trivial⟩
  exact PySem.W.kia_one (PySem.W.handS_kitx_exc C.hg C.hk C.hs C.hd C.ha C.hn C.ht C.hm) I.kIn J e (fun z => nomatch z) fun tk => ⟨.bl b, H, I.kept (t' := tk) fun _ _ z => z, rfl, q⟩
/-- isinstance of anything -/
def rIsA (K : PySem.W.Frag) : List V → Hp → VK → Prop := fun xs H Q => rIsi K xs H Q ∨ rIsX K xs H Q
theorem call_isA {X : Cx} : CallR X (.builtin "isinstance") (rIsA X.K) := by
  intro pins s σ H xs us Q I r h
  rcases h with h | h
  · exact call_isi pins s σ H xs us Q I r h
  · exact call_isX pins s σ H xs us Q I r h
/-! ### x(lambda: ..), x catches -/
/-- found = None / try: job() / except e as n: found = n / return found -/
def TCaught (K : PySem.W.Frag) (CS : Addr) : (XK → Hp → VK → Prop) → Hp → VK → Prop := fun tl H Q => ∀ Q' : VK, (∀ v H', Q .non H' → Q' v H') →
  tl (fun cls d H' => ∃ b, PySem.W.exmOne K cls (.ref CS) = some b ∧ (b = true → ∀ a, H' a = none → Q (.ref a) (upd H' a (ExV cls d a))) ∧ (b = false → False)) H Q'
section
variable {X : Cx}
theorem caught_gives {x a y n e q : Str} {sg : Scope} {g CS : Addr} {cdg : Value} {j : Nat} {p0 p1 p2 p3 p4 p5 p6 p7 p8 p9 p10 p11 p12 p13 : Pos} (hge : sg.names.lookup e = some .globalImplicit) (hme : X.mg e = some (.ref CS)) (hde : (e == ("__debug__" : Str)) = false)
    (hya : [a, y, n].Nodup) (hy : sg.names.lookup y = some .local) (hn : sg.names.lookup n = some .local) (hdy : (y == ("__debug__" : Str)) = false) (hcy : (y == ("__classdict__" : Str)) = false) (hdn : (n == ("__debug__" : Str)) = false) (hcn : (n == ("__classdict__" : Str)) = false) :
    GivesTo X [a, y, n] x sg g cdg [.Assign [.Name y p0] (.Constant .none j p9) p10, .Try [.Expr (.Call (.Name a p1) [] [] p2) p3] [.ExceptHandler (some (.Name e p4)) (some n) [.Assign [.Name y p5] (.Name n p6) p7] p8] [] [] p11, .Return (some (.Name y p12)) p13] a q (TCaught X.K CS) := by
  intro f c' s H Q tl act hc h
  have hgl : Gl (cxOf C8.CX0 X.prog X.w X.K X.mg X.base [a, y, n] x sg g cdg X.A X.stack s H C8.E0).nox e := hge
  refine ⟨_, pss_cons (ps_set (i := 1) hya rfl (.inl hy) pe_non) (pss_cons (ps_try_asK (X := (cxOf C8.CX0 X.prog X.w X.K X.mg X.base [a, y, n] x sg g cdg X.A X.stack s H C8.E0).nox) (c := .ref CS) (i := 2) (n := n)
      (tb := fun W D σ H => ∃ Ech : XK, (∀ cls d σ1 H1, σ1.length = 3 → Ech cls d H1 → W cls d σ1 H1) ∧ σ[0]? = some (some (.ref f)) ∧ H c' = some (CodeO c' q) ∧ tl Ech H fun _ H1 => D.nx σ H1)
      rfl rfl rfl hya rfl hn ⟨hgl, hde, .inl hme⟩ LamX.takes0 (fun W pn xe tk _ => ?_) (fun a oe cls d pn _ _ => pss_one (ps_set (i := 1) hya rfl (.inl hy) (pe_var (i := 2) rfl (.inl hn) hdn hcn)))) (pss_one (ps_ret (pe_var (i := 1) rfl (.inl hy) hdy hcy)))), ?_⟩
  · refine ⟨fun pins s1 σ H1 D I hD => ?_⟩
    obtain ⟨Ech, hW, h1, h2, h3⟩ := hD
    have tk' : Takes ((cxOf C8.CX0 X.prog X.w X.K X.mg X.base [a, y, n] x sg g cdg X.A X.stack s H C8.E0).tr pn xe) (fun cls d σ1 H1 => σ1.length = 3 → W cls d σ1 H1) := fun u s2 ⟨b, B, sI, pi, σ2, H2, cls, d, e1, I2, nb, up, sky, na, os, ag, w⟩ =>
      tk u s2 ⟨b, B, sI, pi, σ2, H2, cls, d, e1, I2, nb, up, sky, na, os, ag, w I2.len⟩
    have hp := act (fun cls d σ1 H1 => σ1.length = 3 → W cls d σ1 H1) pn xe Ech p1 p2 tk' fun cls d σ1 H1 hE hl => hW cls d σ1 H1 hl hE
    have hq := pss_one (ps_expr (pos := p3) hp)
    exact hq.run pins s1 σ H1 D I ⟨h1, h2, h3⟩
  · refine ⟨_, ?_, rfl, hc, h _ fun v H1 hq => ⟨.non, rfl, hq⟩⟩
    rintro cls d σ1 H1 hl ⟨b, e1, e2, e3⟩
    refine ⟨b, e1, fun hb a' ha' => ?_, fun hb => (e3 hb).elim⟩
    match σ1, hl with
    | [v0, v1, v2], _ => exact ⟨_, rfl, rfl, _, rfl, e2 hb a' ha'⟩
end
end Z

namespace Z
open PySem PySem.Spec PyProof.Rows L2
/-! ### text[::-1] -/
def revT (z : Str) : Str := ⟨z.cps.toList.reverse.toArray⟩
def tRevS (te : TE) : TE := fun σ H Q => te σ H fun x H1 => ∃ z, x = .str z ∧ z.length ≤ sizeLine ∧ Q (.str (revT z)) H1
theorem rev_ix (z : Str) : ((Builtin.Str.strSliceIndices none none (-1) z.length).filterMap (z.cps[·]?)).toArray = z.cps.toList.reverse.toArray := by
  have e : Builtin.Str.strSliceIndices none none (-1) z.length = sliceRange ((z.cps.size : Int) - 1) (-1) (-1) := rfl
  rw [e, PySem.W.krv_sliceRange, PySem.W.krv_range, List.filterMap_reverse, PySem.W.krv_all]
theorem pe_revS {X : Cx} {e : Expr} {te : TE} {k : Nat} {p1 p2 p3 pos : Pos} (he : PE X e te) : PE X (.Subscript e (.Slice none none (some (.UnaryOp .USub (.Constant (.int 1) k p1) p2)) p3) pos) (tRevS te) := by
  refine ⟨fun pins s σ H Q I h => ?_⟩
  refine Subscript_ (thn (he.run pins s σ H _ I h) fun v s1 ⟨x, H1, I1, r1, q1⟩ => ?_)
  obtain ⟨z, ex, hz, q⟩ := q1
  subst ex
  obtain ⟨t, rfl⟩ := r1
  have st : PO X (some (.UnaryOp .USub (.Constant (.int 1) k p1) p2)) (tPart (tUn (rU fun i => .int (-i)) (tC (.int 1)))) := po_some (pe_un un_neg pe_int)
  refine wpAny_Slice (thn (po_none.run pins s1 σ H1 (fun o H2 => o = none ∧ H2 = H1) I1 ⟨rfl, rfl⟩) fun vl s2 ⟨l, H2, I2, pl, el, e2⟩ => ?_)
  subst el e2
  refine thn (po_none.run pins s2 σ H2 (fun o H3 => o = none ∧ H3 = H2) I2 ⟨rfl, rfl⟩) fun vu s3 ⟨u, H3, I3, pu, eu, e3⟩ => ?_
  subst eu e3
  refine thn (st.run pins s3 σ H3 (fun o H4 => o = some (-1) ∧ H4 = H3) I3 ⟨1, rfl, -1, rfl, rfl, rfl⟩) fun vs s4 ⟨o, H4, I4, ps, eo, e4⟩ => ?_
  subst eo e4
  have I5 : Inv X pins σ H4 { s4 with heap := s4.heap.push { cls := .type "slice", data := .fields #[vl, vu, vs] } } := I4.kept (t' := s4.toks) fun b ob q => Heap.get?_push_of_some _ q
  show wpAny (model X.prog X.w) X.A (subscriptTail e (.Slice none none (some (.UnaryOp .USub (.Constant (.int 1) k p1) p2)) p3) (.str z t) (.ref s4.heap.objs.size)) (EP X pins σ Q) X.xe { s4 with heap := s4.heap.push { cls := .type "slice", data := .fields #[vl, vu, vs] } }
  refine tail_any (ops := [.ref s4.heap.objs.size, .str z t]) (typeIs_str _ _ _) (F.slot_str_getitem.lookup) ?_ (by with_unfolding_all rfl)
  obtain ⟨l1, rfl, h1⟩ := IsPart.raw pl
  obtain ⟨u1, rfl, h2⟩ := IsPart.raw pu
  obtain ⟨c1, rfl, h3⟩ := IsPart.raw ps
  refine wpAny_getItem_str_slice (l := l1) (u := u1) (st := c1) ⟨_, Heap.get?_push_size _ rfl, rfl, rfl⟩ (by rw [h3]; rfl) ?_
  have hmk : sliceMade z t l1 u1 c1 = Made.str ⟨z.cps.toList.reverse.toArray⟩ := by
    rw [← rev_ix]
    unfold sliceMade slicePicked
    rw [h1, h2, h3]
    rfl
  rw [hmk]
  refine ⟨?_, .str (revT z), H4, I5.tok _, ⟨_, rfl⟩, q⟩
  show z.cps.toList.reverse.toArray.size ≤ sizeLine
  have : z.cps.toList.reverse.toArray.size = z.length := by simp; rfl
  rw [this]; exact hz
theorem revT_S (l : List Nat) : revT (S l) = S l.reverse := by
  unfold revT
  rw [S_cps]; rfl
section
variable {K : PySem.W.Frag} {σ : L2.St} {G : Hp} {te : TE}
theorem ev_revS {l : W} (h : Ev K te σ G (dS l)) (hz : l.length ≤ 1000000) : Ev K (tRevS te) σ G (dS l.reverse) := fun G1 H1 le i Q q => h G1 H1 le i _ fun v G2 H2 u2 p2 => by
  refine ⟨S l, rp_str p2, by rw [S_len]; exact Nat.le_trans hz (by decide), ?_⟩
  rw [revT_S]
  exact q _ G2 H2 u2 (.str _)
end
end Z

namespace Z
open PySem PySem.Spec PyProof.Rows L2
/-! ### lambda at: text[at:], as a key -/
section
variable {prog : Program} {w : World} {A : Around} {E : Value → Shared → Prop} {s : Shared}
/-- a text's slice by its makings -/
theorem made_from {z : Str} {t u : Tok} {i : Int} {Q : Value → Shared → Prop} (hz : z.length ≤ sizeLine) (q1 : ∀ t', Q (.str (cutS z (some i) none) t') s) (q2 : Q (.str (cutS z (some i) none) s.toks) { s with toks := s.toks + 1 }) : (sliceMade z t (some (i, u)) none none).post Q s := by
  have e := sliceText_cut z (some i) none
  have hl : (PySem.StrLaws.sliceText z (some i) none).length ≤ sizeLine := by
    rw [e]; exact Nat.le_trans (cutS_length z _ _) hz
  rw [← e] at q1 q2
  unfold PySem.StrLaws.sliceText at q1 q2 hl
  show Made.post (if ((1 : Int) == 1 && (Builtin.Str.strSliceIndices (some i) none 1 z.length).length == z.length) = true then Made.val (.str z t)
    else Made.str ⟨((Builtin.Str.strSliceIndices (some i) none 1 z.length).filterMap (z.cps[·]?)).toArray⟩) Q s
  by_cases c : ((1 : Int) == 1 && (Builtin.Str.strSliceIndices (some i) none 1 z.length).length == z.length) = true
  · rw [if_pos c] at q1 ⊢
    exact q1 t
  · rw [if_neg c] at q2 hl ⊢
    exact ⟨hl, q2⟩
theorem lam_from {f c' cw : Addr} {q x y : Str} {params : Arguments} {scope : Scope} {clos : List (Str × Addr)} {pm ctv : Value} {z : Str} {t0 u0 : Tok} {i : Int} {p1 p2 p3 p4 : Pos}
    (hroom : A.depth < recursionLimit) (lim : s.heap.NoLimit) (ho : s.heap.get? f = some (PySem.W.kla_obj "<lambda>" q params (.Subscript (.Name x p1) (.Slice (some (.Name y p2)) none none p3) p4) scope clos pm c' ctv))
    (hcd : s.heap.CodeRec (.ref c') q) (hk : scope.kind = .function) (hco : scope.isCoroutine = false) (hgen : scope.isGenerator = false) (hcell : ∀ n ∈ scope.names, n.2 ≠ .cell) (hx : scope.names.lookup x = some .free) (hy : scope.names.lookup y = some .local)
    (hcl : clos.lookup x = some cw) (hcv : s.heap.IsCell cw (some (.str z t0))) (hz : z.length ≤ sizeLine)
    (hbind : bindArgs (PySem.W.kla_fn "<lambda>" q params (.Subscript (.Name x p1) (.Slice (some (.Name y p2)) none none p3) p4) scope clos pm (.ref c') ctv) ⟨[.int i u0], []⟩ = pure [(y, .int i u0)])
    (hdx : (x == ("__debug__" : Str)) = false) (hcx : (x == ("__classdict__" : Str)) = false) (hdy : (y == ("__debug__" : Str)) = false) :
    wpAny (model prog w) A (call (.ref f) [.int i u0]) (PySem.W.KeyPure (.str (cutS z (some i) none)) s) E s := by
  refine wpAny_call ?_
  refine PySem.W.kla_callFunE hroom ho rfl hco hgen rfl hcd ?_
  rw [hbind]
  refine wpAny_pure (wpAny_newFunctionEnv hcell (fun n hn => ?_) (fun h1 hns hsb => ⟨lim.fresh _ hsb, ?_⟩) hk)
  · rw [List.mem_singleton.mp hn]; exact hy
  have kp : ∀ b o, s.heap.get? b = some o → h1.get? b = some o := fun b o e => hsb.extBut b o (Nat.ne_of_lt (Heap.lt_size e)) (Heap.get?_push_of_some _ e)
  refine PySem.W.kla_codeExpr ?_
  refine wpAny_Subscript_str_slice ?_ ?_
  · refine wpAny_Name (wpAny_loadName_free (v := .str z t0) hk hx hcl ?_ ?_ hcx) hdx
    · obtain ⟨o, e, d⟩ := hcv
      exact ⟨o, kp _ _ e, d⟩
    · rw [evalPart_some]
      refine wpAny_Name (wpAny_loadName_local (v := .int i u0) hk hy hns ?_ ?_) hdy
      · simp
      · rw [evalPart_none]
        refine wpAny_pure ⟨z, t0, some (i, u0), none, rfl, rfl, rfl, made_from hz (fun t' => ?_) ?_⟩
        · exact ⟨_, _, rfl, fun b o e => Heap.get?_push_of_some _ (kp b o e), .str _ _⟩
        · exact ⟨_, _, rfl, fun b o e => Heap.get?_push_of_some _ (kp b o e), .str _ _⟩
  · intro o r
    rfl
end
end Z

namespace Z
open PySem PySem.Spec PyProof.Rows L2 PySem.W
/-! ### sorted(range(n), key=f) -/
def isI (v : Value) (x : Int) : Prop := ∃ t, v = .int x t
theorem each_of {acc : List Value} {n : Nat} (hl : acc.length = n) (h : ∀ (i : Nat) v, acc[i]? = some v → isI v (i : Int)) : EachIs isI acc ((List.range n).map fun (i : Nat) => (i : Int)) := by
  have go : ∀ (acc : List Value) (m : Nat), (∀ (i : Nat) v, acc[i]? = some v → isI v ((m + i : Nat) : Int)) → EachIs isI acc ((List.range acc.length).map fun (i : Nat) => ((m + i : Nat) : Int)) := by
    intro acc
    induction acc with
    | nil => intro m _; exact .nil
    | cons a r ih =>
      intro m h
      rw [List.length_cons, List.range_succ_eq_map, List.map_cons, List.map_map]
      refine .cons (h 0 a rfl) ?_
      have := ih (m + 1) fun i v e => by
        have := h (i + 1) v e
        have e2 : m + (i + 1) = m + 1 + i := by omega
        rw [e2] at this; exact this
      have e3 : ((fun (i : Nat) => ((m + i : Nat) : Int)) ∘ Nat.succ) = fun (i : Nat) => ((m + 1 + i : Nat) : Int) := by
        funext i
        have : m + Nat.succ i = m + 1 + i := by omega
        simp only [Function.comp, this]
      rw [e3]; exact this
  subst hl
  have := go acc 0 fun i v e => by rw [Nat.zero_add]; exact h i v e
  simpa using this
section
variable {prog : Program} {w : World} {A : Around} {E : Value → Shared → Prop} {s : Shared} {r : Addr} {t u v : Tok} {n : Nat}
theorem sorted_range_key {f : Addr} {Q : Value → Shared → Prop} (k : Int → PyData) (hh : A.handled = none) (hr : IsRange s.heap r 0 (n : Int) 1 t u v) (hn : n ≤ 1000000)
    (hal : AllAlike (((List.range n).map fun (i : Nat) => (i : Int)).map k)) (hk : Sortable (((List.range n).map fun (i : Nat) => (i : Int)).map k)) (hu : ∀ x, A.units + 2 + (k x).depth < cLine)
    (turn : ∀ (i : Int) (t : Tok), 0 ≤ i → i < n → ∀ (h : Heap) (tk : Nat), (∀ b o, s.heap.get? b = some o → h.get? b = some o) →
      wpAny (model prog w) A.in1.in1 (call (.ref f) [.int i t]) (KeyPure (k i) { s with heap := h, toks := tk }) (fun _ _ => False) { s with heap := h, toks := tk })
    (hq : ∀ (D : Addr) out c h' tk, (∀ b o, s.heap.get? b = some o → h'.get? b = some o) → s.heap.get? D = none → h'.get? D = some (seqObj "list" (List.toArray out) c) → EachIs isI out (((List.range n).map fun (i : Nat) => (i : Int)).mergeSort (dataLe false k)) →
      Q (.ref D) { s with heap := h', toks := tk }) :
    wpAny (model prog w) A (call (.builtin "sorted") [.ref r] [(Str.ofString "key", .ref f)]) Q E s := by
  refine call_function_entry_kw kind_sorted plain_sorted entry_sorted (ksk_s1 _ _) ?_
  unfold Builtin.«sorted»
  refine wpAny_bind (m := checkCount "sorted" 1 1 _) (wpAny_pure ?_)
  refine wpAny_bind (collect_range (A := A.in1) hh hr ?_ (n := n) ?_ (by omega) fun h1 tk1 acc kp hi => ?_)
  · exact small_one (by omega) (by omega) (by omega) (by omega)
  · have e := rangeSize_nat 0 (n : Int)
    rw [e]; omega
  have hacc : acc.toList.length = n := by rw [Array.length_toList]; exact hi.1
  refine wpAny_bind (wpAny_newList ?_ (by rw [hacc]; exact Nat.le_trans hn (by decide)))
  have hE : EachIs isI acc.toList ((List.range n).map fun (i : Nat) => (i : Int)) := each_of hacc fun i v e => by
    obtain ⟨t, rfl⟩ := hi.2 i v (by rw [← e, Array.getElem?_toList])
    exact ⟨t, by rw [Int.mul_one, Int.zero_add]⟩
  have hlen : ((List.range n).map fun (i : Nat) => (i : Int)).length = n := by simp
  have kp2 : ∀ b o, s.heap.get? b = some o → (h1.push { cls := .type "list", data := .seq acc.toList.toArray }).get? b = some o := fun b o e => Heap.get?_push_of_some _ (kp b o e)
  have nD : ∀ b o, s.heap.get? b = some o → b ≠ h1.objs.size := fun b o e => Nat.ne_of_lt (Heap.lt_size (kp b o e))
  have up : ∀ {g : Heap}, KeepsBut h1.objs.size (h1.push { cls := .type "list", data := .seq acc.toList.toArray }) g → ∀ b o, s.heap.get? b = some o → g.get? b = some o := fun {g} q b o e => q b o (nD b o e) (kp2 b o e)
  have hsz : s.heap.get? h1.objs.size = none := by
    cases q : s.heap.get? h1.objs.size with
    | none => rfl
    | some o => exact absurd (Heap.lt_size (kp _ _ q)) (Nat.lt_irrefl _)
  refine wpAny_bind (wpAny_holding (list_sort_key_data (A := A.in1) (R := isI) (vs := acc.toList) (bs := (List.range n).map fun (i : Nat) => (i : Int)) (b := false) (f := .ref f) (n := 0) k (Heap.get?_push_size _ rfl) hE hal hk (by rw [hlen]; exact Nat.le_trans hn (by decide)) (fun x _ => hu x) (ksk_l1 _ _) (ksk_t1 _ _) (fun v x hv hx h tk q => ?_) fun out c h2 tk2 q hD hl he => ?_))
  · obtain ⟨t, rfl⟩ := hv
    obtain ⟨i, hi1, rfl⟩ := List.mem_map.mp hx
    have := List.mem_range.mp hi1
    exact turn _ t (by omega) (by omega) h tk (up q)
  · exact wpAny_pure ⟨_, rfl, hq _ out c h2 tk2 (up q) hsz hD he⟩
end
/-! ### the rule: sorted(range(e), key=lambda y: x[y:]) -/
def sortFrom (z : Str) (n : Nat) : List Int := ((List.range n).map fun (i : Nat) => (i : Int)).mergeSort (dataLe false fun i => .str (cutS z (some i) none))
def tSortFrom (T : List (Addr × Str)) (j : Nat) (tn : TE) : TE := fun σ H Q => tn σ H fun x H1 => ∃ (n : Nat) (z : Str), x = .int (n : Int) ∧ σ[j]? = some (some (.str z)) ∧ n ≤ 1000000 ∧ z.length ≤ 1000000 ∧ LamX.Tabs T H1 ∧
  ∀ H2, LamX.ExtN H1 H2 → LamX.Tabs T H2 → ∀ p, H2 p = none → Q (.ref p) (upd H2 p (.lst ((sortFrom z n).map .int)))
theorem vals_each : ∀ {out : List Value} {ns : List Int}, EachIs isI out ns → Vals (ns.map V.int) out
  | _, _, .nil => .nil
  | _, _, .cons ⟨t, h⟩ a => .cons ⟨t, h⟩ (vals_each a)
theorem sortFrom_len (z : Str) (n : Nat) : (sortFrom z n).length = n := by
  unfold sortFrom
  rw [List.length_mergeSort]; simp
theorem pe_sortFrom {X : Cx} {T : List (Addr × Str)} {c P : Addr} {e : Expr} {tn : TE} {j : Nat} {x y : Str} {params : Arguments} {scope : Scope} {p p0 p1 p2 p3 p4 p5 p6 p7 kpos pos : Pos}
    (hg : Gl X "sorted") (hm : X.mg "sorted" = none) (hgr : Gl X "range") (hmr : X.mg "range" = none) (hc : X.calm = true) (hun : X.A.units + 10 < cLine) (hdp : X.A.depth < recursionLimit) (he : PE X e tn)
    (TB : LamX.TabB X.base X.mg c P) (hcode : X.env.code = .ref c) (hmT : (P, X.env.qual ++ "<lambda>") ∈ T) (hu : ∀ p ∈ T, p.1 = P → p.2 = X.env.qual ++ "<lambda>") (hdef : defaultsOf params X.env = ([], []))
    (hfr : ∀ n ∈ scope.names, n.2 = .free → X.env.scope.names.lookup n.1 = some .cell) (hN : X.N[j]? = some x) (hk : scope.kind = .function) (hco : scope.isCoroutine = false) (hgen : scope.isGenerator = false) (hcell : ∀ n ∈ scope.names, n.2 ≠ .cell)
    (hx : scope.names.lookup x = some .free) (hy : scope.names.lookup y = some .local) (hdx : (x == ("__debug__" : Str)) = false) (hcx : (x == ("__classdict__" : Str)) = false) (hdy : (y == ("__debug__" : Str)) = false)
    (hbind : ∀ (q : Str) (cl : List (Str × Addr)) (pm cv ctv : Value) (i : Int) (u0 : Tok), bindArgs (PySem.W.kla_fn "<lambda>" q params (.Subscript (.Name x p1) (.Slice (some (.Name y p2)) none none p3) p4) scope cl pm cv ctv) ⟨[.int i u0], []⟩ = pure [(y, .int i u0)])
    (na : starEach [.Call (.Name "range" p5) [e] [] p6] X.env = (false, eval (.Call (.Name "range" p5) [e] [] p6) X.env) :: starEach [] X.env := by rfl) (nb : starEach [e] X.env = (false, eval e X.env) :: starEach [] X.env := by rfl) :
    PE X (.Call (.Name "sorted" p) [.Call (.Name "range" p5) [e] [] p6] [⟨some "key", .Lambda params (.Subscript (.Name x p1) (.Slice (some (.Name y p2)) none none p3) p4) scope p7, kpos⟩] pos) (tSortFrom T j tn) := by
  refine ⟨fun pins s σ H Q I h => ?_⟩
  refine wpAny_Call_Name_kw (ld_blt (u := .builtin "sorted") I hg hm (by decide +kernel) ?_)
  refine PyProof.Rows.callWith_kw ?_ (by rfl) (by rfl) (by rfl) (by rfl)
  refine args_cons ?_ na
  refine Call_ (ld_blt (u := .type "range") I hgr hmr boot_range (PyProof.Rows.callWith_type1 (one_arg he I h (fun v s2 x2 H2 I2 r2 q2 => ?_) nb) nb))
  obtain ⟨n, z, rfl, hz, hn, hzl, hT, q⟩ := q2
  obtain ⟨t2, rfl⟩ := r2
  refine call_range_1 (args_nil ?_)
  -- the range is pinned while the lambda is made
  have I3 : L2.Inv X pins σ H2 { s2 with heap := s2.heap.push { cls := .type "range", data := .fields #[.int 0 s2.toks, .int (n : Int) t2, .int 1 (s2.toks + 1)] }, toks := s2.toks + 1 + 1 } := I2.kept fun b u e => Heap.get?_push_of_some _ e
  have I4 : L2.Inv X ((s2.heap.objs.size, { cls := .type "range", data := .fields #[.int 0 s2.toks, .int (n : Int) t2, .int 1 (s2.toks + 1)] }) :: pins) σ H2 { s2 with heap := s2.heap.push { cls := .type "range", data := .fields #[.int 0 s2.toks, .int (n : Int) t2, .int 1 (s2.toks + 1)] }, toks := s2.toks + 1 + 1 } := I3.pins_of fun p hp => by
    rcases List.mem_cons.mp hp with z | z
    · rw [z]
      exact ⟨Heap.get?_push_size _ rfl, I2.hok.fresh (Nat.le_refl _), Nat.ne_of_gt I2.lt, I2.nofs (Nat.le_refl _), fun v z => by cases z⟩
    · exact I3.pin p (List.mem_append_right _ z)
  have hfree : ∀ n ∈ scope.names, n.2 = .free → ∃ c, X.env.cells.lookup n.1 = some c := fun n hn e => I4.ok.has _ (.inl (hfr n hn e))
  show wpAny _ _ (evalAll ((do let v ← eval (.Lambda params (.Subscript (.Name x p1) (.Slice (some (.Name y p2)) none none p3) p4) scope p7) X.env; standAt pos; pure v) :: [])) _ _ _
  refine wpAny_evalAll_cons (wpAny_bind (LamX.lam_make2 I4 TB hcode hmT hu hT hdef hfree fun f c' pm ctv H5 s5 I5 eN T5 hf hfn hfs hcd => wpAny_bind (wpAny_standAt (wpAny_pure (wpAny_evalAll_nil ?_)))))
  show wpAny (model X.prog X.w) X.A (call (.builtin "sorted") [.ref s2.heap.objs.size] [(Str.ofString "key", .ref f)]) (EP X pins σ Q) X.xe s5
  have P5 := (I5.pin (s2.heap.objs.size, _) (List.mem_append_right _ List.mem_cons_self)).1
  obtain ⟨⟨oc, vs, tq, hoc, hdc, hvc⟩, _, _⟩ := I5.hok c' _ hcd
  -- the captured text
  obtain ⟨m5, hn5, hl5⟩ := I5.loc
  have hcx5 : X.env.scope.names.lookup x = some .cell := hfr (x, .free) (PySem.mem_of_lookup hx) rfl
  obtain ⟨uz, rz, lz⟩ := hl5 j x (.str z) hN hz (.inr (.inl hcx5))
  obtain ⟨t0, rfl⟩ := rz
  obtain ⟨cw, hcw, hcv⟩ : ∃ cw, X.env.cells.lookup x = some cw ∧ s5.heap.IsCell cw (some (.str z t0)) := by
    rcases lz with ⟨k1, _⟩ | ⟨_, cw, e1, e2⟩
    · have k1 : X.env.scope.names.lookup x = some .local := k1
      rw [hcx5] at k1; cases k1
    · exact ⟨cw, e1, e2⟩
  have hclo : (cloFrom X.env.cells scope.names []).lookup x = some cw := by
    obtain ⟨c2, h2⟩ := mem_lookup (cloFrom_has (cells := X.env.cells) (acc := []) (PySem.mem_of_lookup hx))
    rcases cloFrom_mem (PySem.mem_of_lookup h2) with hm' | ⟨h1, h3⟩
    · cases hm'
    · have h3 : c2 = _ := h3
      have hcw : X.env.cells.lookup x = some cw := hcw
      rw [h2, h3, hcw]; rfl
  refine sorted_range_key (n := n) (fun i => .str (cutS z (some i) none)) (I5.ok.hd hc) P5 hn (fun d hd d' hd' => ?_) (.inr fun d hd => ?_) (fun x => by show X.A.units + 2 + 0 < cLine; omega) (fun i t i0 i1 hh tk kp => ?_) fun D out c2 h2 tk kp hno hD hE => ?_
  · obtain ⟨i, _, rfl⟩ := List.mem_map.mp hd
    obtain ⟨i', _, rfl⟩ := List.mem_map.mp hd'
    rfl
  · obtain ⟨i, _, rfl⟩ := List.mem_map.mp hd
    exact ⟨(fun z => nomatch z), (fun _ z => nomatch z)⟩
  · refine lam_from (t0 := t0) (A := X.A.in1.in1) (s := { s5 with heap := hh, toks := tk }) hdp (I5.nolimit.keeps kp) (kp _ _ hf) ⟨c', oc, vs, tq, rfl, kp _ _ hoc, hdc, hvc⟩ hk hco hgen hcell hx hy hclo ?_ (Nat.le_trans hzl (by decide)) (hbind _ _ _ _ _ _ _) hdx hcx hdy
    obtain ⟨o, e1, e2⟩ := hcv
    exact ⟨o, kp _ _ e1, e2⟩
  · have J5 : L2.Inv X pins σ H5 s5 := I5.pins_of fun p hp => I5.pin p (List.mem_append_right _ (List.mem_cons_of_mem _ hp))
    have hD0 : H5 D = none := I5.hok.gone hno
    have new : ObjOk X.prog X.w (upd H5 D (.lst ((sortFrom z n).map .int))) h2 D (.lst ((sortFrom z n).map .int)) := ⟨by rw [List.length_map, sortFrom_len]; exact Nat.le_trans hn (by decide), out, c2, vals_each hE, hD⟩
    exact ⟨.ref D, upd H5 D (.lst ((sortFrom z n).map .int)), J5.laidN kp hno hD0 new, rfl, q H5 eN T5 D hD0⟩
end Z

namespace Z
open PySem PySem.Spec PyProof.Rows L2
section
variable {P : Program} {w : World} {K : PySem.W.Frag} {mg : Str → Option Value} {base : Heap} {x qual : Str} {params : Arguments} {body : List Stmt} {scope : Scope} {dvs : List V} {kws : List (Str × V)} {f : Addr} {fd : FuncData} {C : CXT} {N ps : List Str} {k : Nat} {sp : Sp}
/-- a def's rule with its code told -/
theorem okC (F : FunD K x qual params body scope dvs kws f fd) (S : FnScope N ps scope) (len : ∀ vs H Q E, sp vs H Q E → vs.length = ps.length)
    (hb : ∀ (cdv : Value) (A : Around) (outer : List Env) (s : Shared) (H : Hp) (vs : List V) (Q : VK) (E : XK), fd.code = cdv → Room k (A.deeper (envOfC qual scope s.heap.objs.size f cdv)) → sp vs H Q E →
      ∃ t, PSs (cxOf C P w K mg base N qual scope f cdv A outer s H E) body t ∧ t { nx := fun _ H' => Q .non H', rt := Q } (start N vs) H) : FnOk P w K mg base C (k + 1) f fd ps sp := by
  obtain ⟨oc, od, dV, kV, doc, pm, an, cdv, ct, osl, rfl, lk, hcd, _, _⟩ := F.ex
  exact fn_of lk hcd S len fun A outer s H vs Q E hr h => hb cdv A outer s H vs Q E rfl hr h
end
end Z

namespace Z
open PySem PySem.Spec PyProof.Rows L2
abbrev Tb := List (Addr × Str)
theorem extN_le {H H2 : Hp} (l : Le H H2) : LamX.ExtN H H2 := LamX.ExtN.of l
theorem extN_new {H : Hp} {p : Addr} {o : HO} (h : H p = none) : LamX.ExtN H (upd H p o) := LamX.ExtN.of fun b u e => by
  rw [upd_ne (fun z => by rw [z, h] at e; cases e)]; exact e
theorem tabs_le {T : Tb} {H H2 : Hp} (t : LamX.Tabs T H) (l : Le H H2) : LamX.Tabs T H2 := t.ext l
theorem le_new {H : Hp} {p : Addr} {o : HO} (h : H p = none) : Le H (upd H p o) := fun b u e => by
  rw [upd_ne (fun z => by rw [z, h] at e; cases e)]; exact e
theorem fr_back {H H3 : Hp} {q : Addr} (e : LamX.ExtN H H3) (h : H3 q = none) : Fr0 H q := fun o w => by
  by_cases ht : ∃ ps, o = .tbl ps
  · exact ht
  · have := e q o w (fun ps z => ht ⟨ps, z⟩)
    rw [h] at this; cases this
/-- the ends of a word, in order -/
def ends (z : W) : List Int := sortFrom (S z) (z.length + 1)
def sp_sorted_ends (T : Tb) (K : PySem.W.Frag) (ca : Str → Addr) : Sp := fun vs H Q E => ∃ z : W, vs = [.str (S z)] ∧ z.length ≤ 100000 ∧ LamX.Tabs T H ∧
  ∀ p H2, LamX.ExtN H H2 → LamX.Tabs T H2 → H2 p = none → Q (.ref p) (upd H2 p (.lst ((ends z).map .int)))
def t_sorted_ends (T : Tb) (K : PySem.W.Frag) (ca : Str → Addr) (E : XK) : TS := tRet (tSortFrom T 0 (tOp (rI0 fun i j => .int (i + j)) (tCB (rLenU K) (tCons (tVar 0) tNil)) (tC (.int 1))))
theorem pure_sorted_ends {T : Tb} {K : PySem.W.Frag} {ca : Str → Addr} (vs : List V) (H : Hp) (Q : VK) (E : XK) (h : sp_sorted_ends T K ca vs H Q E) : vs.length = 1 ∧ t_sorted_ends T K ca E { nx := fun _ H2 => Q .non H2, rt := Q } (start ["word"] vs) H := by
  obtain ⟨z, rfl, hz, hT, k⟩ := h
  refine ⟨rfl, ?_⟩
  have hl : (S z).length = z.length := S_len z
  refine ⟨.str (S z), rfl, .str (S z), z.length, rfl, ⟨by rw [hl]; exact Nat.le_trans hz (by decide), hl.symm⟩, (z.length : Int), 1, rfl, rfl, z.length + 1, S z, by push_cast; rfl, rfl, by omega, by rw [hl]; omega, hT, fun H2 e2 t2 p hp => ?_⟩
  exact k p H2 e2 t2 hp
def okW : PyData → Prop
  | .str s => s.cps.toList.length ≤ 10000
  | _ => True
theorem okW_okD {d : PyData} (h : okW d) : okD d := by
  cases d with
  | str s => exact Nat.le_trans (show s.cps.toList.length ≤ 10000 from h) (by decide)
  | _ => trivial
theorem word_of {d : PyData} (h : m_is_word d = true) : ∃ z : W, d = dS z ∧ wordB z = true := by
  cases d with
  | str s => exact ⟨s.cps.toList, by show PyData.str s = .str (S s.cps.toList); rw [S_eta], h⟩
  | _ => cases h
def sp_order (T : Tb) (K : PySem.W.Frag) (ca : Str → Addr) : Sp := fun vs H Q E => ∃ (G : Hp) (d : PyData), In G H ∧ RpA K G vs [d] ∧ okW d ∧ LamX.Tabs T H ∧
  (∀ z : W, d = dS z → wordB z = true → ∀ p H2, LamX.ExtN H H2 → LamX.Tabs T H2 → Fr0 H p → H2 p = some (.tup ((ends z).map .int)) → Q (.ref p) H2) ∧ (m_is_word d = false → Rse G H E (ca "BadWord"))
def t_order (T : Tb) (K : PySem.W.Frag) (ca : Str → Addr) (E : XK) : TS := tSeq (tDrop (tCall (sp_need_word K ca) [] E (tCons (tVar 0) tNil))) (tRet (tThen (tCall (sp_sorted_ends T K ca) [] E (tCons (tVar 0) tNil)) (kTup K)))
theorem pure_order {T : Tb} {K : PySem.W.Frag} {ca : Str → Addr} (vs : List V) (H : Hp) (Q : VK) (E : XK) (h : sp_order T K ca vs H Q E) : vs.length = 1 ∧ t_order T K ca E { nx := fun _ H2 => Q .non H2, rt := Q } (start ["word"] vs) H := by
  obtain ⟨G, d, hin, pv, hok, hT, k, kx⟩ := h
  obtain ⟨v, ws, rfl, rv, pv⟩ := rpa_cons pv
  obtain rfl := rpa_nil pv
  refine ⟨rfl, ?_⟩
  refine o_sDrop (o_call (o_cons (o_var (k := 0) rfl (o_nil ?_))))
  refine ⟨G, d, hin, .cons rv .nil, okW_okD hok, fun hw v2 G2 H2 u2 r2 => ?_, kx⟩
  obtain ⟨z, rfl, hw⟩ := word_of hw
  obtain rfl := rp_str rv
  have hz : z.length ≤ 10000 := by have : (S z).cps.toList.length ≤ 10000 := hok; rwa [S_cps] at this
  refine o_ret ?_
  show tCall (sp_sorted_ends T K ca) [] E (tCons (tVar 0) tNil) _ H2 fun x H1 => kTup K x H1 Q
  refine o_call (o_cons (o_var (k := 0) rfl (o_nil ?_)))
  refine ⟨z, rfl, by omega, tabs_le hT u2.h, fun p H3 e3 t3 hp => .inl ⟨p, _, rfl, .inl (.inl upd_same), fun q hq => ?_⟩⟩
  have hqp : q ≠ p := fun e => by rw [e, upd_same] at hq; cases hq
  have hq3 : H3 q = none := by rw [upd_ne hqp] at hq; exact hq
  have hq0 : Fr0 H q := fr_back ((extN_le u2.h).trans e3) hq3
  exact k z rfl hw q _ (((extN_le u2.h).trans e3).trans ((extN_new hp).trans (extN_new hq))) (tabs_le (tabs_le t3 (le_new hp)) (le_new hq)) hq0 upd_same
/-! ### the column -/
def colOf (z : W) : W := (ends z).map fun at_v => if decide ((0 : Int) < at_v) then (atI z (at_v - 1)).getD 0 else 46
def sp_column (T : Tb) (K : PySem.W.Frag) (ca : Str → Addr) : Sp := fun vs H Q E => ∃ (G : Hp) (d : PyData), In G H ∧ RpA K G vs [d] ∧ okW d ∧ LamX.Tabs T H ∧
  (∀ z : W, d = dS z → wordB z = true → ∀ H2, LamX.ExtN H H2 → LamX.Tabs T H2 → Q (.str (S (colOf z))) H2) ∧ (m_is_word d = false → Rse G H E (ca "BadWord"))
def t_column (T : Tb) (K : PySem.W.Frag) (ca : Str → Addr) (E : XK) : TS := tSeq (tDrop (tCall (sp_need_word K ca) [] E (tCons (tVar 0) tNil))) (tRet (tM1 (rJoin K) (tC (.str "")) (tLc (iList K (tCall (sp_sorted_ends T K ca) [] E0 (tCons (tVar 0) tNil))) (gName 1) tYes (tIf (tTest (tOp (rI0 fun i j => .bl (decide (j < i))) (tVar 1) (tC (.int 0)))) (tOp (rIx K) (tVar 0) (tOp (rI0 fun i j => .int (i - j)) (tVar 1) (tC (.int 1)))) (tC (.str "."))) [1])))
theorem ends_mem {z : W} {i : Int} (h : i ∈ ends z) : 0 ≤ i ∧ i ≤ z.length := by
  unfold ends sortFrom at h
  have h := (List.mergeSort_perm _ _).subset h
  obtain ⟨j, hj, rfl⟩ := List.mem_map.mp h
  have := List.mem_range.mp hj
  omega
theorem ends_len (z : W) : (ends z).length = z.length + 1 := sortFrom_len _ _
theorem pure_column {T : Tb} {K : PySem.W.Frag} {ca : Str → Addr} (vs : List V) (H : Hp) (Q : VK) (E : XK) (h : sp_column T K ca vs H Q E) : vs.length = 1 ∧ t_column T K ca E { nx := fun _ H2 => Q .non H2, rt := Q } (start ["word", "at"] vs) H := by
  obtain ⟨G, d, hin, pv, hok, hT, k, kx⟩ := h
  obtain ⟨v, ws, rfl, rv, pv⟩ := rpa_cons pv
  obtain rfl := rpa_nil pv
  refine ⟨rfl, ?_⟩
  refine o_sDrop (o_call (o_cons (o_var (k := 0) rfl (o_nil ?_))))
  refine ⟨G, d, hin, .cons rv .nil, okW_okD hok, fun hw v2 G2 H2 u2 r2 => ?_, kx⟩
  obtain ⟨z, rfl, hw⟩ := word_of hw
  obtain rfl := rp_str rv
  have hz : z.length ≤ 10000 := by have : (S z).cps.toList.length ≤ 10000 := hok; rwa [S_cps] at this
  refine o_ret (o_m1 (o_c ⟨⟨_, rfl⟩, ?_⟩))
  -- the walked list
  show tCall (sp_sorted_ends T K ca) [] E0 (tCons (tVar 0) tNil) _ H2 _
  refine o_call (o_cons (o_var (k := 0) rfl (o_nil ?_)))
  refine ⟨z, rfl, by omega, tabs_le hT u2.h, fun p H3 e3 t3 hp => ?_⟩
  have inp : In (fun b => if b = p then some (.lst ((ends z).map .int)) else none) (upd H3 p (.lst ((ends z).map .int))) := fun b o e => by
    by_cases hb : b = p
    · subst hb; simp only [if_true] at e; rw [upd_same]; exact .inl e
    · simp only [if_neg hb] at e; cases e
  have ec : Ev K (fun _ H Q => Q (.ref p) H) (start ["word", "at"] [.str (S z)]) (fun b => if b = p then some (.lst ((ends z).map .int)) else none) (dL dI (ends z)) := fun G4 H4 l4 i4 Q q => q _ G4 H4 (Up.refl i4) (.lst (l4 p _ (by simp only [if_true])) (ints_rpa _))
  have ev : Ev K (tM1 (rJoin K) (tC (.str "")) (tLc (iList K (fun _ H Q => Q (.ref p) H)) (gName 1) tYes (tIf (tTest (tOp (rI0 fun i j => .bl (decide (j < i))) (tVar 1) (tC (.int 0)))) (tOp (rIx K) (tVar 0) (tOp (rI0 fun i j => .int (i - j)) (tVar 1) (tC (.int 1)))) (tC (.str "."))) [1])) (start ["word", "at"] [.str (S z)]) (fun b => if b = p then some (.lst ((ends z).map .int)) else none) (dS (colOf z)) := by
    refine ev_joinC (K := K) (ta := tC (.str "")) (l := colOf z) (ev_lit (by decide +kernel)) (ev_lcM (DE := dC) (k := 1) (M := fun at_v => if decide ((0 : Int) < at_v) then (atI z (at_v - 1)).getD 0 else 46) (ei_list ec) (fun i hi G5 x5 l5 h5 => ev_ifD (D := dC) (et_test (ev_op (ev_var (i := 1) rfl h5) ev_int opv_gt)) (fun g => ev_op (ev_var (i := 0) (d := dS z) rfl (.str _)) (ev_op (ev_var (i := 1) rfl h5) ev_int opv_sub) (opv_ixSD (by omega) ?_)) (fun g => ev_lit (l := [46]) (by decide +kernel))) (by rw [ends_len]; omega)) (by unfold colOf; rw [List.length_map, ends_len]; omega)
    have hm := ends_mem hi
    have g' : (0 : Int) < i := of_decide_eq_true g
    unfold atI ixN
    rw [if_pos (by omega), if_pos (by omega)]
    simp
    omega
  · refine (ev _ _ (Le.refl _) inp Q fun v4 G4 H4 u4 r4 => ?_).2
    rw [rp_str r4]
    exact k z rfl hw H4 (((extN_le u2.h).trans e3).trans ((extN_new hp).trans (extN_le u4.h))) (tabs_le (tabs_le t3 (le_new hp)) u4.h)
end Z

namespace Z
open PySem PySem.Spec PyProof.Rows L2
/-! ### the law's order is the program's -/
def idx (z : W) : List Int := (List.range (z.length + 1)).map fun (i : Nat) => (i : Int)
def sufs (z : W) (i : Int) : W := cutL z (some i) none
theorem cut_from {α : Type} {t : List α} {i : Int} (h : 0 ≤ i) : cutL t (some i) none = t.drop i.toNat := by
  unfold cutL
  have e1 : HT.sIx t.length t.length none = t.length := rfl
  have e0 : HT.sIx t.length 0 (some i) = min i.toNat t.length := by
    unfold HT.sIx
    simp
    omega
  rw [e1, e0]
  by_cases hc : i.toNat ≤ t.length
  · rw [Nat.min_eq_left hc]
    refine List.take_of_length_le ?_
    rw [List.length_drop]; omega
  · rw [Nat.min_eq_right (by omega), List.drop_eq_nil_of_le (Nat.le_refl _), List.drop_eq_nil_of_le (by omega)]
    simp
def pairOf (z : W) (i : Int) : W × Int := (sufs z i, i)
theorem sufs_inj {z : W} {i j : Int} (hi : i ∈ idx z) (hj : j ∈ idx z) (h : sufs z i = sufs z j) : i = j := by
  unfold idx at hi hj
  obtain ⟨a, ha, rfl⟩ := List.mem_map.mp hi
  obtain ⟨b, hb, rfl⟩ := List.mem_map.mp hj
  have ha := List.mem_range.mp ha
  have hb := List.mem_range.mp hb
  unfold sufs at h
  rw [cut_from (by omega), cut_from (by omega)] at h
  have := congrArg List.length h
  rw [List.length_drop, List.length_drop] at this
  simp at this
  omega
theorem le_same {z : W} {i j : Int} (hi : i ∈ idx z) (hj : j ∈ idx z) : PySem.W.dataLe false (dP dS dI) (pairOf z i) (pairOf z j) = PySem.W.dataLe false (fun i => .str (cutS (S z) (some i) none)) i j := by
  have e : ∀ i, (.str (cutS (S z) (some i) none) : PyData) = dS (sufs z i) := fun i => by rw [cutS_S]; rfl
  unfold PySem.W.dataLe
  show (!lexLt itemOrd (PySem.W.keyToks (dP dS dI (pairOf z j))) (PySem.W.keyToks (dP dS dI (pairOf z i)))) = (!lexLt itemOrd (PySem.W.keyToks (.str (cutS (S z) (some j) none))) (PySem.W.keyToks (.str (cutS (S z) (some i) none))))
  rw [e, e]
  by_cases h : i = j
  · subst h
    have r : ∀ l, lexLt itemOrd l l = false := lex_irrefl
    rw [r, r]
  · have hs : sufs z i ≠ sufs z j := fun z' => h (sufs_inj hi hj z')
    have t1 : ∀ (s : W) (k : Int), PySem.W.keyToks (dP dS dI (s, k)) = [.inl 1, .inr s, .inl 1, .inl k, .inl 0] := fun s k => by
      show PySem.W.keyToksAll [dS s, dI k] = _
      simp [PySem.W.keyToksAll, PySem.W.keyToks, S_cps]
    have t2 : ∀ (s : W), PySem.W.keyToks (dS s) = [.inr s] := fun s => by simp [PySem.W.keyToks, S_cps]
    show (!lexLt itemOrd (PySem.W.keyToks (dP dS dI (sufs z j, j))) (PySem.W.keyToks (dP dS dI (sufs z i, i)))) = _
    rw [t1, t1, t2, t2]
    have b1 : itemOrd.blt (.inl 1) (.inl 1) = false := by decide
    have b2 : ∀ a b : W, itemOrd.blt (.inr a) (.inr b) = strKind.blt a b := fun a b => rfl
    rw [lex_cons, lex_cons, lex_cons, b1, b2, b2]
    show (!(false || (!false && (decide (sufs z j < sufs z i) || (!decide (sufs z i < sufs z j) && _))))) = (!(decide (sufs z j < sufs z i) || (!decide (sufs z i < sufs z j) && _)))
    by_cases h1 : sufs z j < sufs z i
    · simp [h1]
    · have h2 : sufs z i < sufs z j := by
        by_cases h2 : sufs z i < sufs z j
        · exact h2
        · exact absurd (List.le_antisymm (List.not_lt.mp h1) (List.not_lt.mp h2)) hs
      simp [h1, h2]
/-- sorting asks its items alone -/
theorem mergeSort_congr {α : Type} {le le' : α → α → Bool} (xs : List α) (h : ∀ a ∈ xs, ∀ b ∈ xs, le a b = le' a b) (ht : ∀ a b c, le' a b = true → le' b c = true → le' a c = true) (hT : ∀ a b, (le' a b || le' b a) = true) (ht1 : ∀ a b c, le a b = true → le b c = true → le a c = true) (hT1 : ∀ a b, (le a b || le b a) = true)
    (anti : ∀ a ∈ xs, ∀ b ∈ xs, le' a b = true → le' b a = true → a = b) : xs.mergeSort le = xs.mergeSort le' := by
  have p1 := List.mergeSort_perm xs le
  have p2 := List.mergeSort_perm xs le'
  have s1 := List.pairwise_mergeSort ht1 hT1 xs
  have s2 := List.pairwise_mergeSort ht hT xs
  refine List.Perm.eq_of_pairwise (le := fun a b => le' a b = true) (fun a b ha hb h1 h2 => anti a (p1.subset ha) b (p2.subset hb) h1 h2) ?_ s2 (p1.trans p2.symm)
  refine List.Pairwise.imp_of_mem (fun {a b} ha hb q => ?_) s1
  rw [← h a (p1.subset ha) b (p1.subset hb)]; exact q
theorem dataLe_tot {β : Type} (k : β → PyData) : (∀ a b c, PySem.W.dataLe false k a b = true → PySem.W.dataLe false k b c = true → PySem.W.dataLe false k a c = true) ∧ ∀ a b, (PySem.W.dataLe false k a b || PySem.W.dataLe false k b a) = true := by
  have t := PySem.W.sortLe_total (listOrd itemOrd) false fun b => PySem.W.keyToks (k b)
  exact ⟨t.trans, fun a b => by rw [Bool.or_eq_true]; exact t.total a b⟩
theorem ends_idx (z : W) : ends z = (idx z).mergeSort (PySem.W.dataLe false (fun i => .str (cutS (S z) (some i) none))) := rfl
def sortT {α : Type} (D : α → PyData) (xs : List α) : List α := xs.mergeSort (PySem.W.dataLe false D)
theorem order_eq (z : W) : (sortT (dP dS dI) ((idx z).map (pairOf z))).map (·.2) = ends z := by
  unfold sortT
  have e : ((idx z).map (pairOf z)).mergeSort (PySem.W.dataLe false (dP dS dI)) = ((idx z).mergeSort (fun i j => PySem.W.dataLe false (dP dS dI) (pairOf z i) (pairOf z j))).map (pairOf z) := by
    rw [List.map_mergeSort]
    intro a _ b _; rfl
  rw [e, List.map_map]
  have e2 : ((fun x : W × Int => x.2) ∘ pairOf z) = id := rfl
  rw [e2, List.map_id, ends_idx]
  obtain ⟨a1, a2⟩ := dataLe_tot (fun i => PyData.str (cutS (S z) (some i) none))
  obtain ⟨b1, b2⟩ := dataLe_tot (dP dS dI)
  refine mergeSort_congr _ (fun i hi j hj => le_same hi hj) a1 a2 (fun a b c => b1 _ _ _) (fun a b => b2 _ _) fun i hi j hj h1 h2 => ?_
  refine sufs_inj hi hj ?_
  have e : ∀ i, (.str (cutS (S z) (some i) none) : PyData) = dS (sufs z i) := fun i => by rw [cutS_S]; rfl
  have t2 : ∀ (s : W), PySem.W.keyToks (dS s) = [.inr s] := fun s => by simp [PySem.W.keyToks, S_cps]
  have key : ∀ i j, PySem.W.dataLe false (fun i => PyData.str (cutS (S z) (some i) none)) i j = true → ¬ sufs z j < sufs z i := by
    intro i j h hlt
    have h : (!lexLt itemOrd (PySem.W.keyToks (.str (cutS (S z) (some j) none))) (PySem.W.keyToks (.str (cutS (S z) (some i) none)))) = true := h
    rw [e, e, t2, t2, lex_cons] at h
    have b : itemOrd.blt (.inr (sufs z j)) (.inr (sufs z i)) = true := decide_eq_true hlt
    rw [b] at h
    simp at h
  exact (List.le_antisymm (List.not_lt.mp (key i j h1)) (List.not_lt.mp (key j i h2))).symm ▸ rfl
end Z

namespace Z
open PySem PySem.Spec PyProof.Rows L2
@[reducible] def dU {α : Type} (D : α → PyData) (xs : List α) : PyData := .tuple (xs.map D)
section
variable {K : PySem.W.Frag} {σ : L2.St} {G H : Hp} {te : TE}
theorem sortD_map {α : Type} (D : α → PyData) (xs : List α) : sortD (xs.map D) = (sortT D xs).map D := by
  unfold sortD sortT
  rw [List.map_mergeSort]
  intro a _ b _; rfl
theorem cav_sortT {α : Type} {D : α → PyData} {xs : List α} (hal : PySem.W.AllAlike (xs.map D)) (hk : PySem.W.Sortable (xs.map D)) (hdep : ∀ d ∈ xs.map D, d.depth ≤ 64) (hf : dicFs (xs.map D) = true) : CaV K (rSortD K) [dL D xs] (dL D (sortT D xs)) := by
  have := cav_sortD (K := K) hal hk hdep hf
  rw [sortD_map] at this
  exact this
theorem ev_tupleOf {ds : List PyData} (h : Ev K te σ G (.list ds)) : Ev K (tThen te (kTup K)) σ G (.tuple ds) := fun G1 H1 l i Q q => h G1 H1 l i _ fun v G2 H2 u2 r2 => by
  obtain ⟨p, xs, rfl, h1, h2⟩ := rp_ref r2
  refine .inl ⟨p, xs, rfl, .inl (.inl (u2.i.ex h1 rfl)), fun r hr => ?_⟩
  have u := Up.new (o := .tup xs) u2.i hr
  exact q _ _ _ (u2.trans u) (.tup (.inl (.inl upd_same)) (h2.mono u.g))
theorem ei_tup {ds : List PyData} (h : Ev K te σ G (.tuple ds)) : EvI K (iTup K te) σ G ds := fun G1 H1 l i R q => h G1 H1 l i _ fun v G2 H2 u2 p2 => by
  obtain ⟨p, xs, rfl, h1, h2⟩ := rp_tup p2
  refine ⟨p, rfl, ⟨xs, ?_⟩, q _ G2 H2 u2 (wk_tup h1 h2)⟩
  rcases h1 with z | z
  · rcases z with z | ⟨o, z⟩
    · exact .inl (.inl (u2.i.ex z rfl))
    · exact .inl (.inr ⟨o, u2.i.ex z rfl⟩)
  · exact .inr z
theorem sortT_mem {α : Type} {D : α → PyData} {xs : List α} {x : α} (h : x ∈ sortT D xs) : x ∈ xs := (List.mergeSort_perm _ _).subset h
end
theorem idx_rng (z : W) : rng 0 ((z.length : Int) + 1).toNat = idx z := by
  unfold rng idx
  have : ((z.length : Int) + 1).toNat = z.length + 1 := by omega
  rw [this]
  refine List.map_congr_left fun i _ => by simp
theorem pair_sides {z : W} : PySem.W.AllAlike (((idx z).map (pairOf z)).map (dP dS dI)) ∧ PySem.W.Sortable (((idx z).map (pairOf z)).map (dP dS dI)) ∧ (∀ d ∈ ((idx z).map (pairOf z)).map (dP dS dI), d.depth ≤ 64) ∧ dicFs (((idx z).map (pairOf z)).map (dP dS dI)) = true := by
  have key : ∀ d ∈ ((idx z).map (pairOf z)).map (dP dS dI), ∃ s k, d = dP dS dI (s, k) := fun d hd => by
    obtain ⟨p, _, rfl⟩ := List.mem_map.mp hd
    exact ⟨p.1, p.2, rfl⟩
  refine ⟨fun d hd d' hd' => ?_, .inl fun d hd => ?_, fun d hd => ?_, ?_⟩
  · obtain ⟨s, k, rfl⟩ := key d hd
    obtain ⟨s', k', rfl⟩ := key d' hd'
    simp [PySem.W.alike, PySem.W.alikeAll]
  · obtain ⟨s, k, rfl⟩ := key d hd
    exact ⟨_, _, rfl⟩
  · obtain ⟨s, k, rfl⟩ := key d hd
    have := (eqt_P eqt_S eqt_I).dep (s, k)
    exact Nat.le_trans this (by decide)
  · have go : ∀ ps : List (W × Int), dicFs (ps.map (dP dS dI)) = true := by
      intro ps
      induction ps with
      | nil => simp [dicFs]
      | cons p ps ih => simp only [List.map_cons, dicFs, Bool.and_eq_true]; exact ⟨by simp [dicF, dicFs], ih⟩
    exact go _
def sp__law_order (K : PySem.W.Frag) (ca : Str → Addr) : Sp := fun vs H Q E => ∃ (G : Hp) (z : W), In G H ∧ RpA K G vs [dS z] ∧ z.length ≤ 10000 ∧ Ret K G H Q (dU dI (ends z))
theorem c__law_order {K : PySem.W.Frag} {ca : Str → Addr} {E : XK} (z : W) (h : z.length ≤ 10000) : SpV K (sp__law_order K ca) E [dS z] (dU dI (ends z)) := fun G H vs hi pv Q q => ⟨G, z, hi, pv, h, q⟩
def t__law_order (K : PySem.W.Frag) (ca : Str → Addr) (E : XK) : TS := (tRet ((tThen ((tLc ((iList K ((tCB (rSortD K) ((tCons ((tLc ((iRng1 ((tCons ((tOp (rI0 fun i j => .int (i + j)) ((tCB (rLenU K) ((tCons ((tVar 0)) (tNil))))) (tC (.int 1)))) (tNil))))) ((gName 2)) (tYes) ((tTup ((tCons ((tSl (rSlS) ((tVar 0)) ((tPart ((tVar 2)))) (tNoPart))) ((tCons ((tVar 2)) (tNil))))))) [2])) (tNil))))))) ((gTup K 2 (gCons (gName 1) (gCons (gName 2) gNil)))) (tYes) ((tVar 2)) [1, 2])) (kTup K))))
theorem pure__law_order {K : PySem.W.Frag} {ca : Str → Addr} (vs : List V) (H : Hp) (Q : VK) (E : XK) (h : sp__law_order K ca vs H Q E) : vs.length = 1 ∧ t__law_order K ca E { nx := fun _ H2 => Q .non H2, rt := Q } (start ["_law_text_here", "_law_rest", "_law_at"] vs) H := by
  obtain ⟨G, z, hin, pv, hz, k⟩ := h
  obtain ⟨v, ws, rfl, rv, pv⟩ := rpa_cons pv
  obtain rfl := rpa_nil pv
  refine ⟨rfl, ?_⟩
  rw [← order_eq] at k
  obtain ⟨s1, s2, s3, s4⟩ := pair_sides (z := z)
  unfold t__law_order
  refine s_ret (d := dU dI ((sortT (dP dS dI) ((idx z).map (pairOf z))).map (·.2))) (ev_tupleOf (ev_lcM2 (DE := dI) (j := 1) (k := 2) (M := fun p : W × Int => p.2) (by decide) (ei_list (ev_cb (ea_cons (a := dL (dP dS dI) ((idx z).map (pairOf z))) ?_ ea_nil) (cav_sortT s1 s2 s3 s4))) (fun p hp G1 x1 y1 l1 h1 h2 => ev_var (i := 2) rfl h2) ?_)) hin k
  · rw [← idx_rng]
    exact ev_lcM (DE := dP dS dI) (k := 2) (M := pairOf z) (ei_rng1 (ea_cons (ev_op (ev_cb (ea_cons (ev_var (i := 0) rfl rv) ea_nil) (cav_lenS (by omega))) ev_int opv_add) ea_nil) (by omega) (by omega)) (fun i hi G1 x1 l1 h1 => ev_tup (ea_cons (ev_slS (ev_var (i := 0) rfl (rv.mono l1)) (eo_some (ev_var (i := 2) rfl h1)) eo_none (by omega)) (ea_cons (ev_var (i := 2) rfl h1) ea_nil)) (by simp)) (by rw [rng_len]; omega)
  · unfold sortT
    rw [List.length_mergeSort, List.length_map]
    have : (idx z).length = z.length + 1 := by simp [idx]
    omega
def sp__law_column (K : PySem.W.Frag) (ca : Str → Addr) : Sp := fun vs H Q E => ∃ (G : Hp) (z : W), In G H ∧ RpA K G vs [dS z] ∧ z.length ≤ 10000 ∧ Ret K G H Q (dS (colOf z))
theorem c__law_column {K : PySem.W.Frag} {ca : Str → Addr} {E : XK} (z : W) (h : z.length ≤ 10000) : SpV K (sp__law_column K ca) E [dS z] (dS (colOf z)) := fun G H vs hi pv Q q => ⟨G, z, hi, pv, h, q⟩
theorem col_eq (z : W) : (ends z).map (fun at_v => if decide (at_v = (0 : Int)) then 46 else (atI z (at_v - 1)).getD 0) = colOf z := by
  unfold colOf
  refine List.map_congr_left fun i hi => ?_
  have := ends_mem hi
  by_cases h : i = 0
  · subst h; rfl
  · rw [if_neg (by simp [h]), if_pos (decide_eq_true (by omega))]
def t__law_column (K : PySem.W.Frag) (ca : Str → Addr) (E : XK) : TS := (tRet ((tM1 (rJoin K) (tC (.str "")) ((tLc ((iTup K ((tCall (sp__law_order K ca) [] E ((tCons ((tVar 0)) (tNil))))))) ((gName 1)) (tYes) ((tIf ((tTest (tOp (rEq) ((tVar 1)) (tC (.int 0))))) (tC (.str ".")) ((tOp (rIx K) ((tVar 0)) ((tOp (rI0 fun i j => .int (i - j)) ((tVar 1)) (tC (.int 1)))))))) [1])))))
theorem pure__law_column {K : PySem.W.Frag} {ca : Str → Addr} (vs : List V) (H : Hp) (Q : VK) (E : XK) (h : sp__law_column K ca vs H Q E) : vs.length = 1 ∧ t__law_column K ca E { nx := fun _ H2 => Q .non H2, rt := Q } (start ["_law_text_here", "_law_at"] vs) H := by
  obtain ⟨G, z, hin, pv, hz, k⟩ := h
  obtain ⟨v, ws, rfl, rv, pv⟩ := rpa_cons pv
  obtain rfl := rpa_nil pv
  refine ⟨rfl, ?_⟩
  rw [← col_eq] at k
  unfold t__law_column
  refine s_ret (ev_joinC (l := (ends z).map (fun at_v => if decide (at_v = (0 : Int)) then 46 else (atI z (at_v - 1)).getD 0)) (ev_lit (l := []) (by decide +kernel)) (ev_lcM (DE := dC) (k := 1) (M := fun at_v => if decide (at_v = (0 : Int)) then 46 else (atI z (at_v - 1)).getD 0) (ei_tup (ev_call (ea_cons (ev_var (i := 0) rfl rv) ea_nil) (c__law_order z hz))) (fun i hi G1 x1 l1 h1 => ev_ifD (D := dC) (et_test (ev_op (ev_var (i := 1) rfl h1) ev_int opv_eqI)) (fun g => ev_lit (l := [46]) (by decide +kernel)) (fun g => ev_op (ev_var (i := 0) (d := dS z) rfl (rv.mono l1)) (ev_op (ev_var (i := 1) rfl h1) ev_int opv_sub) (opv_ixSD (by omega) ?_))) (by rw [ends_len]; omega)) (by rw [List.length_map, ends_len]; omega)) hin k
  have hm := ends_mem hi
  have g' : ¬ i = 0 := of_decide_eq_false g
  unfold atI ixN
  rw [if_pos (by omega), if_pos (by omega)]
  simp
  omega
end Z

namespace Z
open PySem PySem.Spec PyProof.Rows L2
/-! ### what is looked at holds no tables -/
def NoT (G : Hp) : Prop := ∀ a ps, G a ≠ some (.tbl ps)
def clean (G : Hp) : Hp := fun a => match G a with
  | some (.tbl _) => none
  | x => x
theorem clean_some {G : Hp} {a : Addr} {o : HO} (h : G a = some o) (hn : ∀ ps, o ≠ .tbl ps) : clean G a = some o := by
  unfold clean
  rw [h]
  cases o with
  | tbl ps => exact absurd rfl (hn ps)
  | _ => rfl
theorem of_clean {G : Hp} {a : Addr} {o : HO} (h : clean G a = some o) : G a = some o ∧ ∀ ps, o ≠ .tbl ps := by
  unfold clean at h
  cases q : G a with
  | none => rw [q] at h; cases h
  | some u =>
    rw [q] at h
    cases u with
    | tbl ps => cases h
    | _ => cases h; exact ⟨rfl, fun ps z => by cases z⟩
theorem clean_noT (G : Hp) : NoT (clean G) := fun a ps h => (of_clean h).2 ps rfl
theorem clean_le (G : Hp) : Le (clean G) G := fun a o h => (of_clean h).1
theorem le_clean {G G2 : Hp} (l : Le G G2) (n : NoT G) : Le G (clean G2) := fun a o h => clean_some (l a o h) fun ps z => n a ps (by rw [h, z])
section
variable {K : PySem.W.Frag} {G : Hp}
theorem sqt_clean {a : Addr} {xs : List V} (h : SqT K G a xs) : SqT K (clean G) a xs := by
  rcases h with q | q
  · rcases q with q | ⟨o, q⟩
    · exact .inl (.inl (clean_some q (by intro ps z; cases z)))
    · exact .inl (.inr ⟨o, clean_some q (by intro ps z; cases z)⟩)
  · exact .inr q
mutual
theorem Rp.clean : ∀ {v : V} {d : PyData}, Rp K G v d → Rp K (Z.clean G) v d
  | _, _, .non => .non
  | _, _, .bl b => .bl b
  | _, _, .int i => .int i
  | _, _, .str x => .str x
  | _, _, .lst h a => .lst (clean_some h (by intro ps z; cases z)) (RpA.clean a)
  | _, _, .tup h a => .tup (sqt_clean h) (RpA.clean a)
  | _, _, .dic h a => .dic (clean_some h (by intro ps z; cases z)) (RpD.clean a)
theorem RpA.clean : ∀ {v : List V} {d : List PyData}, RpA K G v d → RpA K (Z.clean G) v d
  | _, _, .nil => .nil
  | _, _, .cons h a => .cons (Rp.clean h) (RpA.clean a)
theorem RpD.clean : ∀ {v : List (Key × V)} {d : List (PyData × PyData)}, RpD K G v d → RpD K (Z.clean G) v d
  | _, _, .nil => .nil
  | _, _, .cons h a => .cons (Rp.clean h) (RpD.clean a)
end
end
theorem in_ext {G H H2 : Hp} (i : In G H) (n : NoT G) (e : LamX.ExtN H H2) : In G H2 := fun a o h => by
  have ho : ∀ ps, o ≠ .tbl ps := fun ps z => n a ps (by rw [h, z])
  rcases i a o h with q | ⟨d, ob, q⟩
  · exact .inl (e a o q ho)
  · exact .inr ⟨d, ob, e a _ q (fun ps z => by cases z)⟩
theorem DOk.ext {m w : Addr} {n : Nat} {G H H2 : Hp} (d : DOk m w n G H) (nt : NoT G) (e : LamX.ExtN H H2) : DOk m w n G H2 := by
  obtain ⟨c, ws, cs, r, t, h1, h2, h3⟩ := d.d
  exact ⟨in_ext d.i nt e, d.gm, d.gw, c, ws, cs, r, t, e _ _ h1 (fun ps z => by cases z), e _ _ h2 (fun ps z => by cases z), h3⟩
theorem DOk.clean {m w : Addr} {n : Nat} {G H : Hp} (d : DOk m w n G H) : DOk m w n (Z.clean G) H := by
  obtain ⟨c, ws, cs, r, t, h1, h2, h3, h4⟩ := d.d
  refine ⟨d.i.le (clean_le G), ?_, ?_, c, ws, cs, r, t, h1, h2, clean_some h3 (by intro ps z; cases z), h4⟩
  · cases q : Z.clean G m with
    | none => rfl
    | some o => have := (of_clean q).1; rw [d.gm] at this; cases this
  · cases q : Z.clean G w with
    | none => rfl
    | some o => have := (of_clean q).1; rw [d.gw] at this; cases this
/-- a new thing shown -/
theorem DOk.show {m w : Addr} {n : Nat} {G H H2 : Hp} {p : Addr} {o : HO} (d : DOk m w n G H) (nt : NoT G) (e : LamX.ExtN H H2) (fr : Fr0 H p) (hp : H2 p = some o) (ho : ∀ ps, o ≠ .tbl ps) : DOk m w n (upd G p o) H2 ∧ Le G (upd G p o) ∧ NoT (upd G p o) := by
  have d2 := d.ext nt e
  have gp : G p = none := by
    cases q : G p with
    | none => rfl
    | some u =>
      have hu : ∀ ps, u ≠ .tbl ps := fun ps z => nt p ps (by rw [q, z])
      rcases d.i p u q with z | ⟨_, ob, z⟩
      · obtain ⟨ps, e⟩ := fr _ z; exact absurd e (hu ps)
      · obtain ⟨ps, e⟩ := fr _ z; cases e
  obtain ⟨c, ws, cs, r, t, h1, h2, h3, h4⟩ := d.d
  have pm : m ≠ p := fun z => by obtain ⟨ps, e⟩ := fr _ (z ▸ h1); cases e
  have pw : w ≠ p := fun z => by obtain ⟨ps, e⟩ := fr _ (z ▸ h2); cases e
  have lg : Le G (upd G p o) := fun b u q => by rw [upd_ne (fun z => by rw [z, gp] at q; cases q)]; exact q
  refine ⟨⟨fun b u q => ?_, by rw [upd_ne pm]; exact d.gm, by rw [upd_ne pw]; exact d.gw, d2.d.up lg (Le.refl _)⟩, lg, fun b ps q => ?_⟩
  · by_cases hb : b = p
    · subst hb; rw [upd_same] at q; cases q; exact .inl hp
    · rw [upd_ne hb] at q; exact d2.i b u q
  · by_cases hb : b = p
    · subst hb; rw [upd_same] at q; cases q; exact ho ps rfl
    · rw [upd_ne hb] at q; exact nt b ps q
theorem tabs_upm {T : Tb} {m w : Addr} {n : Nat} {G H G2 H2 : Hp} (t : LamX.Tabs T H) (d : DOk m w n G H) (u : UpM m w G H G2 H2) : LamX.Tabs T H2 := fun p hp => by
  obtain ⟨c, ws, cs, r, t', h1, h2, _⟩ := d.d
  obtain ⟨ps, e1, e2, e3⟩ := t p hp
  have k : ∀ b o, H b = some o → (∀ kv, o ≠ .dK kv) → (∀ xs, o ≠ .lst xs) → H2 b = some o := fun b o e n1 n2 => u.h b (fun z => n1 _ (by rw [z, h1] at e; exact (Option.some.inj e).symm)) (fun z => n2 _ (by rw [z, h2] at e; exact (Option.some.inj e).symm)) o e
  refine ⟨ps, k _ _ e1 (fun _ z => by cases z) (fun _ z => by cases z), e2, fun pos cv hc => ?_⟩
  obtain ⟨c0, a1, a2⟩ := e3 pos cv hc
  exact ⟨c0, a1, k _ _ a2 (fun _ z => by unfold LamX.CodeO at z; cases z) (fun _ z => by unfold LamX.CodeO at z; cases z)⟩
section
variable {K : PySem.W.Frag} {ca : Str → Addr} {E : XK} {T : Tb} {G H : Hp} {m w : Addr} {n : Nat} {v : V} {Q : VK} {z : W}
theorem okW_S (h : z.length ≤ 10000) : okW (dS z) := by show (S z).cps.toList.length ≤ 10000; rw [S_cps]; exact h
theorem spv_order (d : DOk m w n G H) (nt : NoT G) (hT : LamX.Tabs T H) (r : Rp K G v (dS z)) (hw : wordB z = true) (hz : z.length ≤ 10000) (k : ∀ u G2 H2, Le G G2 → NoT G2 → DOk m w n G2 H2 → LamX.Tabs T H2 → Rp K G2 u (dU dI (ends z)) → Q u H2) : sp_order T K ca [v] H Q E := by
  refine ⟨G, dS z, d.i, .cons r .nil, okW_S hz, hT, fun z' e hw' p H2 e2 t2 fr hp => ?_, fun e => ?_⟩
  · obtain rfl : z = z' := S_inj (by cases e; rfl)
    obtain ⟨d2, l2, n2⟩ := d.show nt e2 fr hp (by intro ps z; cases z)
    exact k _ _ H2 l2 n2 d2 t2 (.tup (.inl (.inl upd_same)) (ints_rpa _))
  · have : m_is_word (dS z) = wordB z := by show wordB (S z).cps.toList = _; rw [S_cps]
    rw [this, hw] at e; cases e
theorem spv_column (d : DOk m w n G H) (nt : NoT G) (hT : LamX.Tabs T H) (r : Rp K G v (dS z)) (hw : wordB z = true) (hz : z.length ≤ 10000) (k : ∀ H2, DOk m w n G H2 → LamX.Tabs T H2 → Q (.str (S (colOf z))) H2) : sp_column T K ca [v] H Q E := by
  refine ⟨G, dS z, d.i, .cons r .nil, okW_S hz, hT, fun z' e hw' H2 e2 t2 => ?_, fun e => ?_⟩
  · obtain rfl : z = z' := S_inj (by cases e; rfl)
    exact k H2 (d.ext nt e2) t2
  · have : m_is_word (dS z) = wordB z := by show wordB (S z).cps.toList = _; rw [S_cps]
    rw [this, hw] at e; cases e
end
/-- the reading of work(odd): one of the two -/
def tWork (T : Tb) (K : PySem.W.Frag) (ca : Str → Addr) (E : XK) : TE := fun σ H Q => tCallL 6 (ca "order") (sp_order T K ca) [] E (tCons (tVar 5) tNil) σ H Q ∨ tCallL 6 (ca "column") (sp_column T K ca) [] E (tCons (tVar 5) tNil) σ H Q
def t_law9 (T : Tb) (K : PySem.W.Frag) (ca : Str → Addr) (E : XK) : TS :=
  tSeq (tAsg (tCall (sp__law_begun K ca) [] E (tCons (tVar 0) tNil)) (gName 1))
  (tSeq (tFor (iRng1 (tCons (tOp (rI0 fun i j => .int (i + j)) (tC (.int 10)) (tCB rMin2 (tCons (tCB (rLenU K) (tCons (tVar 0) tNil)) (tCons (tC (.int 40)) tNil)))) tNil)) (gName 2)
    (tSeq (tAsg (tCall (sp__law_text K ca) [] E (tCons (tVar 1) (tCons (tC (.int 16)) tNil))) (gName 3))
    (tSeq (tAsg (tLst (tCons (tCall (sp_order T K ca) [] E (tCons (tVar 3) tNil)) (tCons (tCallN 0 1 (sp_order T K ca) (perm [0]) E tNil (tCons (tVar 3) tNil)) (tCons (tCall (sp_column T K ca) [] E (tCons (tVar 3) tNil)) (tCons (tCallN 0 1 (sp_column T K ca) (perm [0]) E tNil (tCons (tVar 3) tNil)) tNil))))) (gName 4))
    (tSeq (tIfS (tTest (tOp rNe (tCB (rRepr K) (tCons (tVar 4) tNil)) (tCB (rRepr K) (tCons (tOp rCat (tOp rRep (tLst (tCons (tCall (sp__law_order K ca) [] E (tCons (tVar 3) tNil)) tNil)) (tC (.int 2))) (tOp rRep (tLst (tCons (tCall (sp__law_column K ca) [] E (tCons (tVar 3) tNil)) tNil)) (tC (.int 2)))) tNil)))) (tRet (tC (.bl false))) tNext)
    (tSeq (tAsg (tCall (sp__law_odd K ca) [] E (tCons (tVar 1) tNil)) (gName 5))
    (tFor (iList K (tLst (tCons (tC (.ref (ca "order"))) (tCons (tC (.ref (ca "column"))) tNil)))) (gName 6)
      (tIfS (tNot (tB (tCB (rIsA K) (tCons (LamX.tLam T (TCaught K (ca "ReadError")) (tWork T K ca)) (tCons (tC (.ref (ca "BadWord"))) tNil))))) (tRet (tC (.bl false))) tNext)))))))
  (tRet (tC (.bl true))))
end Z

namespace Z
open PySem PySem.Spec PyProof.Rows L2
/-! ### what may be shown -/
theorem ints_small : ∀ n : Nat, n < 101 → (PyData.shown (.int (n : Int))).length ≤ 13 ∧ PyData.showable (.int (n : Int)) = true ∧ PyData.weight (.int (n : Int)) ≤ 7 := by decide +kernel
structure Sh (d : PyData) (W D : Nat) : Prop where
  s : d.showable = true
  n : d.hasDict = false
  c : d.canLay0 = true
  i : d.intsShort 13 = true
  w : d.weight ≤ W
  d : d.depth ≤ D
structure ShA (ds : List PyData) (W D : Nat) : Prop where
  s : PyData.showableAll ds = true
  n : PyData.hasDictAll ds = false
  c : PyData.canLayAll0 ds = true
  i : PyData.intsShortAll 13 ds = true
  w : PyData.weightAll ds ≤ W
  d : PyData.depthAll ds ≤ D
theorem sh_int {i : Int} (h : 0 ≤ i ∧ i ≤ 100) : Sh (dI i) 7 0 := by
  obtain ⟨n, rfl⟩ : ∃ n : Nat, i = (n : Int) := ⟨i.toNat, by omega⟩
  obtain ⟨h1, h2, h3⟩ := ints_small n (by omega)
  exact ⟨h2, by simp [PyData.hasDict], by simp [PyData.canLay0], by simp only [PyData.intsShort]; exact decide_eq_true h1, h3, by simp [PyData.depth]⟩
theorem sh_str {z : Z.W} (h : okS z) : Sh (dS z) z.length 0 :=
  ⟨by simp [PyData.showable], by simp [PyData.hasDict], strOk_S h, by simp [PyData.intsShort], by show (S z).cps.size ≤ _; simp [S], by simp [PyData.depth]⟩
theorem sha_nil : ShA [] 0 0 := ⟨by simp [PyData.showableAll], by simp [PyData.hasDictAll], by simp [PyData.canLayAll0], by simp [PyData.intsShortAll], by simp [PyData.weightAll], by simp [PyData.depthAll]⟩
theorem sha_cons {d : PyData} {ds : List PyData} {W D W' D' : Nat} (a : Sh d W D) (b : ShA ds W' D') : ShA (d :: ds) (W + 1 + W') (max D D') := by
  refine ⟨by simp [PyData.showableAll, a.s, b.s], by simp [PyData.hasDictAll, a.n, b.n], by simp [PyData.canLayAll0, a.c, b.c], by simp [PyData.intsShortAll, a.i, b.i], ?_, ?_⟩
  · have := a.w; have := b.w
    simp only [PyData.weightAll]; omega
  · have := a.d; have := b.d
    simp only [PyData.depthAll]; omega
theorem sha_mono {ds : List PyData} {W D W' D' : Nat} (a : ShA ds W D) (h : W ≤ W') (h2 : D ≤ D') : ShA ds W' D' := ⟨a.s, a.n, a.c, a.i, Nat.le_trans a.w h, Nat.le_trans a.d h2⟩
theorem sha_ints : ∀ {xs : List Int}, (∀ i ∈ xs, 0 ≤ i ∧ i ≤ 100) → ShA (xs.map dI) (8 * xs.length) 0
  | [], _ => sha_mono sha_nil (by simp) (by simp)
  | x :: xs, h => sha_mono (sha_cons (sh_int (h x (by simp))) (sha_ints fun i hi => h i (by simp [hi]))) (by simp; omega) (by simp)
theorem sh_lst {ds : List PyData} {W D : Nat} (a : ShA ds W D) : Sh (.list ds) W (D + 1) :=
  ⟨by simp [PyData.showable, a.s], by simp [PyData.hasDict, a.n], by simp [PyData.canLay0, a.c], by simp [PyData.intsShort, a.i], by have := a.w; simp only [PyData.weight]; exact this, by have := a.d; simp only [PyData.depth]; omega⟩
theorem sh_tup {ds : List PyData} {W D : Nat} (a : ShA ds W D) : Sh (.tuple ds) W (D + 1) :=
  ⟨by simp [PyData.showable, a.s], by simp [PyData.hasDict, a.n], by simp [PyData.canLay0, a.c], by simp [PyData.intsShort, a.i], by have := a.w; simp only [PyData.weight]; exact this, by have := a.d; simp only [PyData.depth]; omega⟩
section
variable {K : PySem.W.Frag}
theorem cav_repr {d : PyData} {W D : Nat} (h : Sh d W D) (hW : W ≤ 1048576) (hD : D ≤ 60) : CaV K (rRepr K) [d] (.str d.shown) := fun G H vs hi pv Q q => by
  obtain ⟨v, ws, rfl, rv, pv⟩ := rpa_cons pv
  obtain rfl := rpa_nil pv
  have hl : PyData.layable0 d = true := by
    unfold PyData.layable0
    have h1 := h.w
    have h2 := h.d
    rw [h.c, decide_eq_true (show d.depth ≤ 64 by omega), decide_eq_true (show d.weight ≤ 2 ^ 20 by omega)]
    rfl
  have hz := shown_le13 hl h.i
  exact ⟨v, d, rfl, rv.dp hi (dicF_of_lay _ h.c), h.s, h.n, by have := h.d; omega, Nat.le_trans hz (by decide), q _ G H (Up.refl hi) (.str _)⟩
theorem opv_rep {ds : List PyData} {k : Int} (hk : 0 ≤ k ∧ k ≤ 1000) (h : ds.length * k.toNat ≤ 1000000) : OpV K rRep (.list ds) (.int k) (.list (List.replicate k.toNat ds).flatten) := fun G H x y hi px py Q q => by
  obtain ⟨p, xs, rfl, h1, h2⟩ := rp_ref px
  rw [rp_int py]
  refine ⟨p, k, xs, rfl, rfl, hi.ex h1 rfl, by omega, by omega, by rw [h2.len]; exact Nat.le_trans h (by decide), fun r hr => ?_⟩
  have u := Up.new (o := .lst (List.replicate k.toNat xs).flatten) hi hr
  refine q _ _ _ u (.lst upd_same ?_)
  have go : ∀ n : Nat, RpA K (upd G r (.lst (List.replicate k.toNat xs).flatten)) (List.replicate n xs).flatten (List.replicate n ds).flatten := by
    intro n
    induction n with
    | zero => exact .nil
    | succ n ih => rw [List.replicate_succ, List.replicate_succ, List.flatten_cons, List.flatten_cons]; exact rpa_app (h2.mono u.g) ih
  exact go _
end
end Z

namespace Z
open PySem PySem.Spec PyProof.Rows L2
section
variable {K : PySem.W.Frag} {σ : L2.St} {G H : Hp} {D : Ends} {m w : Addr} {b n : Nat} {T : Tb}
/-- for over a range whose turns draw and make lambdas -/
theorem sn_forT {tr : TA} {j : Int} {k : Nat} {tb : TS} (Sl : L2.St → Prop) (hA : EvA K tr σ G [.int j]) (h1 : -(2 ^ 62) ≤ j) (h2 : j < 2 ^ 62) (d : DOk m w (n + b * j.toNat) G H) (nt : NoT G) (hT : LamX.Tabs T H) (h0 : Sl σ)
    (body : ∀ σ1 G1 H1 (x : Int) r, Sl σ1 → Le G G1 → NoT G1 → LamX.Tabs T H1 → DOk m w (r + b) G1 H1 → ∀ D2 : Ends, (∀ σ2 G2 H2, Sl σ2 → Le G G2 → NoT G2 → LamX.Tabs T H2 → DOk m w r G2 H2 → D2.nx σ2 H2) → tb D2 (σ1.set k (some (.int x))) H1)
    (hn : ∀ σ2 G2 H2, Sl σ2 → Le G G2 → NoT G2 → LamX.Tabs T H2 → DOk m w n G2 H2 → D.nx σ2 H2) : tFor (iRng1 tr) (gName k) tb D σ H := hA G H (Le.refl _) d.i _ fun vs G2 H2 u2 p2 => by
  obtain ⟨v, ws, rfl, p3, p4⟩ := rpa_cons p2
  rw [rp_int p3, rpa_nil p4]
  have W := walk_range (lo := 0) (n := j.toNat)
  refine ⟨j, rfl, h1, h2, fun i mm σ1 H1 => mm = j.toNat - i ∧ i ≤ j.toNat ∧ ∃ G1, Sl σ1 ∧ Le G G1 ∧ NoT G1 ∧ LamX.Tabs T H1 ∧ DOk m w (n + b * (j.toNat - i)) G1 H1, ⟨_, rfl, Nat.zero_le _, clean G2, h0, le_clean u2.g nt, clean_noT _, tabs_le hT u2.h, (d.up u2).clean⟩, ?_⟩
  rintro i mm σ1 H1 ⟨rfl, hi, G1, s1, l1, n1, t1, d1⟩
  by_cases hlt : i < j.toNat
  · refine .inr ⟨W.goes i H1 hlt trivial, fun σ' H' => i + 1 ≤ j.toNat ∧ ∃ G1, Sl σ' ∧ Le G G1 ∧ NoT G1 ∧ LamX.Tabs T H' ∧ DOk m w (n + b * (j.toNat - (i + 1))) G1 H', fun σ' H' q => ⟨j.toNat - (i + 1), by omega, rfl, q.1, q.2⟩, fun x H3 y => ?_⟩
    obtain ⟨e1, e2⟩ := W.yields i H1 x H3 hlt trivial y
    subst e1 e2
    have e : n + b * (j.toNat - (i + 1)) + b = n + b * (j.toNat - i) := by
      have : j.toNat - i = (j.toNat - (i + 1)) + 1 := by omega
      rw [this, Nat.mul_add, Nat.mul_one, Nat.add_assoc]
    exact body σ1 G1 _ _ _ s1 l1 n1 t1 (by rw [e]; exact d1) _ fun σ2 G4 H4 s4 l4 n4 t4 d4 => ⟨hlt, G4, s4, l4, n4, t4, d4⟩
  · have e : i = j.toNat := by omega
    subst e
    rw [Nat.sub_self, Nat.mul_zero, Nat.add_zero] at d1
    exact .inl ⟨W.stops H1 trivial, hn σ1 G1 H1 s1 l1 n1 t1 d1⟩
end
theorem o_callN0 {sp : Sp} {E : XK} {σ : L2.St} {H : Hp} {Q : VK} {k : Nat} {v : V} (hv : σ[k]? = some (some v)) (h : sp [v] H Q E) : tCallN 0 1 sp (perm [0]) E tNil (tCons (tVar k) tNil) σ H Q := ⟨v, hv, rfl, rfl, h⟩
theorem opv_neStr {K : PySem.W.Frag} (x : Str) : OpV K rNe (.str x) (.str x) (.bool false) := by
  have := opv_neSe (K := K) (a := x.cps.toList) (b := x.cps.toList) rfl
  rw [dS, S_eta] at this
  exact this
def TD (z : W) : PyData := .list [dU dI (ends z), dU dI (ends z), dS (colOf z), dS (colOf z)]
theorem col_ok {z : W} (hw : wordB z = true) : okS (colOf z) := by
  have hl : ∀ c ∈ z, c < 256 := by
    unfold wordB lineB at hw
    rw [Bool.and_eq_true] at hw
    intro c hc
    have h1 := of_decide_eq_true (List.all_eq_true.mp hw.1 c hc)
    have : ∀ c ∈ acgt, c < 256 := by decide
    exact this c h1
  intro c hc
  unfold colOf at hc
  obtain ⟨i, hi, rfl⟩ := List.mem_map.mp hc
  by_cases h : (0 : Int) < i
  · rw [if_pos (decide_eq_true h)]
    cases q : atI z (i - 1) with
    | none => simp
    | some c =>
      refine hl c ?_
      unfold atI at q
      cases e : ixN z.length (i - 1) with
      | none => rw [e] at q; cases q
      | some j => rw [e] at q; exact List.mem_of_getElem? q
  · rw [if_neg (by simp [h])]; decide
theorem td_sh {z : W} (hw : wordB z = true) (hz : z.length ≤ 16) : Sh (TD z) 1000 2 := by
  have hi : ∀ i ∈ ends z, 0 ≤ i ∧ i ≤ 100 := fun i h => by have := ends_mem h; omega
  have a := sh_tup (sha_ints hi)
  have b := sh_str (col_ok hw)
  have hl : (colOf z).length = z.length + 1 := by unfold colOf; rw [List.length_map, ends_len]
  have c := sha_cons a (sha_cons a (sha_cons b (sha_cons b sha_nil)))
  refine sh_lst (sha_mono c ?_ (by simp))
  rw [ends_len, hl]; omega
theorem odds_bad : ∀ d ∈ odds, m_is_word d = false := by decide +kernel
def okWB : PyData → Bool
  | .str s => decide (s.cps.toList.length ≤ 10000)
  | _ => true
theorem okW_of {d : PyData} (h : okWB d = true) : okW d := by
  cases d with
  | str s => exact (of_decide_eq_true h : s.cps.toList.length ≤ 10000)
  | _ => trivial
theorem odds_ok : ∀ d ∈ odds, okWB d = true := by decide +kernel
def sp_law9 (T : Tb) (K : PySem.W.Frag) (ca : Str → Addr) : Sp := fun vs H Q E => ∃ (a : Addr) (ns : List Int), vs = [.ref a] ∧ SqL K H a (ns.map .int) ∧ ns.length ≤ 63 ∧ LamX.Tabs T H ∧ ExcC K (ca "BadWord") ∧ PySem.W.exmOne K (.ref (ca "BadWord")) (.ref (ca "ReadError")) = some true ∧ PySem.W.kitOne K (.ref (ca "BadWord")) (.ref (ca "BadWord")) = some true ∧ ∀ H2, Q (.bl true) H2
theorem pure_law9 {T : Tb} {K : PySem.W.Frag} {ca : Str → Addr} (vs : List V) (H : Hp) (Q : VK) (E : XK) (h : sp_law9 T K ca vs H Q E) : vs.length = 1 ∧ t_law9 T K ca E { nx := fun _ H2 => Q .non H2, rt := Q } (start ["_law_script", "_law_draw", "_law_turn", "_law_text_here", "_law_told", "_law_odd_here", "_law_work"] vs) H := by
  obtain ⟨a, ns, rfl, hs, hl, hT, xC, xm, xk, k⟩ := h
  refine ⟨rfl, ?_⟩
  unfold t_law9
  have in0 : In (clean fun b => if b = a then H a else none) H := fun b o e => by
    obtain ⟨e, _⟩ := of_clean e
    by_cases hb : b = a
    · subst hb; simp only [if_true] at e; exact .inl e
    · simp only [if_neg hb] at e; cases e
  have sq0 : SqL K (clean fun b => if b = a then H a else none) a (ns.map .int) := by
    rcases hs with q | q
    · rcases q with q | ⟨o, q⟩
      · exact .inl (.inl (clean_some (by simp only [if_true]; exact q) (by intro ps z; cases z)))
      · exact .inl (.inr ⟨o, clean_some (by simp only [if_true]; exact q) (by intro ps z; cases z)⟩)
    · exact .inr q
  refine ⟨.ref a, rfl, _, a, ns, rfl, in0, sq0, by omega, fun m w G1 H1 l1 lh d1 => ?_⟩
  have l1c := le_clean l1 (clean_noT _)
  have sq1 := sql_le sq0 l1c
  refine sn_forT (K := K) (T := T) (b := 3000) (n := 0) (m := m) (w := w) (G := clean G1) (j := 10 + min (ns.length : Int) 40) (fun σ => ∃ y2 y3 y4 y5 y6, σ = [some (.ref a), some (.ref m), y2, y3, y4, y5, y6]) (ea_cons (ev_op ev_int (ev_cb (ea_cons (ev_lenScr (k := 0) rfl sq1) (ea_cons ev_int ea_nil)) cav_min2) opv_add) ea_nil) (by omega) (by omega) (d1.clean.mono (by omega)) (clean_noT _) (tabs_le hT lh) ⟨_, _, _, _, _, rfl⟩ ?_ (fun σ2 G2 H2 _ l2 n2 t2 d2 => k H2)
  rintro σ1 G2 H2 x r ⟨y2, y3, y4, y5, y6, rfl⟩ l2 n2 t2 d2 D2 kn
  -- a text
  refine o_sSet (o_call (o_cons (o_var (k := 1) rfl (o_cons (o_c (o_nil ?_))))))
  refine ⟨G2, m, w, r + 1000, 16, rfl, d2, by decide, by decide, fun z G3 H3 hw hzl u3 d3 => ?_⟩
  have t3 := tabs_upm t2 d2 u3
  have hz : z.length ≤ 16 := by omega
  have d3 := d3.clean
  have n3 := clean_noT G3
  have l3 : Le (clean G1) (clean G3) := l2.trans (le_clean u3.g n2)
  generalize clean G3 = G4 at d3 n3 l3
  -- told
  refine o_sSet (o_lst (o_cons (o_call (o_cons (o_var (k := 3) rfl (o_nil ?_))))))
  refine spv_order (z := z) d3 n3 t3 (.str _) hw (by omega) fun v5 G5 H5 l5 n5 d5 t5 r5 => ?_
  refine o_cons (o_callN0 (k := 3) rfl ?_)
  refine spv_order (z := z) d5 n5 t5 (.str _) hw (by omega) fun v6 G6 H6 l6 n6 d6 t6 r6 => ?_
  refine o_cons (o_call (o_cons (o_var (k := 3) rfl (o_nil ?_))))
  refine spv_column (z := z) d6 n6 t6 (.str _) hw (by omega) fun H7 d7 t7 => ?_
  refine o_cons (o_callN0 (k := 3) rfl ?_)
  refine spv_column (z := z) d7 n6 t7 (.str _) hw (by omega) fun H8 d8 t8 => ?_
  refine o_nil ⟨by show 4 ≤ sizeLine; decide, fun p hp => ?_⟩
  obtain ⟨d9, l9, n9⟩ := d8.show n6 (extN_new (o := .lst [v5, v6, .str (S (colOf z)), .str (S (colOf z))]) hp) (fr0_none hp) upd_same (by intro ps z; cases z)
  have t9 := tabs_le t8 (le_new (o := .lst [v5, v6, .str (S (colOf z)), .str (S (colOf z))]) hp)
  have r9 : Rp K (upd G6 p (.lst [v5, v6, .str (S (colOf z)), .str (S (colOf z))])) (.ref p) (TD z) := .lst upd_same (.cons (r5.mono (l6.trans l9)) (.cons (r6.mono l9) (.cons (.str _) (.cons (.str _) .nil))))
  have l9' : Le (clean G1) (upd G6 p (.lst [v5, v6, .str (S (colOf z)), .str (S (colOf z))])) := l3.trans (l5.trans (l6.trans l9))
  have sh := td_sh hw hz
  refine s_if (k := false) (et_test (ev_op (ev_cb (ea_cons (ev_var (i := 4) rfl r9) ea_nil) (cav_repr sh (by decide) (by decide))) (ev_cb (ea_cons (a := TD z) (ev_op (ev_op (ev_lst (ea_cons (ev_call (ea_cons (ev_var (i := 3) rfl (.str _)) ea_nil) (c__law_order z (by omega))) ea_nil) (by simp)) ev_int (opv_rep (by decide) (by simp))) (ev_op (ev_lst (ea_cons (ev_call (ea_cons (ev_var (i := 3) rfl (.str _)) ea_nil) (c__law_column z (by omega))) ea_nil) (by simp)) ev_int (opv_rep (by decide) (by simp))) (opv_cat (by simp))) ea_nil) (cav_repr sh (by decide) (by decide))) (opv_neStr _))) d9.i (fun g => by cases g) (fun _ G10 H10 u10 => ?_)
  have d10 := (d9.up u10).clean
  have n10 := clean_noT G10
  have t10 := tabs_le t9 u10.h
  have l10 : Le (clean G1) (clean G10) := l9'.trans (le_clean u10.g n9)
  generalize clean G10 = G11 at d10 n10 l10
  -- an odd thing
  refine o_sSet (o_call (o_cons (o_var (k := 1) rfl (o_nil ?_))))
  refine ⟨G11, m, w, r, rfl, d10.mono (by omega), fun u od G12 H12 hod u12 d12 r12 => ?_⟩
  have t12 := tabs_upm t10 d10 u12
  have l12 : Le (clean G1) (clean G12) := l10.trans (le_clean u12.g n10)
  have d12 := d12.clean
  have r12 := r12.clean
  have n12 := clean_noT G12
  generalize clean G12 = G13 at d12 n12 l12 r12
  -- the two
  refine ⟨by show 2 ≤ sizeLine; decide, fun q hq => ⟨q, rfl, ⟨_, .inl (.inl upd_same)⟩, ?_⟩⟩
  obtain ⟨d13, l13, n13⟩ := d12.show n12 (extN_new (o := .lst [.ref (ca "order"), .ref (ca "column")]) hq) (fr0_none hq) upd_same (by intro ps z; cases z)
  have t13 := tabs_le t12 (le_new (o := .lst [.ref (ca "order"), .ref (ca "column")]) hq)
  have r13 := r12.mono l13
  have l13' := l12.trans l13
  have q13 : upd G13 q (.lst [.ref (ca "order"), .ref (ca "column")]) q = some (.lst [.ref (ca "order"), .ref (ca "column")]) := upd_same
  generalize upd G13 q (.lst [.ref (ca "order"), .ref (ca "column")]) = G14 at d13 n13 l13' r13 q13
  refine for_list (K := K) (a := q) (xs := [V.ref (ca "order"), V.ref (ca "column")]) (fun i σ H' => (∃ y6, σ = [some (.ref a), some (.ref m), some (.int x), some (.str (S z)), some (.ref p), some u, y6]) ∧ LamX.Tabs T H' ∧ DOk m w r G14 H') ⟨⟨_, rfl⟩, t13, d13⟩ (fun i σ H' _ ⟨_, _, d⟩ => .inl (.inl (d.i.ex q13 rfl))) ?_ (fun σ H' ⟨⟨y, e⟩, t, d⟩ => kn σ G14 H' ⟨_, _, _, _, _, e⟩ l13' n13 t d)
  rintro i f σ H' hf ⟨⟨y6, rfl⟩, t, d⟩
  have fin : ∀ (Qc : VK), (∀ ae H2, H2 ae = none → LamX.Tabs T H2 → DOk m w r G14 H2 → Qc (.ref ae) (upd H2 ae (ExV (.ref (ca "BadWord")) none ae))) → LamX.tLam T (TCaught K (ca "ReadError")) (tWork T K ca) [some (.ref a), some (.ref m), some (.int x), some (.str (S z)), some (.ref p), some u, some f] H' Qc := by
    intro Qc hQ
    refine ⟨t, fun H1 e1 t1 Q' hq' => ?_⟩
    have d1 := d.ext n13 e1
    have rse : Rse G14 H1 (fun cls d H' => ∃ b, PySem.W.exmOne K cls (.ref (ca "ReadError")) = some b ∧ (b = true → ∀ a, H' a = none → Qc (.ref a) (upd H' a (ExV cls d a))) ∧ (b = false → False)) (ca "BadWord") := fun G2 H2 u2 => by
      refine ⟨true, xm, fun _ ae hae => hQ ae H2 hae (tabs_le t1 u2.h) ?_, fun z => by cases z⟩
      exact ⟨d1.i.ge u2.h, d1.gm, d1.gw, d1.d.up (Le.refl _) u2.h⟩
    have hf2 : f = .ref (ca "order") ∨ f = .ref (ca "column") := by
      have := List.mem_of_getElem? hf
      simpa using this
    rcases hf2 with rfl | rfl
    · refine .inl ⟨rfl, u, rfl, G14, od, d1.i, .cons r13 .nil, okW_of (odds_ok od hod), t1, fun z' e hw' => ?_, fun _ => rse⟩
      subst e
      have := odds_bad _ hod
      have e2 : m_is_word (dS z') = wordB z' := by show wordB (S z').cps.toList = _; rw [S_cps]
      rw [e2, hw'] at this; cases this
    · refine .inr ⟨rfl, u, rfl, G14, od, d1.i, .cons r13 .nil, okW_of (odds_ok od hod), t1, fun z' e hw' => ?_, fun _ => rse⟩
      subst e
      have := odds_bad _ hod
      have e2 : m_is_word (dS z') = wordB z' := by show wordB (S z').cps.toList = _; rw [S_cps]
      rw [e2, hw'] at this; cases this
  refine fin _ fun ae H2 hae t2' d2' => ?_
  refine .inr ⟨ae, ca "BadWord", .ref (ca "BadWord"), .ref (ca "BadWord"), true, rfl, upd_same, xC, fun u r => r, xk, true, rfl, ?_⟩
  exact ⟨⟨_, rfl⟩, tabs_le t2' (le_new hae), d2'.ext n13 (extN_new hae)⟩
end Z

namespace Z
open PySem PySem.Spec PyProof.Rows L2
def top (i : Nat) : Stmt := PySem.Challenge.pw_readhouse_k09_orders_and_columns.main.body.getD i (.Pass ⟨0, 0, 0, 0⟩)
theorem sc_is_line : FnScope ["value", "sign"] ["value"] (defScope (top 5)) := ⟨rfl, rfl, rfl, by decide +kernel, rfl, by decide +kernel, by decide +kernel⟩
theorem lk_is_line {P : Program} {w : World} {K : PySem.W.Frag} {mg : Str → Option Value} {base : Heap} {ca : Str → Addr} {f : Addr} {fd : FuncData} (B : Blt mg) (g_LETTERS : ∃ t, mg "LETTERS" = some (.str "acgt" t)) (F : FunD K "is_line" "is_line" (defArgs (top 5)) (defBody (top 5)) (defScope (top 5)) [] [] f fd) : FnOk P w K mg base (L2.CX P w) 1 f fd ["value"] (sp_is_line K ca) := by
  refine F.ok sc_is_line (fun vs H Q E h => (pure_is_line vs H Q E h).1) (fun cdv A outer s H vs Q E hr h => ⟨t_is_line K ca E, ?_, (pure_is_line vs H Q E h).2⟩)
  have nd := sc_is_line.nd
  have hu : A.units + 3 + 100 < cLine := by have := hr.un; have e : (A.deeper (envOfC "is_line" (defScope (top 5)) s.heap.objs.size f cdv)).units = A.units + 3 := rfl; omega
  have hu1 : A.units + 3 + 1 < cLine := by omega
  have hu64 : A.units + 3 + 64 < cLine := by omega
  exact (pss_one (ps_ret (pe_and (pe_callB call_isi rfl B.z_isinstance (by decide +kernel) (pa_cons (pv 0) (pa_cons (pe_bltn (v := .ty "str") rfl B.z_str (by decide +kernel) rfl) pa_nil))) (pe_one (pe_callB (cr_all rfl) rfl B.z_all (by decide +kernel) (pa_cons (pe_lc (own := [("sign", 1)]) rfl nd (pi_str (pv 0)) (blkOk_by rfl) (fun _ _ _ _ _ => (pg_name (i := 1) nd rfl (by first | exact Or.inl rfl | exact Or.inr rfl))) (fun _ _ _ _ _ => pts_nil) (fun _ _ _ _ _ => (pe_cmpR op_in_sign (pv 1) (pe_gstr rfl g_LETTERS) rfl))) pa_nil))))))
theorem sc_is_word : FnScope ["value"] ["value"] (defScope (top 6)) := ⟨rfl, rfl, rfl, by decide +kernel, rfl, by decide +kernel, by decide +kernel⟩
theorem lk_is_word {P : Program} {w : World} {K : PySem.W.Frag} {mg : Str → Option Value} {base : Heap} {ca : Str → Addr} {f : Addr} {fd : FuncData} (B : Blt mg) (F_is_line : FnIs P w K mg base 1 "is_line" ["value"] (sp_is_line K ca)) (F : FunD K "is_word" "is_word" (defArgs (top 6)) (defBody (top 6)) (defScope (top 6)) [] [] f fd) : FnOk P w K mg base (L2.CX P w) 2 f fd ["value"] (sp_is_word K ca) := by
  refine F.ok sc_is_word (fun vs H Q E h => (pure_is_word vs H Q E h).1) (fun cdv A outer s H vs Q E hr h => ⟨t_is_word K ca E, ?_, (pure_is_word vs H Q E h).2⟩)
  have nd := sc_is_word.nd
  have hu : A.units + 3 + 100 < cLine := by have := hr.un; have e : (A.deeper (envOfC "is_word" (defScope (top 6)) s.heap.objs.size f cdv)).units = A.units + 3 := rfl; omega
  have hu1 : A.units + 3 + 1 < cLine := by omega
  have hu64 : A.units + 3 + 64 < cLine := by omega
  exact (pss_one (ps_ret (pe_and (pe_fn F_is_line (hr.mono (by decide)) rfl (passes_call (takes_of rfl rfl rfl rfl) (fun _ _ _ _ h => h)) (pa_cons (pv 0) pa_nil)) (pe_one (pe_cmpR op_gt (pe_callB call_len rfl B.z_len (by decide +kernel) (pa_cons (pv 0) pa_nil)) pe_int (nomark _))))))
theorem sc_need_word : FnScope ["value"] ["value"] (defScope (top 8)) := ⟨rfl, rfl, rfl, by decide +kernel, rfl, by decide +kernel, by decide +kernel⟩
theorem lk_need_word {P : Program} {w : World} {K : PySem.W.Frag} {mg : Str → Option Value} {base : Heap} {ca : Str → Addr} {f : Addr} {fd : FuncData} (B : Blt mg) (F_is_word : FnIs P w K mg base 2 "is_word" ["value"] (sp_is_word K ca)) (x_BadWord : ExcIs K mg "BadWord" (ca "BadWord")) (F : FunD K "need_word" "need_word" (defArgs (top 8)) (defBody (top 8)) (defScope (top 8)) [] [] f fd) : FnOk P w K mg base (L2.CX P w) 3 f fd ["value"] (sp_need_word K ca) := by
  refine F.ok sc_need_word (fun vs H Q E h => (pure_need_word vs H Q E h).1) (fun cdv A outer s H vs Q E hr h => ⟨t_need_word K ca E, ?_, (pure_need_word vs H Q E h).2⟩)
  have nd := sc_need_word.nd
  have hu : A.units + 3 + 100 < cLine := by have := hr.un; have e : (A.deeper (envOfC "need_word" (defScope (top 8)) s.heap.objs.size f cdv)).units = A.units + 3 := rfl; omega
  have hu1 : A.units + 3 + 1 < cLine := by omega
  have hu64 : A.units + 3 + 64 < cLine := by omega
  exact (pss_one (ps_if (pt_not (pt_val (pe_fn F_is_word (hr.mono (by decide)) rfl (passes_call (takes_of rfl rfl rfl rfl) (fun _ _ _ _ h => h)) (pa_cons (pv 0) pa_nil)))) (pss_one (ps_raise rfl (takes_of rfl rfl rfl rfl) (pmk_exc x_BadWord (by rfl)))) pss_nil))
theorem sc__law_begun : FnScope ["_law_script", "_law_wide", "_law_cell"] ["_law_script"] (defScope (top 13)) := ⟨rfl, rfl, rfl, by decide +kernel, rfl, by decide +kernel, by decide +kernel⟩
theorem lk__law_begun {P : Program} {w : World} {K : PySem.W.Frag} {mg : Str → Option Value} {base : Heap} {ca : Str → Addr} {f : Addr} {fd : FuncData} (B : Blt mg) (F : FunD K "_law_begun" "_law_begun" (defArgs (top 13)) (defBody (top 13)) (defScope (top 13)) [] [] f fd) : FnOk P w K mg base (L2.CX P w) 1 f fd ["_law_script"] (sp__law_begun K ca) := by
  refine F.ok sc__law_begun (fun vs H Q E h => (pure__law_begun vs H Q E h).1) (fun cdv A outer s H vs Q E hr h => ⟨t__law_begun K ca E, ?_, (pure__law_begun vs H Q E h).2⟩)
  have nd := sc__law_begun.nd
  have hu : A.units + 3 + 100 < cLine := by have := hr.un; have e : (A.deeper (envOfC "_law_begun" (defScope (top 13)) s.heap.objs.size f cdv)).units = A.units + 3 := rfl; omega
  have hu1 : A.units + 3 + 1 < cLine := by omega
  have hu64 : A.units + 3 + 64 < cLine := by omega
  exact (pss_cons (ps_setLc (i := 1) (own := [("_law_cell", 2)]) rfl nd rfl rfl (sw_true rfl rfl rfl (by decide +kernel)) (pi_list (pv 0)) (blkOk_by rfl) (fun _ _ _ _ _ => (pg_name (i := 2) nd rfl (by first | exact Or.inl rfl | exact Or.inr rfl))) (fun _ _ _ _ _ => (pts_one (pt_cmpR op_ge (pe_callB call_abs rfl B.z_abs (by decide +kernel) (pa_cons (pv 2) pa_nil)) (pe_op op_pow pe_int pe_int) (nomark _)))) (fun _ _ _ _ _ => (pe_op op_sub (pe_callB call_abs rfl B.z_abs (by decide +kernel) (pa_cons (pv 2) pa_nil)) (pe_op op_pow pe_int pe_int)))) (pss_one (ps_ret (pe_disp (pps_cons pe_str (pv 1) (pps_cons pe_str (pe_lc (own := [("_law_cell", 2)]) rfl nd (pi_list (pv 0)) (blkOk_by rfl) (fun _ _ _ _ _ => (pg_name (i := 2) nd rfl (by first | exact Or.inl rfl | exact Or.inr rfl))) (fun _ _ _ _ _ => pts_nil) (fun _ _ _ _ _ => (pe_op op_modN (pe_callTy call_int1 rfl B.z_int (by decide +kernel) (pa_cons (pe_callB call_abs rfl B.z_abs (by decide +kernel) (pa_cons (pv 2) pa_nil)) pa_nil)) pe_int))) (pps_cons pe_str pe_int (pps_cons pe_str pe_int pps_nil)))) (by rfl) (by rfl) (fun z => by cases z) (by decide)))))
theorem sc__law_mixed : FnScope ["_law_draw", "_law_tick", "_law_found", "_law_prime", "_law_blend", "_law_cell"] ["_law_draw"] (defScope (top 14)) := ⟨rfl, rfl, rfl, by decide +kernel, rfl, by decide +kernel, by decide +kernel⟩
theorem lk__law_mixed {P : Program} {w : World} {K : PySem.W.Frag} {mg : Str → Option Value} {base : Heap} {ca : Str → Addr} {f : Addr} {fd : FuncData} (B : Blt mg) (F : FunD K "_law_mixed" "_law_mixed" (defArgs (top 14)) (defBody (top 14)) (defScope (top 14)) [] [] f fd) : FnOk P w K mg base (L2.CX P w) 1 f fd ["_law_draw"] (sp__law_mixed K ca) := by
  refine F.ok sc__law_mixed (fun vs H Q E h => (pure__law_mixed vs H Q E h).1) (fun cdv A outer s H vs Q E hr h => ⟨t__law_mixed K ca E, ?_, (pure__law_mixed vs H Q E h).2⟩)
  have nd := sc__law_mixed.nd
  have hu : A.units + 3 + 100 < cLine := by have := hr.un; have e : (A.deeper (envOfC "_law_mixed" (defScope (top 14)) s.heap.objs.size f cdv)).units = A.units + 3 := rfl; omega
  have hu1 : A.units + 3 + 1 < cLine := by omega
  have hu64 : A.units + 3 + 64 < cLine := by omega
  exact (pss_cons (ps_par rfl nd rfl rfl (by decide) rfl rfl (pa_cons (pe_op op_add (pe_dget hu1 (pv 0) pe_str (fun _ _ => rfl)) pe_int) (pa_cons pe_int pa_nil)) rfl) (pss_cons (ps_dput hu1 (pv 0) pe_str (pv 1) rfl) (pss_cons (ps_for (passes_of rfl) rfl (pi_list (pe_lst (pa_cons pe_int (pa_cons pe_int (pa_cons pe_int (pa_cons pe_int pa_nil)))))) (pg_name (i := 3) nd rfl (by first | exact Or.inl rfl | exact Or.inr rfl)) (pss_cons (ps_set (i := 4) nd rfl (by first | exact Or.inl rfl | exact Or.inr rfl) (pe_op op_add (pe_op op_mul pe_int (pv 1)) (pe_op op_fdivN (pv 3) pe_int))) (pss_cons (ps_for (passes_of rfl) rfl (pi_list (pe_dget hu1 (pv 0) pe_str (fun _ _ => rfl))) (pg_name (i := 5) nd rfl (by first | exact Or.inl rfl | exact Or.inr rfl)) (pss_one (ps_set (i := 4) nd rfl (by first | exact Or.inl rfl | exact Or.inr rfl) (pe_op op_modN (pe_callTy call_int1 rfl B.z_int (by decide +kernel) (pa_cons (pe_op op_add (pe_op op_add (pe_op op_mul (pv 4) pe_int) (pv 5)) (pv 1)) pa_nil)) (pv 3))))) (pss_one (ps_set (i := 2) nd rfl (by first | exact Or.inl rfl | exact Or.inr rfl) (pe_op op_add (pe_op op_mul (pv 2) pe_int) (pe_op op_modN (pe_callTy call_int1 rfl B.z_int (by decide +kernel) (pa_cons (pe_op op_pow (pv 4) pe_int) pa_nil)) (pv 3)))))))) (pss_one (ps_ret (pv 2))))))
theorem sc__law_take : FnScope ["_law_draw", "_law_total", "_law_found"] ["_law_draw", "_law_total"] (defScope (top 15)) := ⟨rfl, rfl, rfl, by decide +kernel, rfl, by decide +kernel, by decide +kernel⟩
theorem lk__law_take {P : Program} {w : World} {K : PySem.W.Frag} {mg : Str → Option Value} {base : Heap} {ca : Str → Addr} {f : Addr} {fd : FuncData} (B : Blt mg) (F__law_mixed : FnIs P w K mg base 1 "_law_mixed" ["_law_draw"] (sp__law_mixed K ca)) (F : FunD K "_law_take" "_law_take" (defArgs (top 15)) (defBody (top 15)) (defScope (top 15)) [] [] f fd) : FnOk P w K mg base (L2.CX P w) 2 f fd ["_law_draw", "_law_total"] (sp__law_take K ca) := by
  refine F.ok sc__law_take (fun vs H Q E h => (pure__law_take vs H Q E h).1) (fun cdv A outer s H vs Q E hr h => ⟨t__law_take K ca E, ?_, (pure__law_take vs H Q E h).2⟩)
  have nd := sc__law_take.nd
  have hu : A.units + 3 + 100 < cLine := by have := hr.un; have e : (A.deeper (envOfC "_law_take" (defScope (top 15)) s.heap.objs.size f cdv)).units = A.units + 3 := rfl; omega
  have hu1 : A.units + 3 + 1 < cLine := by omega
  have hu64 : A.units + 3 + 64 < cLine := by omega
  exact (pss_cons (ps_if (pt_cmpR op_eq (pe_dget hu1 (pv 0) pe_str (fun _ _ => rfl)) pe_int (nomark _)) (pss_one (ps_dput hu1 (pv 0) pe_str (pe_ifExp (pt_cmpR (op_neD hu64) (pe_dget hu1 (pv 0) pe_str (fun _ _ => rfl)) (pe_lst pa_nil) (nomark _)) (pe_bm PySem.F.plainAttrs_list PySem.F.slot_list_pop PySem.F.type_list_pop mt_popAt (pe_dget hu1 (pv 0) pe_str (fun _ _ => rfl)) (pa_cons pe_int pa_nil)) (pe_fn F__law_mixed (hr.mono (by decide)) rfl (passes_call (takes_of rfl rfl rfl rfl) (fun _ _ _ _ h => h)) (pa_cons (pv 0) pa_nil))) rfl)) pss_nil) (pss_cons (ps_set (i := 2) nd rfl (by first | exact Or.inl rfl | exact Or.inr rfl) (pe_op op_modN (pe_callTy call_int1 rfl B.z_int (by decide +kernel) (pa_cons (pe_dget hu1 (pv 0) pe_str (fun _ _ => rfl)) pa_nil)) (pv 1))) (pss_cons (ps_dput hu1 (pv 0) pe_str (pe_op op_fdivN (pe_dget hu1 (pv 0) pe_str (fun _ _ => rfl)) (pv 1)) rfl) (pss_one (ps_ret (pv 2))))))
theorem sc__law_pick : FnScope ["_law_draw", "_law_some"] ["_law_draw", "_law_some"] (defScope (top 16)) := ⟨rfl, rfl, rfl, by decide +kernel, rfl, by decide +kernel, by decide +kernel⟩
theorem lk__law_pick {P : Program} {w : World} {K : PySem.W.Frag} {mg : Str → Option Value} {base : Heap} {ca : Str → Addr} {f : Addr} {fd : FuncData} (B : Blt mg) (F__law_take : FnIs P w K mg base 2 "_law_take" ["_law_draw", "_law_total"] (sp__law_take K ca)) (F : FunD K "_law_pick" "_law_pick" (defArgs (top 16)) (defBody (top 16)) (defScope (top 16)) [] [] f fd) : FnOk P w K mg base (L2.CX P w) 3 f fd ["_law_draw", "_law_some"] (sp__law_pick K ca) := by
  refine F.ok sc__law_pick (fun vs H Q E h => (pure__law_pick vs H Q E h).1) (fun cdv A outer s H vs Q E hr h => ⟨t__law_pick K ca E, ?_, (pure__law_pick vs H Q E h).2⟩)
  have nd := sc__law_pick.nd
  have hu : A.units + 3 + 100 < cLine := by have := hr.un; have e : (A.deeper (envOfC "_law_pick" (defScope (top 16)) s.heap.objs.size f cdv)).units = A.units + 3 := rfl; omega
  have hu1 : A.units + 3 + 1 < cLine := by omega
  have hu64 : A.units + 3 + 64 < cLine := by omega
  exact (pss_one (ps_ret (pe_ix ix_seq (pv 1) (pe_fn F__law_take (hr.mono (by decide)) rfl (passes_call (takes_of rfl rfl rfl rfl) (fun _ _ _ _ h => h)) (pa_cons (pv 0) (pa_cons (pe_callB call_len rfl B.z_len (by decide +kernel) (pa_cons (pv 1) pa_nil)) pa_nil))) (fun _ _ => rfl))))
theorem sc__law_signs : FnScope ["_law_draw"] ["_law_draw"] (defScope (top 18)) := ⟨rfl, rfl, rfl, by decide +kernel, rfl, by decide +kernel, by decide +kernel⟩
theorem lk__law_signs {P : Program} {w : World} {K : PySem.W.Frag} {mg : Str → Option Value} {base : Heap} {ca : Str → Addr} {f : Addr} {fd : FuncData} (B : Blt mg) (F__law_pick : FnIs P w K mg base 3 "_law_pick" ["_law_draw", "_law_some"] (sp__law_pick K ca)) (F : FunD K "_law_signs" "_law_signs" (defArgs (top 18)) (defBody (top 18)) (defScope (top 18)) [] [] f fd) : FnOk P w K mg base (L2.CX P w) 4 f fd ["_law_draw"] (sp__law_signs K ca) := by
  refine F.ok sc__law_signs (fun vs H Q E h => (pure__law_signs vs H Q E h).1) (fun cdv A outer s H vs Q E hr h => ⟨t__law_signs K ca E, ?_, (pure__law_signs vs H Q E h).2⟩)
  have nd := sc__law_signs.nd
  have hu : A.units + 3 + 100 < cLine := by have := hr.un; have e : (A.deeper (envOfC "_law_signs" (defScope (top 18)) s.heap.objs.size f cdv)).units = A.units + 3 := rfl; omega
  have hu1 : A.units + 3 + 1 < cLine := by omega
  have hu64 : A.units + 3 + 64 < cLine := by omega
  exact (pss_one (ps_ret (pe_fn F__law_pick (hr.mono (by decide)) rfl (passes_call (takes_of rfl rfl rfl rfl) (fun _ _ _ _ h => h)) (pa_cons (pv 0) (pa_cons (pe_lst (pa_cons pe_str (pa_cons pe_str (pa_cons pe_str (pa_cons pe_str (pa_cons pe_str (pa_cons pe_str (pa_cons pe_str (pa_cons pe_str (pa_cons pe_str (pa_cons pe_str pa_nil))))))))))) pa_nil)))))
theorem sc__law_letters : FnScope ["_law_draw", "_law_signs_here", "_law_many", "_law_lap"] ["_law_draw", "_law_signs_here", "_law_many"] (defScope (top 19)) := ⟨rfl, rfl, rfl, by decide +kernel, rfl, by decide +kernel, by decide +kernel⟩
theorem lk__law_letters {P : Program} {w : World} {K : PySem.W.Frag} {mg : Str → Option Value} {base : Heap} {ca : Str → Addr} {f : Addr} {fd : FuncData} (B : Blt mg) (F__law_pick : FnIs P w K mg base 3 "_law_pick" ["_law_draw", "_law_some"] (sp__law_pick K ca)) (F : FunD K "_law_letters" "_law_letters" (defArgs (top 19)) (defBody (top 19)) (defScope (top 19)) [] [] f fd) : FnOk P w K mg base (L2.CX P w) 4 f fd ["_law_draw", "_law_signs_here", "_law_many"] (sp__law_letters K ca) := by
  refine F.ok sc__law_letters (fun vs H Q E h => (pure__law_letters vs H Q E h).1) (fun cdv A outer s H vs Q E hr h => ⟨t__law_letters K ca E, ?_, (pure__law_letters vs H Q E h).2⟩)
  have nd := sc__law_letters.nd
  have hu : A.units + 3 + 100 < cLine := by have := hr.un; have e : (A.deeper (envOfC "_law_letters" (defScope (top 19)) s.heap.objs.size f cdv)).units = A.units + 3 := rfl; omega
  have hu1 : A.units + 3 + 1 < cLine := by omega
  have hu64 : A.units + 3 + 64 < cLine := by omega
  exact (pss_one (ps_ret (pe_join pe_str (pe_lc (own := [("_law_lap", 3)]) rfl nd (pi_range1 rfl B.z_range (pa_cons (pv 2) pa_nil)) (blkOk_by rfl) (fun _ _ _ _ _ => (pg_name (i := 3) nd rfl (by first | exact Or.inl rfl | exact Or.inr rfl))) (fun _ _ _ _ _ => pts_nil) (fun _ _ _ _ _ => (pe_fn F__law_pick (hr.mono (by decide)) rfl passL (pa_cons (pv 0) (pa_cons (pv 1) pa_nil))))))))
theorem sc__law_text : FnScope ["_law_draw", "_law_most", "_law_signs_here", "_law_many", "_law_some", "_law_found", "_law_lap"] ["_law_draw", "_law_most"] (defScope (top 20)) := ⟨rfl, rfl, rfl, by decide +kernel, rfl, by decide +kernel, by decide +kernel⟩
theorem lk__law_text {P : Program} {w : World} {K : PySem.W.Frag} {mg : Str → Option Value} {base : Heap} {ca : Str → Addr} {f : Addr} {fd : FuncData} (B : Blt mg) (F__law_take : FnIs P w K mg base 2 "_law_take" ["_law_draw", "_law_total"] (sp__law_take K ca)) (F__law_signs : FnIs P w K mg base 4 "_law_signs" ["_law_draw"] (sp__law_signs K ca)) (F__law_letters : FnIs P w K mg base 4 "_law_letters" ["_law_draw", "_law_signs_here", "_law_many"] (sp__law_letters K ca)) (F__law_pick : FnIs P w K mg base 3 "_law_pick" ["_law_draw", "_law_some"] (sp__law_pick K ca)) (F : FunD K "_law_text" "_law_text" (defArgs (top 20)) (defBody (top 20)) (defScope (top 20)) [] [] f fd) : FnOk P w K mg base (L2.CX P w) 5 f fd ["_law_draw", "_law_most"] (sp__law_text K ca) := by
  refine F.ok sc__law_text (fun vs H Q E h => (pure__law_text vs H Q E h).1) (fun cdv A outer s H vs Q E hr h => ⟨t__law_text K ca E, ?_, (pure__law_text vs H Q E h).2⟩)
  have nd := sc__law_text.nd
  have hu : A.units + 3 + 100 < cLine := by have := hr.un; have e : (A.deeper (envOfC "_law_text" (defScope (top 20)) s.heap.objs.size f cdv)).units = A.units + 3 := rfl; omega
  have hu1 : A.units + 3 + 1 < cLine := by omega
  have hu64 : A.units + 3 + 64 < cLine := by omega
  exact (pss_cons (ps_asg (pe_tup (pa_cons (pe_fn F__law_signs (hr.mono (by decide)) rfl (passes_call (takes_of rfl rfl rfl rfl) (fun _ _ _ _ h => h)) (pa_cons (pv 0) pa_nil)) (pa_cons (pe_op op_add pe_int (pe_fn F__law_take (hr.mono (by decide)) rfl (passes_call (takes_of rfl rfl rfl rfl) (fun _ _ _ _ h => h)) (pa_cons (pv 0) (pa_cons (pv 1) pa_nil)))) pa_nil))) (pg_tup rfl (pgs_cons (pg_name (i := 2) nd rfl (by first | exact Or.inl rfl | exact Or.inr rfl)) (pgs_cons (pg_name (i := 3) nd rfl (by first | exact Or.inl rfl | exact Or.inr rfl)) pgs_nil)))) (pss_cons (ps_if (pt_cmpR op_gt (pe_fn F__law_take (hr.mono (by decide)) rfl (passes_call (takes_of rfl rfl rfl rfl) (fun _ _ _ _ h => h)) (pa_cons (pv 0) (pa_cons pe_int pa_nil))) pe_int (nomark _)) (pss_one (ps_ret (pe_fn F__law_letters (hr.mono (by decide)) rfl (passes_call (takes_of rfl rfl rfl rfl) (fun _ _ _ _ h => h)) (pa_cons (pv 0) (pa_cons (pv 2) (pa_cons (pv 3) pa_nil)))))) pss_nil) (pss_cons (ps_par rfl nd rfl rfl (by decide) rfl rfl (pa_cons (pe_lc (own := [("_law_lap", 6)]) rfl nd (pi_range1 rfl B.z_range (pa_cons pe_int pa_nil)) (blkOk_by rfl) (fun _ _ _ _ _ => (pg_name (i := 6) nd rfl (by first | exact Or.inl rfl | exact Or.inr rfl))) (fun _ _ _ _ _ => pts_nil) (fun _ _ _ _ _ => (pe_fn F__law_letters (hr.mono (by decide)) rfl passL (pa_cons (pv 0) (pa_cons (pv 2) (pa_cons (pe_op op_add pe_int (pe_fn F__law_take (hr.mono (by decide)) rfl passL (pa_cons (pv 0) (pa_cons pe_int pa_nil)))) pa_nil)))))) (pa_cons pe_str pa_nil)) rfl) (pss_cons (ps_for (passes_of rfl) rfl (pi_range1 rfl B.z_range (pa_cons (pv 3) pa_nil)) (pg_name (i := 6) nd rfl (by first | exact Or.inl rfl | exact Or.inr rfl)) (pss_one (ps_set (i := 5) nd rfl (by first | exact Or.inl rfl | exact Or.inr rfl) (pe_op op_add_str (pv 5) (pe_fn F__law_pick (hr.mono (by decide)) rfl (passes_call (takes_of rfl rfl rfl rfl) (fun _ _ _ _ h => h)) (pa_cons (pv 0) (pa_cons (pv 4) pa_nil))))))) (pss_one (ps_ret (pe_slice sl_str (pv 5) po_none (po_some (pv 3)))))))))
theorem sc__law_odd : FnScope ["_law_draw", "_law_some"] ["_law_draw"] (defScope (top 21)) := ⟨rfl, rfl, rfl, by decide +kernel, rfl, by decide +kernel, by decide +kernel⟩
theorem lk__law_odd {P : Program} {w : World} {K : PySem.W.Frag} {mg : Str → Option Value} {base : Heap} {ca : Str → Addr} {f : Addr} {fd : FuncData} (B : Blt mg) (F__law_pick : FnIs P w K mg base 3 "_law_pick" ["_law_draw", "_law_some"] (sp__law_pick K ca)) (F : FunD K "_law_odd" "_law_odd" (defArgs (top 21)) (defBody (top 21)) (defScope (top 21)) [] [] f fd) : FnOk P w K mg base (L2.CX P w) 4 f fd ["_law_draw"] (sp__law_odd K ca) := by
  refine F.ok sc__law_odd (fun vs H Q E h => (pure__law_odd vs H Q E h).1) (fun cdv A outer s H vs Q E hr h => ⟨t__law_odd K ca E, ?_, (pure__law_odd vs H Q E h).2⟩)
  have nd := sc__law_odd.nd
  have hu : A.units + 3 + 100 < cLine := by have := hr.un; have e : (A.deeper (envOfC "_law_odd" (defScope (top 21)) s.heap.objs.size f cdv)).units = A.units + 3 := rfl; omega
  have hu1 : A.units + 3 + 1 < cLine := by omega
  have hu64 : A.units + 3 + 64 < cLine := by omega
  exact (pss_cons (ps_set (i := 1) nd rfl (by first | exact Or.inl rfl | exact Or.inr rfl) (pe_lst (pa_cons pe_non (pa_cons pe_bl (pa_cons pe_bl (pa_cons (pe_un un_neg pe_int) (pa_cons (pe_op op_sub (pe_op op_pow pe_int pe_int) pe_int) (pa_cons pe_str (pa_cons pe_str (pa_cons pe_str (pa_cons pe_str (pa_cons pe_str (pa_cons pe_str (pa_cons (pe_tup pa_nil) (pa_cons (pe_lst pa_nil) (pa_cons pe_dnewK (pa_cons (pe_tup (pa_cons pe_str pa_nil)) (pa_cons (pe_lst (pa_cons pe_str pa_nil)) pa_nil)))))))))))))))))) (pss_one (ps_ret (pe_fn F__law_pick (hr.mono (by decide)) rfl (passes_call (takes_of rfl rfl rfl rfl) (fun _ _ _ _ h => h)) (pa_cons (pv 0) (pa_cons (pe_op op_cat (pv 1) (pe_lst (pa_cons (pe_disp (pps_cons pe_str pe_int pps_nil) (by rfl) (by rfl) (fun z => by cases z) (by decide)) (pa_cons (pe_tup (pa_cons pe_non pa_nil)) (pa_cons pe_str (pa_cons (pe_tup (pa_cons pe_str (pa_cons pe_str pa_nil))) (pa_cons (pe_lst (pa_cons (pe_lst (pa_cons pe_str pa_nil)) pa_nil)) (pa_cons pe_str pa_nil)))))))) pa_nil))))))
theorem sc__law_order : FnScope ["_law_text_here", "_law_rest", "_law_at"] ["_law_text_here"] (defScope (top 22)) := ⟨rfl, rfl, rfl, by decide +kernel, rfl, by decide +kernel, by decide +kernel⟩
theorem lk__law_order {P : Program} {w : World} {K : PySem.W.Frag} {mg : Str → Option Value} {base : Heap} {ca : Str → Addr} {f : Addr} {fd : FuncData} (B : Blt mg) (F : FunD K "_law_order" "_law_order" (defArgs (top 22)) (defBody (top 22)) (defScope (top 22)) [] [] f fd) : FnOk P w K mg base (L2.CX P w) 1 f fd ["_law_text_here"] (sp__law_order K ca) := by
  refine F.ok sc__law_order (fun vs H Q E h => (pure__law_order vs H Q E h).1) (fun cdv A outer s H vs Q E hr h => ⟨t__law_order K ca E, ?_, (pure__law_order vs H Q E h).2⟩)
  have nd := sc__law_order.nd
  have hu : A.units + 3 + 100 < cLine := by have := hr.un; have e : (A.deeper (envOfC "_law_order" (defScope (top 22)) s.heap.objs.size f cdv)).units = A.units + 3 := rfl; omega
  have hu1 : A.units + 3 + 1 < cLine := by omega
  have hu64 : A.units + 3 + 64 < cLine := by omega
  exact (pss_one (ps_ret (pe_tupleOf rfl B.z_tuple (pe_lc (own := [("_law_rest", 1), ("_law_at", 2)]) rfl nd (pi_list (pe_callB (cr_sortD hu) rfl B.z_sorted (by decide +kernel) (pa_cons (pe_lc (own := [("_law_at", 2)]) rfl nd (pi_range1 rfl B.z_range (pa_cons (pe_op op_add (pe_callB call_len rfl B.z_len (by decide +kernel) (pa_cons (pv 0) pa_nil)) pe_int) pa_nil)) (blkOk_by rfl) (fun _ _ _ _ _ => (pg_name (i := 2) nd rfl (by first | exact Or.inl rfl | exact Or.inr rfl))) (fun _ _ _ _ _ => pts_nil) (fun _ _ _ _ _ => (pe_tup (pa_cons (pe_slice sl_str (pv 0) (po_some (pv 2)) po_none) (pa_cons (pv 2) pa_nil))))) pa_nil))) (blkOk_by rfl) (fun _ _ _ _ _ => (pg_tup rfl (pgs_cons (pg_name (i := 1) nd rfl (by first | exact Or.inl rfl | exact Or.inr rfl)) (pgs_cons (pg_name (i := 2) nd rfl (by first | exact Or.inl rfl | exact Or.inr rfl)) pgs_nil)))) (fun _ _ _ _ _ => pts_nil) (fun _ _ _ _ _ => (pv 2))))))
theorem sc__law_column : FnScope ["_law_text_here", "_law_at"] ["_law_text_here"] (defScope (top 23)) := ⟨rfl, rfl, rfl, by decide +kernel, rfl, by decide +kernel, by decide +kernel⟩
theorem lk__law_column {P : Program} {w : World} {K : PySem.W.Frag} {mg : Str → Option Value} {base : Heap} {ca : Str → Addr} {f : Addr} {fd : FuncData} (B : Blt mg) (F__law_order : FnIs P w K mg base 1 "_law_order" ["_law_text_here"] (sp__law_order K ca)) (F : FunD K "_law_column" "_law_column" (defArgs (top 23)) (defBody (top 23)) (defScope (top 23)) [] [] f fd) : FnOk P w K mg base (L2.CX P w) 2 f fd ["_law_text_here"] (sp__law_column K ca) := by
  refine F.ok sc__law_column (fun vs H Q E h => (pure__law_column vs H Q E h).1) (fun cdv A outer s H vs Q E hr h => ⟨t__law_column K ca E, ?_, (pure__law_column vs H Q E h).2⟩)
  have nd := sc__law_column.nd
  have hu : A.units + 3 + 100 < cLine := by have := hr.un; have e : (A.deeper (envOfC "_law_column" (defScope (top 23)) s.heap.objs.size f cdv)).units = A.units + 3 := rfl; omega
  have hu1 : A.units + 3 + 1 < cLine := by omega
  have hu64 : A.units + 3 + 64 < cLine := by omega
  exact (pss_one (ps_ret (pe_join pe_str (pe_lc (own := [("_law_at", 1)]) rfl nd (pi_tup (pe_fn F__law_order (hr.mono (by decide)) rfl (passes_call (takes_of rfl rfl rfl rfl) (fun _ _ _ _ h => h)) (pa_cons (pv 0) pa_nil))) (blkOk_by rfl) (fun _ _ _ _ _ => (pg_name (i := 1) nd rfl (by first | exact Or.inl rfl | exact Or.inr rfl))) (fun _ _ _ _ _ => pts_nil) (fun _ _ _ _ _ => (pe_ifExp (pt_cmpR op_eq (pv 1) pe_int (nomark _)) pe_str (pe_ix ix_seq (pv 0) (pe_op op_sub (pv 1) pe_int) (fun _ _ => rfl))))))))
end Z

namespace Z
open PySem PySem.Spec PyProof.Rows L2
def qSE : Str := (("sorted_ends" : Str) ++ ".<locals>.") ++ "<lambda>"
def qLaw : Str := (("law" : Str) ++ ".<locals>.") ++ "<lambda>"
theorem sc_sorted_ends : FnScope ["word"] ["word"] (defScope (top 9)) := ⟨rfl, rfl, rfl, by decide +kernel, rfl, by decide +kernel, by decide +kernel⟩
theorem fr9 : ∀ n ∈ [(("at" : Str), NameKind.local), ("word", NameKind.free)], n.2 = .free → (defScope (top 9)).names.lookup n.1 = some .cell := by decide +kernel
theorem nc9 : ∀ n ∈ [(("at" : Str), NameKind.local), ("word", NameKind.free)], n.2 ≠ .cell := by decide +kernel
theorem lk_sorted_ends {P : Program} {w : World} {K : PySem.W.Frag} {mg : Str → Option Value} {base : Heap} {ca : Str → Addr} {T : Tb} {c Pt : Addr} {f : Addr} {fd : FuncData} (B : Blt mg) (F : FunD K "sorted_ends" "sorted_ends" (defArgs (top 9)) (defBody (top 9)) (defScope (top 9)) [] [] f fd)
    (hc : fd.code = .ref c) (TB : LamX.TabB base mg c Pt) (hmT : (Pt, qSE) ∈ T) (hu : ∀ p ∈ T, p.1 = Pt → p.2 = qSE) : FnOk P w K mg base (L2.CX P w) 1 f fd ["word"] (sp_sorted_ends T K ca) := by
  refine okC F sc_sorted_ends (fun vs H Q E h => (pure_sorted_ends vs H Q E h).1) (fun cdv A outer s H vs Q E hcv hr h => ⟨t_sorted_ends T K ca E, ?_, (pure_sorted_ends vs H Q E h).2⟩)
  have hcv : cdv = .ref c := hcv.symm.trans hc
  subst hcv
  have hun : A.units + 3 + 10 < cLine := by have := hr.un; have e : (A.deeper (envOfC "sorted_ends" (defScope (top 9)) s.heap.objs.size f (.ref c))).units = A.units + 3 := rfl; omega
  have hdp : (A.deeper (envOfC "sorted_ends" (defScope (top 9)) s.heap.objs.size f (.ref c))).depth < recursionLimit := by have := hr.dp; omega
  exact pss_one (ps_ret (pe_sortFrom (p0 := ⟨0, 0, 0, 0⟩) (T := T) (j := 0) (c := c) (P := Pt) rfl B.z_sorted rfl B.z_range rfl hun hdp (pe_op op_add (pe_callB call_len rfl B.z_len (by decide +kernel) (pa_cons (pv 0) pa_nil)) pe_int) TB rfl hmT hu rfl fr9 rfl rfl rfl rfl nc9 rfl rfl (by decide +kernel) (by decide +kernel) (by decide +kernel) (fun _ _ _ _ _ _ _ => rfl)))
theorem sc_order : FnScope ["word"] ["word"] (defScope (top 10)) := ⟨rfl, rfl, rfl, by decide +kernel, rfl, by decide +kernel, by decide +kernel⟩
theorem lk_order {P : Program} {w : World} {K : PySem.W.Frag} {mg : Str → Option Value} {base : Heap} {ca : Str → Addr} {T : Tb} {f : Addr} {fd : FuncData} (B : Blt mg) (F_need_word : FnIs P w K mg base 3 "need_word" ["value"] (sp_need_word K ca)) (F_sorted_ends : FnIs P w K mg base 1 "sorted_ends" ["word"] (sp_sorted_ends T K ca)) (F : FunD K "order" "order" (defArgs (top 10)) (defBody (top 10)) (defScope (top 10)) [] [] f fd) : FnOk P w K mg base (L2.CX P w) 4 f fd ["word"] (sp_order T K ca) := by
  refine F.ok sc_order (fun vs H Q E h => (pure_order vs H Q E h).1) (fun cdv A outer s H vs Q E hr h => ⟨t_order T K ca E, ?_, (pure_order vs H Q E h).2⟩)
  exact pss_cons (ps_expr (pe_fn F_need_word (hr.mono (by decide)) rfl (passes_call (takes_of rfl rfl rfl rfl) (fun _ _ _ _ h => h)) (pa_cons (pv 0) pa_nil))) (pss_one (ps_ret (pe_tupleOf rfl B.z_tuple (pe_fn F_sorted_ends (hr.mono (by decide)) rfl (passes_call (takes_of rfl rfl rfl rfl) (fun _ _ _ _ h => h)) (pa_cons (pv 0) pa_nil)))))
theorem sc_column : FnScope ["word", "at"] ["word"] (defScope (top 11)) := ⟨rfl, rfl, rfl, by decide +kernel, rfl, by decide +kernel, by decide +kernel⟩
theorem lk_column {P : Program} {w : World} {K : PySem.W.Frag} {mg : Str → Option Value} {base : Heap} {ca : Str → Addr} {T : Tb} {f : Addr} {fd : FuncData} (B : Blt mg) (F_need_word : FnIs P w K mg base 3 "need_word" ["value"] (sp_need_word K ca)) (F_sorted_ends : FnIs P w K mg base 1 "sorted_ends" ["word"] (sp_sorted_ends T K ca)) (F : FunD K "column" "column" (defArgs (top 11)) (defBody (top 11)) (defScope (top 11)) [] [] f fd) : FnOk P w K mg base (L2.CX P w) 4 f fd ["word"] (sp_column T K ca) := by
  refine F.ok sc_column (fun vs H Q E h => (pure_column vs H Q E h).1) (fun cdv A outer s H vs Q E hr h => ⟨t_column T K ca E, ?_, (pure_column vs H Q E h).2⟩)
  have nd := sc_column.nd
  exact pss_cons (ps_expr (pe_fn F_need_word (hr.mono (by decide)) rfl (passes_call (takes_of rfl rfl rfl rfl) (fun _ _ _ _ h => h)) (pa_cons (pv 0) pa_nil))) (pss_one (ps_ret (pe_join pe_str (pe_lc (own := [("at", 1)]) rfl nd (pi_list (pe_fn (E := E0) F_sorted_ends (hr.mono (by decide)) rfl passL (pa_cons (pv 0) pa_nil))) (blkOk_by rfl) (fun _ _ _ _ _ => (pg_name (i := 1) nd rfl (by first | exact Or.inl rfl | exact Or.inr rfl))) (fun _ _ _ _ _ => pts_nil) (fun _ _ _ _ _ => pe_ifExp (pt_cmpR op_gt (pv 1) pe_int (nomark _)) (pe_ix ix_seq (pv 0) (pe_op op_sub (pv 1) pe_int) (fun _ _ => rfl)) pe_str)))))
end Z

namespace Z
open PySem PySem.Spec PyProof.Rows L2
theorem pe_or {X : Cx} {e : Expr} {t u : TE} (h1 : PE X e t) (h2 : PE X e u) : PE X e (fun σ H Q => t σ H Q ∨ u σ H Q) := ⟨fun pins s σ H Q I h => h.elim (h1.run pins s σ H Q I) (h2.run pins s σ H Q I)⟩
theorem sc_law9 : FnScope ["_law_script", "_law_draw", "_law_turn", "_law_text_here", "_law_told", "_law_odd_here", "_law_work"] ["_law_script"] (defScope (top 24)) := ⟨rfl, rfl, rfl, by decide +kernel, rfl, by decide +kernel, by decide +kernel⟩
theorem sc_caught : FnScope ["_law_job", "_law_found", "error"] ["_law_job"] (defScope (top 17)) := ⟨rfl, rfl, rfl, by decide +kernel, rfl, by decide +kernel, by decide +kernel⟩
theorem lam9 : LamX.lamSB (defScope (top 24)) { kind := .function, names := [("_law_odd_here", .free), ("_law_work", .free)], isGenerator := false, isCoroutine := false } = true := by decide +kernel
/-- a def known by its address -/
structure At (P : Program) (w : World) (K : PySem.W.Frag) (mg : Str → Option Value) (base : Heap) (k : Nat) (x : Str) (ps : List Str) (sp : Sp) (f : Addr) : Prop where
  ex : ∃ fd, FnOk P w K mg base (L2.CX P w) k f fd ps sp ∧ PySem.W.keepIn K (.ref f) = true ∧ Binds K fd ps []
  g : mg x = some (.ref f)
theorem lk_law9 {P : Program} {w : World} {K : PySem.W.Frag} {mg : Str → Option Value} {base : Heap} {ca : Str → Addr} {T : Tb} {c Pt f fC : Addr} {fd fdC : FuncData} (B : Blt mg)
    (F__law_begun : FnIs P w K mg base 1 "_law_begun" ["_law_script"] (sp__law_begun K ca)) (F__law_text : FnIs P w K mg base 5 "_law_text" ["_law_draw", "_law_most"] (sp__law_text K ca)) (F__law_odd : FnIs P w K mg base 4 "_law_odd" ["_law_draw"] (sp__law_odd K ca))
    (F__law_order : FnIs P w K mg base 1 "_law_order" ["_law_text_here"] (sp__law_order K ca)) (F__law_column : FnIs P w K mg base 2 "_law_column" ["_law_text_here"] (sp__law_column K ca)) (F_order : FnIs P w K mg base 4 "order" ["word"] (sp_order T K ca)) (F_column : FnIs P w K mg base 4 "column" ["word"] (sp_column T K ca))
    (K_order : FnKw P w K mg base 4 "order" ["word"] (sp_order T K ca) 0 ["word"] [0]) (K_column : FnKw P w K mg base 4 "column" ["word"] (sp_column T K ca) 0 ["word"] [0]) (A_order : At P w K mg base 4 "order" ["word"] (sp_order T K ca) (ca "order")) (A_column : At P w K mg base 4 "column" ["word"] (sp_column T K ca) (ca "column"))
    (gR : mg "ReadError" = some (.ref (ca "ReadError"))) (gW : mg "BadWord" = some (.ref (ca "BadWord"))) (gC : mg "_law_caught" = some (.ref fC)) (D_caught : FunD K "_law_caught" "_law_caught" (defArgs (top 17)) (defBody (top 17)) (defScope (top 17)) [] [] fC fdC)
    (F : FunD K "law" "law" (defArgs (top 24)) (defBody (top 24)) (defScope (top 24)) [] [] f fd) (hc : fd.code = .ref c) (TB : LamX.TabB base mg c Pt) (hmT : (Pt, qLaw) ∈ T) (hu : ∀ p ∈ T, p.1 = Pt → p.2 = qLaw) : FnG P w K mg base (L2.CX P w) 7 f fd ["_law_script"] (sp_law9 T K ca) := by
  refine okG F sc_law9 (fun vs H Q E h => (pure_law9 vs H Q E h).1) (fun cdv A outer s H vs Q E hcv hgd hr h => ⟨t_law9 T K ca E, ?_, (pure_law9 vs H Q E h).2⟩)
  have hcv : cdv = .ref c := hcv.symm.trans hc
  subst hcv
  have nd := sc_law9.nd
  have hu64 : A.units + 3 + 64 < cLine := by have := hr.un; have e : (A.deeper (envOfC "law" (defScope (top 24)) s.heap.objs.size f (.ref c))).units = A.units + 3 := rfl; omega
  obtain ⟨ocC, odC, dVC, kVC, docC, pmC, anC, cdvC, ctC, oslC, rfl, lkC, hcdC, hDC, _⟩ := D_caught.ex
  obtain ⟨fdO, FO, kO, bO⟩ := A_order.ex
  obtain ⟨fdL, FL, kL, bL⟩ := A_column.ex
  have bC : L2.Binds K (PySem.W.fnOf "_law_caught" "_law_caught" (defArgs (top 17)) (defBody (top 17)) (defScope (top 17)) dVC kVC docC pmC anC cdvC ctC) ["_law_job"] [] := D_caught.bindsN fun _ _ _ _ _ _ us hl => match us, hl with | [_], _ => rfl
  exact pss_cons (ps_set (i := 1) nd rfl (by first | exact Or.inl rfl | exact Or.inr rfl) (pe_fn F__law_begun (hr.mono (by decide)) rfl (passes_call (takes_of rfl rfl rfl rfl) (fun _ _ _ _ h => h)) (pa_cons (pv 0) pa_nil)))
    (pss_cons (ps_for (passes_of rfl) rfl (pi_range1 rfl B.z_range (pa_cons (pe_op op_add pe_int (pe_callB (call_min2 rfl) rfl B.z_min (by decide +kernel) (pa_cons (pe_callB call_len rfl B.z_len (by decide +kernel) (pa_cons (pv 0) pa_nil)) (pa_cons pe_int pa_nil)))) pa_nil)) (pg_name (i := 2) nd rfl (by first | exact Or.inl rfl | exact Or.inr rfl))
      (pss_cons (ps_set (i := 3) nd rfl (by first | exact Or.inl rfl | exact Or.inr rfl) (pe_fn F__law_text (hr.mono (by decide)) rfl (passes_call (takes_of rfl rfl rfl rfl) (fun _ _ _ _ h => h)) (pa_cons (pv 1) (pa_cons pe_int pa_nil))))
      (pss_cons (ps_set (i := 4) nd rfl (by first | exact Or.inl rfl | exact Or.inr rfl) (pe_lst (pa_cons (pe_fn F_order (hr.mono (by decide)) rfl (passes_call (takes_of rfl rfl rfl rfl) (fun _ _ _ _ h => h)) (pa_cons (pv 3) pa_nil)) (pa_cons (pe_fnK0 (ks := ["word"]) (is := [0]) (x := "order") (k := 4) (ps := ["word"]) K_order (hr.mono (by decide)) rfl (passes_call (takes_of rfl rfl rfl rfl) (fun _ _ _ _ h => h)) (pk_cons (pv 3) pk_nil)) (pa_cons (pe_fn F_column (hr.mono (by decide)) rfl (passes_call (takes_of rfl rfl rfl rfl) (fun _ _ _ _ h => h)) (pa_cons (pv 3) pa_nil)) (pa_cons (pe_fnK0 (ks := ["word"]) (is := [0]) (x := "column") (k := 4) (ps := ["word"]) K_column (hr.mono (by decide)) rfl (passes_call (takes_of rfl rfl rfl rfl) (fun _ _ _ _ h => h)) (pk_cons (pv 3) pk_nil)) pa_nil))))))
      (pss_cons (ps_if (pt_cmpR op_ne (pe_callB (cr_repr hgd hu64) rfl B.z_repr (by decide +kernel) (pa_cons (pv 4) pa_nil)) (pe_callB (cr_repr hgd hu64) rfl B.z_repr (by decide +kernel) (pa_cons (pe_op op_cat (pe_op op_rep (pe_lst (pa_cons (pe_fn F__law_order (hr.mono (by decide)) rfl (passes_call (takes_of rfl rfl rfl rfl) (fun _ _ _ _ h => h)) (pa_cons (pv 3) pa_nil)) pa_nil)) pe_int) (pe_op op_rep (pe_lst (pa_cons (pe_fn F__law_column (hr.mono (by decide)) rfl (passes_call (takes_of rfl rfl rfl rfl) (fun _ _ _ _ h => h)) (pa_cons (pv 3) pa_nil)) pa_nil)) pe_int)) pa_nil)) (nomark _)) (pss_one (ps_ret pe_bl)) pss_nil)
      (pss_cons (ps_set (i := 5) nd rfl (by first | exact Or.inl rfl | exact Or.inr rfl) (pe_fn F__law_odd (hr.mono (by decide)) rfl (passes_call (takes_of rfl rfl rfl rfl) (fun _ _ _ _ h => h)) (pa_cons (pv 1) pa_nil)))
      (pss_one (ps_for (passes_of rfl) rfl (pi_list (pe_lst (pa_cons (pe_glob rfl A_order.g rfl) (pa_cons (pe_glob rfl A_column.g rfl) pa_nil)))) (pg_name (i := 6) nd rfl (by first | exact Or.inl rfl | exact Or.inr rfl)) (pss_one (ps_if (pt_not (pt_val (pe_callB call_isA rfl B.z_isinstance (by decide +kernel) (pa_cons (LamX.pe_lamcall (T := T) (TT := TCaught K (ca "ReadError")) (t := tWork T K ca) (k := 4) (Ng := ["_law_job", "_law_found", "error"]) rfl gC D_caught.kp lkC hcdC bC sc_caught rfl (.inl rfl) (caught_gives rfl gR (by decide +kernel) (by decide +kernel) rfl rfl (by decide +kernel) (by decide +kernel) (by decide +kernel) (by decide +kernel)) TB rfl hmT hu hr (LamX.lamS_by lam9) rfl (fun _ _ _ _ _ => rfl) (fun A' o' s' H' E' f' c' hr' => pe_or (pe_callL (i := 6) (E := E') FO hr' rfl (.inr (.inr rfl)) kO bO .nil (passes_call (takes_of rfl rfl rfl rfl) (fun _ _ _ _ h => h)) (pa_cons (pv 5) pa_nil)) (pe_callL (i := 6) (E := E') FL hr' rfl (.inr (.inr rfl)) kL bL .nil (passes_call (takes_of rfl rfl rfl rfl) (fun _ _ _ _ h => h)) (pa_cons (pv 5) pa_nil)))) (pa_cons (pe_glob rfl gW rfl) pa_nil))))) (pss_one (ps_ret pe_bl)) pss_nil)))))))))
    (pss_one (ps_ret pe_bl)))
end Z

namespace Z
open PySem PySem.Spec PyProof.Rows L2
def d_is_line : He.DefD := ⟨("is_line", none), "is_line", "is_line", defArgs (top 5), defBody (top 5), defScope (top 5), [], []⟩
def d_is_word : He.DefD := ⟨("is_word", none), "is_word", "is_word", defArgs (top 6), defBody (top 6), defScope (top 6), [], []⟩
def d_need_word : He.DefD := ⟨("need_word", none), "need_word", "need_word", defArgs (top 8), defBody (top 8), defScope (top 8), [], []⟩
def d_sorted_ends : He.DefD := ⟨("sorted_ends", none), "sorted_ends", "sorted_ends", defArgs (top 9), defBody (top 9), defScope (top 9), [], []⟩
def d_order : He.DefD := ⟨("order", none), "order", "order", defArgs (top 10), defBody (top 10), defScope (top 10), [], []⟩
def d_column : He.DefD := ⟨("column", none), "column", "column", defArgs (top 11), defBody (top 11), defScope (top 11), [], []⟩
def d__law_begun : He.DefD := ⟨("_law_begun", none), "_law_begun", "_law_begun", defArgs (top 13), defBody (top 13), defScope (top 13), [], []⟩
def d__law_mixed : He.DefD := ⟨("_law_mixed", none), "_law_mixed", "_law_mixed", defArgs (top 14), defBody (top 14), defScope (top 14), [], []⟩
def d__law_take : He.DefD := ⟨("_law_take", none), "_law_take", "_law_take", defArgs (top 15), defBody (top 15), defScope (top 15), [], []⟩
def d__law_pick : He.DefD := ⟨("_law_pick", none), "_law_pick", "_law_pick", defArgs (top 16), defBody (top 16), defScope (top 16), [], []⟩
def d__law_caught : He.DefD := ⟨("_law_caught", none), "_law_caught", "_law_caught", defArgs (top 17), defBody (top 17), defScope (top 17), [], []⟩
def d__law_signs : He.DefD := ⟨("_law_signs", none), "_law_signs", "_law_signs", defArgs (top 18), defBody (top 18), defScope (top 18), [], []⟩
def d__law_letters : He.DefD := ⟨("_law_letters", none), "_law_letters", "_law_letters", defArgs (top 19), defBody (top 19), defScope (top 19), [], []⟩
def d__law_text : He.DefD := ⟨("_law_text", none), "_law_text", "_law_text", defArgs (top 20), defBody (top 20), defScope (top 20), [], []⟩
def d__law_odd : He.DefD := ⟨("_law_odd", none), "_law_odd", "_law_odd", defArgs (top 21), defBody (top 21), defScope (top 21), [], []⟩
def d__law_order : He.DefD := ⟨("_law_order", none), "_law_order", "_law_order", defArgs (top 22), defBody (top 22), defScope (top 22), [], []⟩
def d__law_column : He.DefD := ⟨("_law_column", none), "_law_column", "_law_column", defArgs (top 23), defBody (top 23), defScope (top 23), [], []⟩
def d_law : He.DefD := ⟨("law", none), "law", "law", defArgs (top 24), defBody (top 24), defScope (top 24), [], []⟩
def fn : List He.DefD := ([d_is_line, d_is_word, d_need_word, d_sorted_ends, d_order, d_column, d__law_begun, d__law_mixed, d__law_take, d__law_pick, d__law_caught, d__law_signs, d__law_letters, d__law_text, d__law_odd, d__law_order, d__law_column, d_law] : List He.DefD)
def fa : List He.Fa := ([.glo "is_line", .glo "is_word", .glo "need_word", .glo "sorted_ends", .glo "order", .glo "column", .glo "_law_begun", .glo "_law_mixed", .glo "_law_take", .glo "_law_pick", .glo "_law_caught", .glo "_law_signs", .glo "_law_letters", .glo "_law_text", .glo "_law_odd", .glo "_law_order", .glo "_law_column", .glo "law", .free "abs", .free "all", .free "any", .free "bool", .free "dict", .free "enumerate"] : List He.Fa) ++ ([.free "int", .free "isinstance", .free "len", .free "list", .free "max", .free "min", .free "range", .free "repr", .free "set", .free "sorted", .free "str", .free "sum", .free "tuple", .free "zip", .glo "BadWord", .glo "ReadError", .exc "BadWord", .exm "BadWord" "ReadError" true, .str "LETTERS" "acgt"] : List He.Fa)
def excCB (K : PySem.W.Frag) (D : Addr) : Bool := He.eqO (PySem.W.findIn K (.ref D) "__getattribute__") (some (some (.builtin "BaseException.__getattribute__"))) && (He.eqO (PySem.W.findIn K (.ref D) "__getattr__") (some none) && (decide (PySem.W.subIn K (.ref D) (.type "BaseException") = some true) && (PySem.W.hasDictIn K D && (He.eqO (PySem.W.findIn K (.ref D) "__class__") (some (some (.builtin "object.__class__"))) && (He.eqO (PySem.W.specialIn K (.builtin "object.__class__") "__get__") (some (some (.builtin "getset_descriptor.__get__"))) && (decide (PySem.W.takesIn K (.builtin "object.__class__") = some true) && decide (PySem.W.mroIn K D (.type "object") = some true)))))))
theorem and2 {a b : Bool} (h : (a && b) = true) : a = true ∧ b = true := by rwa [Bool.and_eq_true] at h
theorem excCB_ok {K : PySem.W.Frag} {D : Addr} (h : excCB K D = true) : ExcC K D := by
  obtain ⟨h1, h⟩ := and2 h
  obtain ⟨h2, h⟩ := and2 h
  obtain ⟨h3, h⟩ := and2 h
  obtain ⟨h4, h⟩ := and2 h
  obtain ⟨h5, h⟩ := and2 h
  obtain ⟨h6, h⟩ := and2 h
  obtain ⟨h7, h8⟩ := and2 h
  exact ⟨He.eqO_ok h1, He.eqO_ok h2, of_decide_eq_true h3, h4, He.eqO_ok h5, He.eqO_ok h6, of_decide_eq_true h7, of_decide_eq_true h8⟩
def tf : List He.Defn := [("sorted_ends", none), ("law", none)]
def ex (K : PySem.W.Frag) : Bool := excCB K (He.ga K "BadWord") && (decide (PySem.W.kitOne K (.ref (He.ga K "BadWord")) (.ref (He.ga K "BadWord")) = some true) && decide ((He.cT K ("sorted_ends", none)).2 ≠ (He.cT K ("law", none)).2))
abbrev R : PySem.W.OpenRow := PySem.W.OpenLaw.row PySem.Challenge.rw_readhouse_k09_orders_and_columns
abbrev hk : PySem.W.Hook := He.hookX 4 fa fn [] tf ex
def ob (s : PySem.W.SharedT) : He.AlX := He.obsX 4 fa fn [] tf ex (HandSHeadRun.getT s)
theorem ob_eq (s : PySem.W.SharedT) : ob s = hk.obs s.abs := He.obsX_eq (HandSHeadRun.getT_eq s)
def loose : List Str := (["ReadError", "BadWord", "LETTERS", "is_line", "is_word", "need_word", "sorted_ends", "order", "column", "_law_begun", "_law_mixed", "_law_take", "_law_pick", "_law_caught", "_law_signs", "_law_letters", "_law_text", "_law_odd", "_law_order", "_law_column"] : List Str)
theorem run (w : World) : HandSHeadRun.RunEq R (PySem.W.view R.prog [24]) hk ob 3000 loose w := by
  intro os
  kernel_rfl
end Z

namespace Z
open PySem PySem.Spec PyProof.Rows L2
def TT (K : PySem.W.Frag) : Tb := [((He.cT K ("sorted_ends", none)).2, qSE), ((He.cT K ("law", none)).2, qLaw)]
theorem code_of {K : PySem.W.Frag} {x qual : Str} {params : Arguments} {body : List Stmt} {scope : Scope} {p : Str × Option Str} {fd : FuncData} (F : FunD K x qual params body scope [] [] (He.fAd K p) fd) : fd.code = .ref (He.cT K p).1 := by
  obtain ⟨oc, od, dV, kV, doc, pm, an, cdv, ct, osl, rfl, lk, hcd, _, _⟩ := F.ex
  obtain ⟨c, rfl⟩ := He.codeIn_ref hcd
  rw [show (He.cT K p).1 = c from He.codeOf_eq lk rfl]
theorem facts9 {P : Program} {w : World} {K : PySem.W.Frag} {h : Heap} {mg : Str → Option Value} {f : Addr} (X : K.In h) (G : h.Ns mainGlobals mg) (hfa : mg ("law" : Str) = some (.ref f)) (c : He.SaysX fa fn [] tf ex w h K) :
    ∃ fd : FuncData, (∀ (s : Shared) (v : Value), BindsTo s fd ⟨[v], []⟩ [("_law_script", v)]) ∧ ExcC K (He.ga K "BadWord") ∧ PySem.W.exmOne K (.ref (He.ga K "BadWord")) (.ref (He.ga K "ReadError")) = some true ∧ PySem.W.kitOne K (.ref (He.ga K "BadWord")) (.ref (He.ga K "BadWord")) = some true ∧
      ∀ base : Heap, K.In base → base.Ns mainGlobals mg → (∀ p ∈ tf.map (He.cT K), LamX.TabB base mg p.1 p.2) → FnG P w K mg base (L2.CX P w) 7 f fd ["_law_script"] (sp_law9 (TT K) K (He.ga K)) := by
  obtain ⟨x1, x2⟩ := and2 c.more
  obtain ⟨x2, x3⟩ := and2 x2
  have x3 := of_decide_eq_true x3
  have B : Blt mg := ⟨He.free_ok X G (c.t.d.fact 18 (f := .free "abs") rfl), He.free_ok X G (c.t.d.fact 19 (f := .free "all") rfl), He.free_ok X G (c.t.d.fact 20 (f := .free "any") rfl), He.free_ok X G (c.t.d.fact 21 (f := .free "bool") rfl), He.free_ok X G (c.t.d.fact 22 (f := .free "dict") rfl), He.free_ok X G (c.t.d.fact 23 (f := .free "enumerate") rfl), He.free_ok X G (c.t.d.fact 24 (f := .free "int") rfl), He.free_ok X G (c.t.d.fact 25 (f := .free "isinstance") rfl), He.free_ok X G (c.t.d.fact 26 (f := .free "len") rfl), He.free_ok X G (c.t.d.fact 27 (f := .free "list") rfl), He.free_ok X G (c.t.d.fact 28 (f := .free "max") rfl), He.free_ok X G (c.t.d.fact 29 (f := .free "min") rfl), He.free_ok X G (c.t.d.fact 30 (f := .free "range") rfl), He.free_ok X G (c.t.d.fact 31 (f := .free "repr") rfl), He.free_ok X G (c.t.d.fact 32 (f := .free "set") rfl), He.free_ok X G (c.t.d.fact 33 (f := .free "sorted") rfl), He.free_ok X G (c.t.d.fact 34 (f := .free "str") rfl), He.free_ok X G (c.t.d.fact 35 (f := .free "sum") rfl), He.free_ok X G (c.t.d.fact 36 (f := .free "tuple") rfl), He.free_ok X G (c.t.d.fact 37 (f := .free "zip") rfl)⟩
  have gW := He.glo_ok X G (c.t.d.fact 38 (f := .glo "BadWord") rfl)
  have gR := He.glo_ok X G (c.t.d.fact 39 (f := .glo "ReadError") rfl)
  have x_BadWord : ExcIs K mg "BadWord" (He.ga K "BadWord") := ⟨gW, He.exc_ok (c.t.d.fact 40 (f := .exc "BadWord") rfl)⟩
  have xm := He.exm_ok (c.t.d.fact 41 (f := .exm "BadWord" "ReadError" true) rfl)
  have g_LETTERS : ∃ t, mg "LETTERS" = some (.str "acgt" t) := He.str_ok X G (c.t.d.fact 42 (f := .str "LETTERS" "acgt") rfl)
  obtain ⟨fd_is_line, D_is_line⟩ := c.t.d.def_ 0 (d := d_is_line) rfl
  obtain ⟨fd_is_word, D_is_word⟩ := c.t.d.def_ 1 (d := d_is_word) rfl
  obtain ⟨fd_need_word, D_need_word⟩ := c.t.d.def_ 2 (d := d_need_word) rfl
  obtain ⟨fd_sorted_ends, D_sorted_ends⟩ := c.t.d.def_ 3 (d := d_sorted_ends) rfl
  obtain ⟨fd_order, D_order⟩ := c.t.d.def_ 4 (d := d_order) rfl
  obtain ⟨fd_column, D_column⟩ := c.t.d.def_ 5 (d := d_column) rfl
  obtain ⟨fd__law_begun, D__law_begun⟩ := c.t.d.def_ 6 (d := d__law_begun) rfl
  obtain ⟨fd__law_mixed, D__law_mixed⟩ := c.t.d.def_ 7 (d := d__law_mixed) rfl
  obtain ⟨fd__law_take, D__law_take⟩ := c.t.d.def_ 8 (d := d__law_take) rfl
  obtain ⟨fd__law_pick, D__law_pick⟩ := c.t.d.def_ 9 (d := d__law_pick) rfl
  obtain ⟨fd__law_caught, D__law_caught⟩ := c.t.d.def_ 10 (d := d__law_caught) rfl
  obtain ⟨fd__law_signs, D__law_signs⟩ := c.t.d.def_ 11 (d := d__law_signs) rfl
  obtain ⟨fd__law_letters, D__law_letters⟩ := c.t.d.def_ 12 (d := d__law_letters) rfl
  obtain ⟨fd__law_text, D__law_text⟩ := c.t.d.def_ 13 (d := d__law_text) rfl
  obtain ⟨fd__law_odd, D__law_odd⟩ := c.t.d.def_ 14 (d := d__law_odd) rfl
  obtain ⟨fd__law_order, D__law_order⟩ := c.t.d.def_ 15 (d := d__law_order) rfl
  obtain ⟨fd__law_column, D__law_column⟩ := c.t.d.def_ 16 (d := d__law_column) rfl
  obtain ⟨fd_law, D_law⟩ := c.t.d.def_ 17 (d := d_law) rfl
  have g_is_line := He.glo_ok X G (c.t.d.fact 0 (f := .glo "is_line") rfl)
  have g_is_word := He.glo_ok X G (c.t.d.fact 1 (f := .glo "is_word") rfl)
  have g_need_word := He.glo_ok X G (c.t.d.fact 2 (f := .glo "need_word") rfl)
  have g_sorted_ends := He.glo_ok X G (c.t.d.fact 3 (f := .glo "sorted_ends") rfl)
  have g_order := He.glo_ok X G (c.t.d.fact 4 (f := .glo "order") rfl)
  have g_column := He.glo_ok X G (c.t.d.fact 5 (f := .glo "column") rfl)
  have g__law_begun := He.glo_ok X G (c.t.d.fact 6 (f := .glo "_law_begun") rfl)
  have g__law_mixed := He.glo_ok X G (c.t.d.fact 7 (f := .glo "_law_mixed") rfl)
  have g__law_take := He.glo_ok X G (c.t.d.fact 8 (f := .glo "_law_take") rfl)
  have g__law_pick := He.glo_ok X G (c.t.d.fact 9 (f := .glo "_law_pick") rfl)
  have g__law_caught := He.glo_ok X G (c.t.d.fact 10 (f := .glo "_law_caught") rfl)
  have g__law_signs := He.glo_ok X G (c.t.d.fact 11 (f := .glo "_law_signs") rfl)
  have g__law_letters := He.glo_ok X G (c.t.d.fact 12 (f := .glo "_law_letters") rfl)
  have g__law_text := He.glo_ok X G (c.t.d.fact 13 (f := .glo "_law_text") rfl)
  have g__law_odd := He.glo_ok X G (c.t.d.fact 14 (f := .glo "_law_odd") rfl)
  have g__law_order := He.glo_ok X G (c.t.d.fact 15 (f := .glo "_law_order") rfl)
  have g__law_column := He.glo_ok X G (c.t.d.fact 16 (f := .glo "_law_column") rfl)
  have g_law := He.glo_ok X G (c.t.d.fact 17 (f := .glo "law") rfl)
  have e := hfa.symm.trans g_law
  cases e
  have b := FunD.bindsA (ps := ["_law_script"]) D_law fun _ _ _ _ _ _ us hl => match us, hl with | [_], _ => rfl
  refine ⟨fd_law, fun s v => b s [v] rfl, excCB_ok x1, xm, of_decide_eq_true x2, fun base _ _ TB => ?_⟩
  have TB1 := TB (He.cT K ("sorted_ends", none)) (List.mem_cons_self ..)
  have TB2 := TB (He.cT K ("law", none)) (List.mem_cons_of_mem _ (List.mem_cons_self ..))
  have u1 : ∀ p ∈ TT K, p.1 = (He.cT K ("sorted_ends", none)).2 → p.2 = qSE := fun p hp e => by
    rcases List.mem_cons.mp hp with z | z
    · rw [z]
    · rcases List.mem_cons.mp z with z | z
      · rw [z] at e; exact absurd e.symm x3
      · cases z
  have u2 : ∀ p ∈ TT K, p.1 = (He.cT K ("law", none)).2 → p.2 = qLaw := fun p hp e => by
    rcases List.mem_cons.mp hp with z | z
    · rw [z] at e; exact absurd e x3
    · rcases List.mem_cons.mp z with z | z
      · rw [z]
      · cases z
  have F_is_line : FnIs P w K mg base 1 "is_line" ["value"] (sp_is_line K (He.ga K)) := ⟨_, fd_is_line, lk_is_line B g_LETTERS D_is_line, g_is_line, D_is_line.kp, D_is_line.bindsN fun _ _ _ _ _ _ us hl => match us, hl with | [_], _ => rfl⟩
  have F__law_begun : FnIs P w K mg base 1 "_law_begun" ["_law_script"] (sp__law_begun K (He.ga K)) := ⟨_, fd__law_begun, lk__law_begun B D__law_begun, g__law_begun, D__law_begun.kp, D__law_begun.bindsN fun _ _ _ _ _ _ us hl => match us, hl with | [_], _ => rfl⟩
  have F__law_mixed : FnIs P w K mg base 1 "_law_mixed" ["_law_draw"] (sp__law_mixed K (He.ga K)) := ⟨_, fd__law_mixed, lk__law_mixed B D__law_mixed, g__law_mixed, D__law_mixed.kp, D__law_mixed.bindsN fun _ _ _ _ _ _ us hl => match us, hl with | [_], _ => rfl⟩
  have F__law_order : FnIs P w K mg base 1 "_law_order" ["_law_text_here"] (sp__law_order K (He.ga K)) := ⟨_, fd__law_order, lk__law_order B D__law_order, g__law_order, D__law_order.kp, D__law_order.bindsN fun _ _ _ _ _ _ us hl => match us, hl with | [_], _ => rfl⟩
  have F_is_word : FnIs P w K mg base 2 "is_word" ["value"] (sp_is_word K (He.ga K)) := ⟨_, fd_is_word, lk_is_word B F_is_line D_is_word, g_is_word, D_is_word.kp, D_is_word.bindsN fun _ _ _ _ _ _ us hl => match us, hl with | [_], _ => rfl⟩
  have F__law_take : FnIs P w K mg base 2 "_law_take" ["_law_draw", "_law_total"] (sp__law_take K (He.ga K)) := ⟨_, fd__law_take, lk__law_take B F__law_mixed D__law_take, g__law_take, D__law_take.kp, D__law_take.bindsN fun _ _ _ _ _ _ us hl => match us, hl with | [_, _], _ => rfl⟩
  have F__law_column : FnIs P w K mg base 2 "_law_column" ["_law_text_here"] (sp__law_column K (He.ga K)) := ⟨_, fd__law_column, lk__law_column B F__law_order D__law_column, g__law_column, D__law_column.kp, D__law_column.bindsN fun _ _ _ _ _ _ us hl => match us, hl with | [_], _ => rfl⟩
  have F_need_word : FnIs P w K mg base 3 "need_word" ["value"] (sp_need_word K (He.ga K)) := ⟨_, fd_need_word, lk_need_word B F_is_word x_BadWord D_need_word, g_need_word, D_need_word.kp, D_need_word.bindsN fun _ _ _ _ _ _ us hl => match us, hl with | [_], _ => rfl⟩
  have F__law_pick : FnIs P w K mg base 3 "_law_pick" ["_law_draw", "_law_some"] (sp__law_pick K (He.ga K)) := ⟨_, fd__law_pick, lk__law_pick B F__law_take D__law_pick, g__law_pick, D__law_pick.kp, D__law_pick.bindsN fun _ _ _ _ _ _ us hl => match us, hl with | [_, _], _ => rfl⟩
  have F__law_signs : FnIs P w K mg base 4 "_law_signs" ["_law_draw"] (sp__law_signs K (He.ga K)) := ⟨_, fd__law_signs, lk__law_signs B F__law_pick D__law_signs, g__law_signs, D__law_signs.kp, D__law_signs.bindsN fun _ _ _ _ _ _ us hl => match us, hl with | [_], _ => rfl⟩
  have F__law_letters : FnIs P w K mg base 4 "_law_letters" ["_law_draw", "_law_signs_here", "_law_many"] (sp__law_letters K (He.ga K)) := ⟨_, fd__law_letters, lk__law_letters B F__law_pick D__law_letters, g__law_letters, D__law_letters.kp, D__law_letters.bindsN fun _ _ _ _ _ _ us hl => match us, hl with | [_, _, _], _ => rfl⟩
  have F__law_odd : FnIs P w K mg base 4 "_law_odd" ["_law_draw"] (sp__law_odd K (He.ga K)) := ⟨_, fd__law_odd, lk__law_odd B F__law_pick D__law_odd, g__law_odd, D__law_odd.kp, D__law_odd.bindsN fun _ _ _ _ _ _ us hl => match us, hl with | [_], _ => rfl⟩
  have F__law_text : FnIs P w K mg base 5 "_law_text" ["_law_draw", "_law_most"] (sp__law_text K (He.ga K)) := ⟨_, fd__law_text, lk__law_text B F__law_take F__law_signs F__law_letters F__law_pick D__law_text, g__law_text, D__law_text.kp, D__law_text.bindsN fun _ _ _ _ _ _ us hl => match us, hl with | [_, _], _ => rfl⟩
  have F_sorted_ends : FnIs P w K mg base 1 "sorted_ends" ["word"] (sp_sorted_ends (TT K) K (He.ga K)) := ⟨_, fd_sorted_ends, lk_sorted_ends B D_sorted_ends (code_of (p := ("sorted_ends", none)) D_sorted_ends) TB1 (List.mem_cons_self ..) u1, g_sorted_ends, D_sorted_ends.kp, D_sorted_ends.bindsN fun _ _ _ _ _ _ us hl => match us, hl with | [_], _ => rfl⟩
  have F_order : FnIs P w K mg base 4 "order" ["word"] (sp_order (TT K) K (He.ga K)) := ⟨_, fd_order, lk_order B F_need_word F_sorted_ends D_order, g_order, D_order.kp, D_order.bindsN fun _ _ _ _ _ _ us hl => match us, hl with | [_], _ => rfl⟩
  have K_order : FnKw P w K mg base 4 "order" ["word"] (sp_order (TT K) K (He.ga K)) 0 ["word"] [0] := ⟨_, fd_order, lk_order B F_need_word F_sorted_ends D_order, g_order, D_order.kp, kb_of D_order 0 ["word"] [0] fun _ _ _ _ _ _ us ws hl hw => match us, ws, hl, hw with | [], [_], _, _ => rfl⟩
  have A_order : At P w K mg base 4 "order" ["word"] (sp_order (TT K) K (He.ga K)) (He.ga K "order") := ⟨⟨fd_order, lk_order B F_need_word F_sorted_ends D_order, D_order.kp, D_order.bindsN fun _ _ _ _ _ _ us hl => match us, hl with | [_], _ => rfl⟩, g_order⟩
  have F_column : FnIs P w K mg base 4 "column" ["word"] (sp_column (TT K) K (He.ga K)) := ⟨_, fd_column, lk_column B F_need_word F_sorted_ends D_column, g_column, D_column.kp, D_column.bindsN fun _ _ _ _ _ _ us hl => match us, hl with | [_], _ => rfl⟩
  have K_column : FnKw P w K mg base 4 "column" ["word"] (sp_column (TT K) K (He.ga K)) 0 ["word"] [0] := ⟨_, fd_column, lk_column B F_need_word F_sorted_ends D_column, g_column, D_column.kp, kb_of D_column 0 ["word"] [0] fun _ _ _ _ _ _ us ws hl hw => match us, ws, hl, hw with | [], [_], _, _ => rfl⟩
  have A_column : At P w K mg base 4 "column" ["word"] (sp_column (TT K) K (He.ga K)) (He.ga K "column") := ⟨⟨fd_column, lk_column B F_need_word F_sorted_ends D_column, D_column.kp, D_column.bindsN fun _ _ _ _ _ _ us hl => match us, hl with | [_], _ => rfl⟩, g_column⟩
  exact lk_law9 B F__law_begun F__law_text F__law_odd F__law_order F__law_column F_order F_column K_order K_column A_order A_column gR gW g__law_caught D__law_caught D_law (code_of (p := ("law", none)) D_law) TB2 (List.mem_cons_of_mem _ (List.mem_cons_self ..)) u2
end Z
open PySem PySem.W PySem.Calls PyProof.Rows
theorem PySem.Challenge.cw_readhouse_k09_orders_and_columns_holds : PySem.Challenge.rw_readhouse_k09_orders_and_columns.Holds := by
  w_on; o_law
  refine HandSHeadRun.head_any (r := OpenLaw.row PySem.Challenge.rw_readhouse_k09_orders_and_columns) (q := view (OpenLaw.row PySem.Challenge.rw_readhouse_k09_orders_and_columns).prog [24]) (H := Z.hk) (ob := Z.ob) (M := 3000) (loose := Z.loose) (d := HandSHeadRun.topDef (OpenLaw.row PySem.Challenge.rw_readhouse_k09_orders_and_columns).prog 24) (kwd := []) Z.ob_eq
    (by kernel_rfl) (fun s => by kernel_rfl) Z.run (by kernel_rfl) (by kernel_rfl) (by kernel_rfl) (by rfl) (by first | assumption | decide +kernel) (by decide +kernel) ⟨rfl, rfl, rfl, rfl, rfl, by decide +kernel⟩ ?hw ?hc
  case hw => w_witness2
  case hc =>
    refine Z.walkG (l := PySem.Challenge.rw_readhouse_k09_orders_and_columns) (n := 63) (k := 7) (x := "_law_script") (C := fun w => L2.CX (PySem.Challenge.rw_readhouse_k09_orders_and_columns).prog w) rfl (by decide) (by kernel_rfl) ⟨rfl, by decide, by decide⟩ ?F (fun _ _ _ _ _ ⟨_, _, _, _, _, _, _, _, _, _, _, _, z⟩ => z)
    intro w mg fa h Y G hmg0
    obtain ⟨K, KX, c⟩ := Y
    have hmg : mg ("law" : PySem.Str) = some (.ref fa) := by
      have e : (HandSHeadRun.topDef (OpenLaw.row PySem.Challenge.rw_readhouse_k09_orders_and_columns).prog 24).name = ("law" : PySem.Str) := by kernel_rfl
      rw [← e]
      exact hmg0
    obtain ⟨fd, hb, x1, x2, x3, hF⟩ := Z.facts9 (P := (PySem.Challenge.rw_readhouse_k09_orders_and_columns).prog) (w := w) KX G hmg c
    refine ⟨K, fd, Z.tf.map (He.cT K), Z.sp_law9 (Z.TT K) K (He.ga K), KX, fun p hp => ?_, fun p hp => ?_, fun p hp => ?_, hb, fun H a ns hl hT hS => ⟨a, ns, rfl, hS, hl, fun p hp => ?_, x1, x2, x3, fun _ => rfl⟩, hF⟩
    · obtain ⟨q, hq, rfl⟩ := List.mem_map.mp hp; exact c.empty q hq
    · obtain ⟨q, hq, rfl⟩ := List.mem_map.mp hp; exact c.out q hq
    · obtain ⟨q, hq, rfl⟩ := List.mem_map.mp hp; exact codeHd_of_K KX (c.hd q hq)
    · rcases List.mem_cons.mp hp with z | z
      · rw [z]; exact LamX.TabS.nil (hT (He.cT K ("sorted_ends", none)) (List.mem_cons_self ..))
      · rcases List.mem_cons.mp z with z | z
        · rw [z]; exact LamX.TabS.nil (hT (He.cT K ("law", none)) (List.mem_cons_of_mem _ (List.mem_cons_self ..)))
        · cases z

