import PyProof.Rows.All
import Wide.All
import OpenK.AllK
import Wide.FinOn
import HandS.ForMost
import HandS.Exc
import HandS.ExcOwn
import HandS.WordsExc
import HandS.More
import HandS.Conv
import HandS.Walk
import HandS.DictComp
import HandS.IsInst
import KE.SortData
import KE.DataMinMax
import HandS.HeadHook1
import HandS.HeadHook2
import HandS.Style
import HandS.NoneIn
import KE.KStateDown
import HandS.Ends
import HandS.HeadEnd
import HandS.Defaults
import PyProof.ReprRoads
import HandS.Lambda
import HandS.EndBits
import HandS.EndTab
import HandS.HeadWalk
import HandS.ExcIs
import KE.KRevSl
import PyProof.SliceStr2
import HandS.TupAny
import KE.SortKeyHeap
import KE.KLam
import HandS.ExcValue
import HandS.HeadHook3
import HandS.HeadHook4
import HandS.Head2
import KE.KDictZip
import KE.GoesMore
import KE.GoesZip
import KE.GoesEnum
import HandS.Words
import HandS.Head0
import HandS.Head1
import PySem.Challenge.RW_readhouse_k04_turns_and_pieces_of_rings
set_option Elab.async false
set_option linter.all false
set_option maxRecDepth 100000
set_option maxHeartbeats 4000000
namespace Z
open PySem PySem.Spec PyProof.Rows L2

def dicO : HO → Bool
  | .dK _ => true
  | .dT _ => true
  | _ => false
/-- all of G stands in G' -/
def Le (G G' : Hp) : Prop := ∀ a o, G a = some o → G' a = some o
theorem Le.refl (G : Hp) : Le G G := fun _ _ h => h
theorem Le.trans {G G1 G2 : Hp} (a : Le G G1) (b : Le G1 G2) : Le G G2 := fun x o h => b x o (a x o h)
/-- G stands in H, dicts perhaps locked -/
def In (G H : Hp) : Prop := ∀ a o, G a = some o → H a = some o ∨ (dicO o = true ∧ ∃ ob, H a = some (.frz ob o))
theorem In.le {G G1 H : Hp} (a : Le G G1) (b : In G1 H) : In G H := fun x o h => b x o (a x o h)
theorem In.ge {G H H1 : Hp} (a : In G H) (b : Le H H1) : In G H1 := fun x o h => by
  rcases a x o h with e | ⟨d, ob, e⟩
  · exact .inl (b x _ e)
  · exact .inr ⟨d, ob, b x _ e⟩
theorem In.ne {G H : Hp} (i : In G H) {a : Addr} {o : HO} (h : G a = some o) : H a ≠ none := by
  rcases i a o h with e | ⟨_, ob, e⟩ <;> rw [e] <;> intro q <;> cases q
theorem In.no {G H : Hp} (i : In G H) {a : Addr} (h : H a = none) : G a = none := by
  cases q : G a with
  | none => rfl
  | some o => exact absurd h (i.ne q)
theorem In.ex {G H : Hp} (i : In G H) {a : Addr} {o : HO} (h : G a = some o) (hd : dicO o = false) : H a = some o := by
  rcases i a o h with e | ⟨d, _⟩
  · exact e
  · rw [hd] at d; cases d
theorem In.rd {G H : Hp} (i : In G H) {a : Addr} {o : HO} (h : G a = some o) : Rd H a o := by
  rcases i a o h with e | ⟨_, e⟩
  · exact .inl e
  · exact .inr e
theorem Le.no {G H : Hp} (i : Le G H) {a : Addr} (h : H a = none) : G a = none := by
  cases q : G a with
  | none => rfl
  | some o => rw [i a o q] at h; cases h
/-- a step that lays new things alone -/
structure Up (G H G2 H2 : Hp) : Prop where
  g : Le G G2
  i : In G2 H2
  h : Le H H2
  n : ∀ a o, G2 a = some o → G a = some o ∨ H a = none
theorem Up.refl {G H : Hp} (i : In G H) : Up G H G H := ⟨Le.refl _, i, Le.refl _, fun _ _ e => .inl e⟩
theorem Up.trans {G H G2 H2 G3 H3 : Hp} (u : Up G H G2 H2) (w : Up G2 H2 G3 H3) : Up G H G3 H3 :=
  ⟨u.g.trans w.g, w.i, u.h.trans w.h, fun a o e => by
    rcases w.n a o e with q | q
    · exact u.n a o q
    · exact .inr (u.h.no q)⟩
theorem Up.new {G H : Hp} {p : Addr} {o : HO} (i : In G H) (hp : H p = none) : Up G H (upd G p o) (upd H p o) := by
  refine ⟨fun a u e => ?_, fun a u e => ?_, fun a u e => ?_, fun a u e => ?_⟩
  · have ne : a ≠ p := fun z => by subst z; rw [i.no hp] at e; cases e
    rw [upd_ne ne]; exact e
  · by_cases ha : a = p
    · subst ha; rw [upd_same] at e ⊢; exact .inl e
    · rw [upd_ne ha] at e ⊢; exact i a u e
  · have ne : a ≠ p := fun z => by subst z; rw [hp] at e; cases e
    rw [upd_ne ne]; exact e
  · by_cases ha : a = p
    · subst ha; exact .inr hp
    · rw [upd_ne ha] at e; exact .inl e
/-- a new thing that is not looked at -/
theorem Up.hid {G H : Hp} {p : Addr} {o : HO} (i : In G H) (hp : H p = none) : Up G H G (upd H p o) := by
  have l : Le H (upd H p o) := fun a u e => by
    have ne : a ≠ p := fun z => by subst z; rw [hp] at e; cases e
    rw [upd_ne ne]; exact e
  exact ⟨Le.refl _, i.ge l, l, fun _ _ e => .inl e⟩
/-- what is hidden stays hidden -/
theorem Up.hide {G H G2 H2 : Hp} (u : Up G H G2 H2) {m : Addr} (h : H m ≠ none) (hg : G m = none) : G2 m = none := by
  cases q : G2 m with
  | none => rfl
  | some o =>
    rcases u.n m o q with e | e
    · rw [hg] at e; cases e
    · exact absurd e h
theorem In.mut {G H : Hp} (i : In G H) {m : Addr} {o : HO} (hg : G m = none) : In G (upd H m o) := fun a u e => by
  have ne : a ≠ m := fun z => by subst z; rw [hg] at e; cases e
  rw [upd_ne ne]; exact i a u e

/-! ### what a value tells -/
def kD : Key → PyData
  | .inl i => .int i
  | .inr x => .str x
mutual
inductive Rp (K : PySem.W.Frag) (G : Hp) : V → PyData → Prop
  | non : Rp K G .non .none
  | bl (b : Bool) : Rp K G (.bl b) (.bool b)
  | int (i : Int) : Rp K G (.int i) (.int i)
  | str (x : Str) : Rp K G (.str x) (.str x)
  | lst {a : Addr} {xs : List V} {ds : List PyData} : G a = some (.lst xs) → RpA K G xs ds → Rp K G (.ref a) (.list ds)
  | tup {a : Addr} {xs : List V} {ds : List PyData} : SqT K G a xs → RpA K G xs ds → Rp K G (.ref a) (.tuple ds)
  | dic {a : Addr} {kvs : List (Key × V)} {ds : List (PyData × PyData)} : G a = some (.dK kvs) → RpD K G kvs ds → Rp K G (.ref a) (.dict ds)
inductive RpA (K : PySem.W.Frag) (G : Hp) : List V → List PyData → Prop
  | nil : RpA K G [] []
  | cons {v : V} {vs : List V} {d : PyData} {ds : List PyData} : Rp K G v d → RpA K G vs ds → RpA K G (v :: vs) (d :: ds)
inductive RpD (K : PySem.W.Frag) (G : Hp) : List (Key × V) → List (PyData × PyData) → Prop
  | nil : RpD K G [] []
  | cons {k : Key} {v : V} {vs : List (Key × V)} {d : PyData} {ds : List (PyData × PyData)} : Rp K G v d → RpD K G vs ds → RpD K G ((k, v) :: vs) ((kD k, d) :: ds)
end
theorem le_t {K : PySem.W.Frag} {G G' : Hp} {a : Addr} {xs : List V} (e : Le G G') (h : SqT K G a xs) : SqT K G' a xs := by
  rcases h with h | h
  · rcases h with h | ⟨o, h⟩
    · exact .inl (.inl (e _ _ h))
    · exact .inl (.inr ⟨o, e _ _ h⟩)
  · exact .inr h
section
variable {K : PySem.W.Frag} {G G' : Hp}
mutual
theorem Rp.mono (l : Le G G') : ∀ {v : V} {d : PyData}, Rp K G v d → Rp K G' v d
  | _, _, .non => .non
  | _, _, .bl b => .bl b
  | _, _, .int i => .int i
  | _, _, .str x => .str x
  | _, _, .lst h a => .lst (l _ _ h) (RpA.mono l a)
  | _, _, .tup h a => .tup (le_t l h) (RpA.mono l a)
  | _, _, .dic h a => .dic (l _ _ h) (RpD.mono l a)
theorem RpA.mono (l : Le G G') : ∀ {v : List V} {d : List PyData}, RpA K G v d → RpA K G' v d
  | _, _, .nil => .nil
  | _, _, .cons h a => .cons (Rp.mono l h) (RpA.mono l a)
theorem RpD.mono (l : Le G G') : ∀ {v : List (Key × V)} {d : List (PyData × PyData)}, RpD K G v d → RpD K G' v d
  | _, _, .nil => .nil
  | _, _, .cons h a => .cons (Rp.mono l h) (RpD.mono l a)
end
end
end Z

namespace Z
open PySem PySem.Spec PyProof.Rows L2

/-- what is wanted of an evaluation's end -/
abbrev Ret (K : PySem.W.Frag) (G H : Hp) (Q : VK) (d : PyData) : Prop := ∀ v G2 H2, Up G H G2 H2 → Rp K G2 v d → Q v H2
def EvP (t : TE) (σ : L2.St) (G : Hp) (P : Hp → V → Prop) : Prop :=
  ∀ G1 H1, Le G G1 → In G1 H1 → ∀ Q : VK, (∀ v G2 H2, Up G1 H1 G2 H2 → P G2 v → Q v H2) → t σ H1 Q
abbrev Ev (K : PySem.W.Frag) (t : TE) (σ : L2.St) (G : Hp) (d : PyData) : Prop := EvP t σ G fun G v => Rp K G v d
def EvT (t : TT) (σ : L2.St) (G : Hp) (b : Bool) : Prop :=
  ∀ G1 H1, Le G G1 → In G1 H1 → ∀ Q : Bool → Hp → Prop, (∀ G2 H2, Up G1 H1 G2 H2 → Q b H2) → t σ H1 Q
def EvA (K : PySem.W.Frag) (t : TA) (σ : L2.St) (G : Hp) (ds : List PyData) : Prop :=
  ∀ G1 H1, Le G G1 → In G1 H1 → ∀ Q : List V → Hp → Prop, (∀ vs G2 H2, Up G1 H1 G2 H2 → RpA K G2 vs ds → Q vs H2) → t σ H1 Q
def EvO (t : TO) (σ : L2.St) (G : Hp) (o : Option Int) : Prop :=
  ∀ G1 H1, Le G G1 → In G1 H1 → ∀ Q : Option Int → Hp → Prop, (∀ G2 H2, Up G1 H1 G2 H2 → Q o H2) → t σ H1 Q
/-- operators, calls, methods by data -/
def OpV (K : PySem.W.Frag) (r : R2) (a b d : PyData) : Prop := ∀ G H x y, In G H → Rp K G x a → Rp K G y b → ∀ Q, Ret K G H Q d → r x y H Q
def UnV (K : PySem.W.Frag) (r : V → Hp → VK → Prop) (a d : PyData) : Prop := ∀ G H x, In G H → Rp K G x a → ∀ Q, Ret K G H Q d → r x H Q
def CaV (K : PySem.W.Frag) (r : List V → Hp → VK → Prop) (ds : List PyData) (d : PyData) : Prop := ∀ G H vs, In G H → RpA K G vs ds → ∀ Q, Ret K G H Q d → r vs H Q
def MtV (K : PySem.W.Frag) (r : V → List V → Hp → VK → Prop) (a : PyData) (ds : List PyData) (d : PyData) : Prop := ∀ G H x vs, In G H → Rp K G x a → RpA K G vs ds → ∀ Q, Ret K G H Q d → r x vs H Q
section
variable {K : PySem.W.Frag} {σ : L2.St} {G G' : Hp} {ta tb te tc : TE} {t u : TT} {a b c d : PyData} {r r' : R2} {P : Hp → V → Prop}
theorem EvP.mono (e : Le G G') (h : EvP te σ G P) : EvP te σ G' P := fun G1 H1 l i Q q => h G1 H1 (e.trans l) i Q q
theorem EvT.mono {k : Bool} (e : Le G G') (h : EvT t σ G k) : EvT t σ G' k := fun G1 H1 l i Q q => h G1 H1 (e.trans l) i Q q
theorem EvP.imp {P' : Hp → V → Prop} (h : EvP te σ G P) (f : ∀ G v, P G v → P' G v) : EvP te σ G P' := fun G1 H1 l i Q q => h G1 H1 l i Q fun v G2 H2 w p => q v G2 H2 w (f _ _ p)
theorem ev_var {i : Nat} {v : V} (h : σ[i]? = some (some v)) (p : Rp K G v d) : Ev K (tVar i) σ G d := fun G1 H1 l i Q q => ⟨v, h, q v G1 H1 (Up.refl i) (p.mono l)⟩
theorem ev_int {i : Int} : Ev K (tC (.int i)) σ G (.int i) := fun G1 H1 l i Q q => q _ G1 H1 (Up.refl i) (.int _)
theorem ev_str {x : Str} : Ev K (tC (.str x)) σ G (.str x) := fun G1 H1 l i Q q => q _ G1 H1 (Up.refl i) (.str _)
theorem ev_bl {x : Bool} : Ev K (tC (.bl x)) σ G (.bool x) := fun G1 H1 l i Q q => q _ G1 H1 (Up.refl i) (.bl _)
theorem ev_non : Ev K (tC .non) σ G .none := fun G1 H1 l i Q q => q _ G1 H1 (Up.refl i) .non
theorem ev_op (ha : Ev K ta σ G a) (hb : Ev K tb σ G b) (hr : OpV K r a b d) : Ev K (tOp r ta tb) σ G d := fun G1 H1 l i Q q =>
  ha G1 H1 l i _ fun x G2 H2 u2 p2 => hb G2 H2 (l.trans u2.g) u2.i _ fun y G3 H3 u3 p3 =>
    hr G3 H3 x y u3.i (p2.mono u3.g) p3 Q fun v G4 H4 u4 p4 => q v G4 H4 ((u2.trans u3).trans u4) p4
theorem ev_un {r : V → Hp → VK → Prop} (ha : Ev K ta σ G a) (hr : UnV K r a d) : Ev K (tUn r ta) σ G d := fun G1 H1 l i Q q =>
  ha G1 H1 l i _ fun x G2 H2 u2 p2 => hr G2 H2 x u2.i p2 Q fun v G4 H4 u4 p4 => q v G4 H4 (u2.trans u4) p4
theorem ea_nil : EvA K tNil σ G [] := fun G1 H1 l i Q q => q [] G1 H1 (Up.refl i) .nil
theorem ea_cons {tr : TA} {ds : List PyData} (ha : Ev K ta σ G a) (hr : EvA K tr σ G ds) : EvA K (tCons ta tr) σ G (a :: ds) := fun G1 H1 l i Q q =>
  ha G1 H1 l i _ fun x G2 H2 u2 p2 => hr G2 H2 (l.trans u2.g) u2.i _ fun vs G3 H3 u3 p3 => q (x :: vs) G3 H3 (u2.trans u3) (.cons (p2.mono u3.g) p3)
theorem ev_cb {r : List V → Hp → VK → Prop} {tr : TA} {ds : List PyData} (ha : EvA K tr σ G ds) (hr : CaV K r ds d) : Ev K (tCB r tr) σ G d := fun G1 H1 l i Q q =>
  ha G1 H1 l i _ fun vs G2 H2 u2 p2 => hr G2 H2 vs u2.i p2 Q fun v G4 H4 u4 p4 => q v G4 H4 (u2.trans u4) p4
/-- a call by a promise -/
def SpV (K : PySem.W.Frag) (sp : Sp) (E : XK) (ds : List PyData) (d : PyData) : Prop := ∀ G H vs, In G H → RpA K G vs ds → ∀ Q, Ret K G H Q d → sp vs H Q E
theorem ev_call {sp : Sp} {E : XK} {tr : TA} {ds : List PyData} (ha : EvA K tr σ G ds) (hr : SpV K sp E ds d) : Ev K (tCall sp [] E tr) σ G d := fun G1 H1 l i Q q =>
  ha G1 H1 l i _ fun vs G2 H2 u2 p2 => by
    show sp (vs ++ []) H2 Q E
    rw [List.append_nil]
    exact hr G2 H2 vs u2.i p2 Q fun v G4 H4 u4 p4 => q v G4 H4 (u2.trans u4) p4
theorem ev_bm {r : V → List V → Hp → VK → Prop} {T : String} {tr : TA} {ds : List PyData} (ho : Ev K te σ G a) (ht : ∀ G H x, In G H → Rp K G x a → tyV K T x H) (ha : EvA K tr σ G ds) (hr : MtV K r a ds d) : Ev K (tBM K T r te tr) σ G d := fun G1 H1 l i Q q =>
  ho G1 H1 l i _ fun x G2 H2 u2 p2 => ⟨ht G2 H2 x u2.i p2, ha G2 H2 (l.trans u2.g) u2.i _ fun vs G3 H3 u3 p3 => hr G3 H3 x vs u3.i (p2.mono u3.g) p3 Q fun v G4 H4 u4 p4 => q v G4 H4 ((u2.trans u3).trans u4) p4⟩
theorem ev_bm0 {r : V → List V → Hp → VK → Prop} {T : String} (ho : Ev K te σ G a) (ht : ∀ G H x, In G H → Rp K G x a → tyV K T x H) (hr : MtV K r a [] d) : Ev K (tBM0 K T r te) σ G d := fun G1 H1 l i Q q =>
  ho G1 H1 l i _ fun x G2 H2 u2 p2 => ⟨ht G2 H2 x u2.i p2, hr G2 H2 x [] u2.i p2 .nil Q fun v G4 H4 u4 p4 => q v G4 H4 (u2.trans u4) p4⟩
/-! tests -/
theorem rp_bool {v : V} {k : Bool} (h : Rp K G v (.bool k)) : v = .bl k := by cases h; rfl
theorem et_test {k : Bool} (h : Ev K te σ G (.bool k)) : EvT (tTest te) σ G k := fun G1 H1 l i Q q => h G1 H1 l i _ fun v G2 H2 u2 p2 => ⟨k, rp_bool p2, q G2 H2 u2⟩
theorem et_B {k : Bool} (h : Ev K te σ G (.bool k)) : EvT (tB te) σ G k := fun G1 H1 l i Q q => h G1 H1 l i _ fun v G2 H2 u2 p2 => ⟨k, rp_bool p2, q G2 H2 u2⟩
theorem et_and {k m : Bool} (h1 : EvT t σ G k) (h2 : k = true → EvT u σ G m) : EvT (tAnd t u) σ G (k && m) := fun G1 H1 l i Q q => h1 G1 H1 l i _ fun G2 H2 u2 => by
  cases k with
  | true =>
    show u σ H2 Q
    exact h2 rfl G2 H2 (l.trans u2.g) u2.i Q fun G3 H3 u3 => q G3 H3 (u2.trans u3)
  | false =>
    show Q false H2
    exact q G2 H2 u2
theorem et_or {k m : Bool} (h1 : EvT t σ G k) (h2 : k = false → EvT u σ G m) : EvT (tOr t u) σ G (k || m) := fun G1 H1 l i Q q => h1 G1 H1 l i _ fun G2 H2 u2 => by
  cases k with
  | true =>
    show Q true H2
    exact q G2 H2 u2
  | false =>
    show u σ H2 Q
    exact h2 rfl G2 H2 (l.trans u2.g) u2.i Q fun G3 H3 u3 => q G3 H3 (u2.trans u3)
theorem et_not {k : Bool} (h : EvT t σ G k) : EvT (tNot t) σ G (!k) := fun G1 H1 l i Q q => h G1 H1 l i _ fun G2 H2 u2 => q G2 H2 u2
theorem ev_and {k : Bool} (h1 : Ev K ta σ G (.bool k)) (h2 : k = true → Ev K tb σ G b) (h3 : k = false → b = .bool false) : Ev K (tAndV ta tb) σ G b := fun G1 H1 l i Q q => h1 G1 H1 l i _ fun v G2 H2 u2 p2 => by
  refine ⟨k, rp_bool p2, ?_⟩
  cases k with
  | true =>
    show tb σ H2 Q
    exact h2 rfl G2 H2 (l.trans u2.g) u2.i Q fun v G3 H3 u3 p3 => q v G3 H3 (u2.trans u3) p3
  | false =>
    show Q (.bl false) H2
    refine q _ G2 H2 u2 ?_
    rw [h3 rfl]
    exact .bl _
theorem ev_andB {k m : Bool} (h1 : Ev K ta σ G (.bool k)) (h2 : k = true → Ev K tb σ G (.bool m)) : Ev K (tAndV ta tb) σ G (.bool (k && m)) :=
  ev_and h1 (fun e => by subst e; exact h2 rfl) (fun e => by subst e; rfl)
theorem ev_orB {k m : Bool} (h1 : Ev K ta σ G (.bool k)) (h2 : k = false → Ev K tb σ G (.bool m)) : Ev K (tOrV ta tb) σ G (.bool (k || m)) := fun G1 H1 l i Q q => h1 G1 H1 l i _ fun v G2 H2 u2 p2 => by
  refine ⟨k, rp_bool p2, ?_⟩
  cases k with
  | true =>
    show Q (.bl true) H2
    exact q _ G2 H2 u2 (.bl _)
  | false =>
    show tb σ H2 Q
    exact h2 rfl G2 H2 (l.trans u2.g) u2.i Q fun v G3 H3 u3 p3 => q v G3 H3 (u2.trans u3) p3
theorem ev_notB {k : Bool} (h : Ev K ta σ G (.bool k)) : Ev K (tNotV ta) σ G (.bool (!k)) := fun G1 H1 l i Q q => h G1 H1 l i _ fun v G2 H2 u2 p2 => ⟨k, rp_bool p2, q _ G2 H2 u2 (.bl _)⟩
theorem ev_if {k : Bool} (h1 : EvT t σ G k) (h2 : k = true → Ev K ta σ G a) (h3 : k = false → Ev K tb σ G b) : Ev K (tIf t ta tb) σ G (if k then a else b) := fun G1 H1 l i Q q => h1 G1 H1 l i _ fun G2 H2 u2 => by
  cases k with
  | true =>
    show ta σ H2 Q
    exact h2 rfl G2 H2 (l.trans u2.g) u2.i Q fun v G3 H3 u3 p3 => q v G3 H3 (u2.trans u3) p3
  | false =>
    show tb σ H2 Q
    exact h3 rfl G2 H2 (l.trans u2.g) u2.i Q fun v G3 H3 u3 p3 => q v G3 H3 (u2.trans u3) p3
theorem ev_chain {k : Bool} {m : Bool} (ha : Ev K ta σ G a) (hb : Ev K tb σ G b) (hc : k = true → Ev K tc σ G c) (hr : OpV K r a b (.bool k)) (hr' : k = true → OpV K r' b c (.bool m)) : Ev K (tChain r r' ta tb tc) σ G (.bool (k && m)) := fun G1 H1 l i Q q =>
  ha G1 H1 l i _ fun x G2 H2 u2 p2 => hb G2 H2 (l.trans u2.g) u2.i _ fun y G3 H3 u3 p3 => hr G3 H3 x y u3.i (p2.mono u3.g) p3 _ fun z G4 H4 u4 p4 => by
    refine ⟨k, rp_bool p4, ?_⟩
    have u24 := (u2.trans u3).trans u4
    cases k with
    | true =>
      show tc σ H4 fun w' H4 => r' y w' H4 Q
      exact hc rfl G4 H4 (l.trans u24.g) u24.i _ fun w G5 H5 u5 p5 => hr' rfl G5 H5 y w u5.i (p3.mono (u4.g.trans u5.g)) p5 Q fun v G6 H6 u6 p6 => q v G6 H6 ((u24.trans u5).trans u6) p6
    | false =>
      show Q (.bl false) H4
      exact q _ G4 H4 u24 (.bl _)
/-! displays -/
theorem RpA.len : ∀ {vs : List V} {ds : List PyData}, RpA K G vs ds → vs.length = ds.length
  | _, _, .nil => rfl
  | _, _, .cons _ a => by rw [List.length_cons, List.length_cons, RpA.len a]
theorem ev_lst {tr : TA} {ds : List PyData} (ha : EvA K tr σ G ds) (hl : ds.length ≤ 100000) : Ev K (tLst tr) σ G (.list ds) := fun G1 H1 l i Q q => ha G1 H1 l i _ fun vs G2 H2 u2 p2 => by
  refine ⟨by rw [p2.len]; exact Nat.le_trans hl (by decide), fun p hp => ?_⟩
  have u3 := Up.new (o := .lst vs) u2.i hp
  exact q _ _ _ (u2.trans u3) (.lst upd_same (p2.mono u3.g))
theorem ev_tup {tr : TA} {ds : List PyData} (ha : EvA K tr σ G ds) (hl : ds.length ≤ 100000) : Ev K (tTup tr) σ G (.tuple ds) := fun G1 H1 l i Q q => ha G1 H1 l i _ fun vs G2 H2 u2 p2 => by
  refine ⟨by rw [p2.len]; exact Nat.le_trans hl (by decide), fun p hp => ?_⟩
  have u3 := Up.new (o := .tup vs) u2.i hp
  exact q _ _ _ (u2.trans u3) (.tup (.inl (.inl upd_same)) (p2.mono u3.g))
end
end Z

namespace Z
open PySem PySem.Spec PyProof.Rows L2

/-! ### what is walked -/
/-- J gives these things, one by one, whatever is laid meanwhile -/
def WkD (K : PySem.W.Frag) (J : It) (G : Hp) (ds : List PyData) : Prop := ∀ G' H', Le G G' → In G' H' →
  J.stop ds.length H' ∧ ∀ (i : Nat) d, ds[i]? = some d → J.go i H' ∧ ∀ x H2, J.yld i H' x H2 → ∃ G2, Up G' H' G2 H2 ∧ Rp K G2 x d
def EvI (K : PySem.W.Frag) (wi : TI) (σ : L2.St) (G : Hp) (ds : List PyData) : Prop :=
  ∀ G1 H1, Le G G1 → In G1 H1 → ∀ R : It → Hp → Prop, (∀ J G2 H2, Up G1 H1 G2 H2 → WkD K J G2 ds → R J H2) → wi σ H1 R
/-- a target takes a thing of data d: behind it B of the slots -/
def Bnd (K : PySem.W.Frag) (g : TG) (σ : L2.St) (d : PyData) (B : L2.St → Hp → Prop) : Prop := ∀ G H x, In G H → Rp K G x d → ∀ Q, (∀ σ2, B σ2 G → Q σ2 H) → g x σ H Q
section
variable {K : PySem.W.Frag} {σ : L2.St} {G G' : Hp} {ta tb te tc : TE} {t u tt : TT} {a b c d : PyData} {wi : TI} {g : TG}
theorem RpA.get : ∀ {vs : List V} {ds : List PyData} {i : Nat} {d : PyData}, RpA K G vs ds → ds[i]? = some d → ∃ v, vs[i]? = some v ∧ Rp K G v d
  | _, _, _, _, .nil, e => by simp at e
  | _, _, 0, _, .cons h _, e => by simp at e; subst e; exact ⟨_, rfl, h⟩
  | _, _, i + 1, _, .cons _ a, e => by
    obtain ⟨v, h1, h2⟩ := RpA.get (i := i) a (by simpa using e)
    exact ⟨v, by simpa using h1, h2⟩
theorem WkD.mono {J : It} {ds : List PyData} (l : Le G G') (w : WkD K J G ds) : WkD K J G' ds := fun G1 H1 l1 i => w G1 H1 (l.trans l1) i
theorem wk_list {p : Addr} {xs : List V} {ds : List PyData} (h : G p = some (.lst xs)) (r : RpA K G xs ds) : WkD K (Itl K p) G ds := fun G' H' l i => by
  have e : SqL K H' p xs := .inl (.inl (i.ex (l _ _ h) rfl))
  have W := walk_list (K := K) (a := p) (xs := xs)
  refine ⟨by rw [← r.len]; exact W.stops H' e, fun j d hd => ?_⟩
  obtain ⟨v, h1, h2⟩ := r.get hd
  have hj : j < xs.length := (List.getElem?_eq_some_iff.mp h1).1
  refine ⟨W.goes j H' hj e, fun x H2 y => ?_⟩
  obtain ⟨e1, e2⟩ := W.yields j H' x H2 hj e y
  rw [h1] at e2
  cases e2
  subst e1
  exact ⟨G', Up.refl i, h2.mono l⟩
theorem wk_tup {p : Addr} {xs : List V} {ds : List PyData} (h : SqT K G p xs) (r : RpA K G xs ds) : WkD K (Itt K p) G ds := fun G' H' l i => by
  have e : SqT K H' p xs := by
    rcases le_t l h with q | q
    · rcases q with q | ⟨o, q⟩
      · exact .inl (.inl (i.ex q rfl))
      · exact .inl (.inr ⟨o, i.ex q rfl⟩)
    · exact .inr q
  have W := walk_tup (K := K) (a := p) (xs := xs)
  refine ⟨by rw [← r.len]; exact W.stops H' e, fun j d hd => ?_⟩
  obtain ⟨v, h1, h2⟩ := r.get hd
  have hj : j < xs.length := (List.getElem?_eq_some_iff.mp h1).1
  refine ⟨W.goes j H' hj e, fun x H2 y => ?_⟩
  obtain ⟨e1, e2⟩ := W.yields j H' x H2 hj e y
  rw [h1] at e2
  cases e2
  subst e1
  exact ⟨G', Up.refl i, h2.mono l⟩
/-- lo, lo + 1, .. -/
def rng (lo : Int) (n : Nat) : List Int := (List.range n).map fun (i : Nat) => lo + (i : Int)
theorem rng_len (lo : Int) (n : Nat) : (rng lo n).length = n := by simp [rng]
theorem wk_range {lo : Int} {n : Nat} : WkD K (Itr lo n) G ((rng lo n).map .int) := fun G' H' l i => by
  have W := walk_range (lo := lo) (n := n)
  refine ⟨by rw [List.length_map, rng_len]; exact W.stops H' trivial, fun j d hd => ?_⟩
  have hj : j < n := by
    have := (List.getElem?_eq_some_iff.mp hd).1
    simpa [rng_len] using this
  refine ⟨W.goes j H' hj trivial, fun x H2 y => ?_⟩
  obtain ⟨e1, e2⟩ := W.yields j H' x H2 hj trivial y
  subst e1 e2
  have : d = .int (lo + (j : Int)) := by
    simp [rng, hj] at hd
    exact hd.symm
  subst this
  exact ⟨G', Up.refl i, .int _⟩
def S (l : List Nat) : Str := ⟨l.toArray⟩
theorem S_cps (l : List Nat) : (S l).cps.toList = l := by simp [S]
theorem S_eta (x : Str) : S x.cps.toList = x := by cases x; simp [S]
theorem S_inj {a b : List Nat} (h : S a = S b) : a = b := by
  have := congrArg (fun x : Str => x.cps.toList) h
  simpa [S] using this
theorem wk_str {l : List Nat} : WkD K (Its (S l)) G (l.map fun c => .str (S [c])) := fun G' H' le i => by
  have W := walk_str (z := S l)
  have hs : (S l).cps.size = l.length := by simp [S]
  refine ⟨by rw [List.length_map, ← hs]; exact W.stops H' trivial, fun j d hd => ?_⟩
  have hj : j < (S l).cps.size := by
    have := (List.getElem?_eq_some_iff.mp hd).1
    rw [hs]
    simpa using this
  refine ⟨W.goes j H' hj trivial, fun x H2 y => ?_⟩
  obtain ⟨e1, c, e2, e3⟩ := W.yields j H' x H2 hj trivial y
  subst e1 e3
  have hc : l[j]? = some c := by
    rw [← S_cps l]
    simpa using e2
  have : d = .str (S [c]) := by
    rw [List.getElem?_map, hc] at hd
    exact (Option.some.inj hd).symm
  subst this
  exact ⟨G', Up.refl i, .str _⟩
/-! ### how a walked thing begins -/
theorem rp_ref {v : V} {ds : List PyData} (h : Rp K G v (.list ds)) : ∃ p xs, v = .ref p ∧ G p = some (.lst xs) ∧ RpA K G xs ds := by
  cases h with | lst h a => exact ⟨_, _, rfl, h, a⟩
theorem rp_tup {v : V} {ds : List PyData} (h : Rp K G v (.tuple ds)) : ∃ p xs, v = .ref p ∧ SqT K G p xs ∧ RpA K G xs ds := by
  cases h with | tup h a => exact ⟨_, _, rfl, h, a⟩
theorem rp_int {v : V} {i : Int} (h : Rp K G v (.int i)) : v = .int i := by cases h; rfl
theorem rp_str {v : V} {i : Str} (h : Rp K G v (.str i)) : v = .str i := by cases h; rfl
theorem rp_non {v : V} (h : Rp K G v .none) : v = .non := by cases h; rfl
theorem rpa_nil {vs : List V} (h : RpA K G vs []) : vs = [] := by cases h; rfl
theorem rpa_cons {vs : List V} {ds : List PyData} (h : RpA K G vs (d :: ds)) : ∃ v ws, vs = v :: ws ∧ Rp K G v d ∧ RpA K G ws ds := by
  cases h with | cons h a => exact ⟨_, _, rfl, h, a⟩
theorem rpa_ints : ∀ {vs : List V} {ns : List Int}, RpA K G vs (ns.map .int) → vs = ns.map .int
  | vs, [], h => rpa_nil h
  | vs, n :: ns, h => by
    obtain ⟨v, ws, rfl, h1, h2⟩ := rpa_cons h
    rw [rp_int h1, rpa_ints h2]; rfl
theorem rpa_strs : ∀ {vs : List V} {ns : List Str}, RpA K G vs (ns.map .str) → vs = ns.map .str
  | vs, [], h => rpa_nil h
  | vs, n :: ns, h => by
    obtain ⟨v, ws, rfl, h1, h2⟩ := rpa_cons h
    rw [rp_str h1, rpa_strs h2]; rfl
theorem rpa_bools : ∀ {vs : List V} {ns : List Bool}, RpA K G vs (ns.map .bool) → vs = ns.map .bl
  | vs, [], h => rpa_nil h
  | vs, n :: ns, h => by
    obtain ⟨v, ws, rfl, h1, h2⟩ := rpa_cons h
    rw [rp_bool h1, rpa_bools h2]; rfl
theorem ints_rpa : ∀ ns : List Int, RpA K G (ns.map V.int) (ns.map .int)
  | [] => .nil
  | n :: ns => .cons (.int n) (ints_rpa ns)
theorem strs_rpa : ∀ ns : List Str, RpA K G (ns.map V.str) (ns.map .str)
  | [] => .nil
  | n :: ns => .cons (.str n) (strs_rpa ns)
theorem ei_list {ds : List PyData} (h : Ev K te σ G (.list ds)) : EvI K (iList K te) σ G ds := fun G1 H1 l i R q => h G1 H1 l i _ fun v G2 H2 u2 p2 => by
  obtain ⟨p, xs, rfl, h1, h2⟩ := rp_ref p2
  exact ⟨p, rfl, ⟨xs, .inl (.inl (u2.i.ex h1 rfl))⟩, q _ G2 H2 u2 (wk_list h1 h2)⟩
theorem ei_str {l : List Nat} (h : Ev K te σ G (.str (S l))) : EvI K (iStr te) σ G (l.map fun c => .str (S [c])) := fun G1 H1 le i R q => h G1 H1 le i _ fun v G2 H2 u2 p2 => by
  exact ⟨S l, rp_str p2, q _ G2 H2 u2 wk_str⟩
theorem ei_rng1 {tr : TA} {j : Int} (h : EvA K tr σ G [.int j]) (h1 : -(2 ^ 62) ≤ j) (h2 : j < 2 ^ 62) : EvI K (iRng1 tr) σ G ((rng 0 j.toNat).map .int) := fun G1 H1 l i R q => h G1 H1 l i _ fun vs G2 H2 u2 p2 => by
  obtain ⟨v, ws, rfl, p3, p4⟩ := rpa_cons p2
  rw [rp_int p3, rpa_nil p4]
  exact ⟨j, rfl, h1, h2, q _ G2 H2 u2 wk_range⟩
theorem ei_rng2 {tr : TA} {k j : Int} (h : EvA K tr σ G [.int k, .int j]) (h1 : -(2 ^ 62) ≤ k) (h2 : k < 2 ^ 62) (h3 : -(2 ^ 62) ≤ j) (h4 : j < 2 ^ 62) : EvI K (iRng2 tr) σ G ((rng k (j - k).toNat).map .int) := fun G1 H1 l i R q => h G1 H1 l i _ fun vs G2 H2 u2 p2 => by
  obtain ⟨v, ws, rfl, p3, p4⟩ := rpa_cons p2
  obtain ⟨v', ws', rfl, p5, p6⟩ := rpa_cons p4
  rw [rp_int p3, rp_int p5, rpa_nil p6]
  exact ⟨k, j, rfl, ⟨h1, h2, h3, h4⟩, q _ G2 H2 u2 wk_range⟩
/-- enumerate(xs): numbers and things -/
def enumD (ds : List PyData) : List PyData := ds.zipIdx.map fun p => .tuple [.int (p.2 : Int), p.1]
theorem enumD_get {ds : List PyData} {i : Nat} {d : PyData} (h : (enumD ds)[i]? = some d) : ∃ e, ds[i]? = some e ∧ d = .tuple [.int (i : Int), e] := by
  unfold enumD at h
  rw [List.getElem?_map, List.getElem?_zipIdx] at h
  cases q : ds[i]? with
  | none => rw [q] at h; cases h
  | some e =>
    rw [q] at h
    refine ⟨e, rfl, ?_⟩
    simpa using h.symm
theorem ei_enum {tr : TA} {ds : List PyData} (h : EvA K tr σ G [.list ds]) : EvI K (iEnum K tr) σ G (enumD ds) := fun G1 H1 l i R q => h G1 H1 l i _ fun vs G2 H2 u2 p2 => by
  obtain ⟨v, ws, rfl, p3, p4⟩ := rpa_cons p2
  rw [rpa_nil p4]
  obtain ⟨p, xs, rfl, h1, h2⟩ := rp_ref p3
  refine ⟨p, xs, rfl, .inl (.inl (u2.i.ex h1 rfl)), q _ G2 H2 u2 fun G' H' l' i' => ?_⟩
  have e : SqL K H' p xs := .inl (.inl (i'.ex (l' _ _ h1) rfl))
  have W := walk_enum (K := K) (a := p) (xs := xs)
  refine ⟨by have := W.stops H' e; rw [h2.len] at this; simpa [enumD] using this, fun j d hd => ?_⟩
  obtain ⟨f, hf, rfl⟩ := enumD_get hd
  obtain ⟨v, g1, g2⟩ := h2.get hf
  have hj : j < xs.length := (List.getElem?_eq_some_iff.mp g1).1
  refine ⟨W.goes j H' hj e, fun x H2 y => ?_⟩
  obtain ⟨T, x1, x2, rfl, hT, rfl, e1, e2⟩ := W.yields j H' x H2 hj e y
  cases e1
  have e2 : xs[j]? = some x2 := e2
  rw [g1] at e2
  cases e2
  have u3 := Up.new (o := .tup [V.int (j : Int), v]) i' hT
  exact ⟨_, u3, .tup (.inl (.inl upd_same)) (.cons (.int _) (.cons (g2.mono (l'.trans u3.g)) .nil))⟩
/-! ### targets -/
theorem bnd_name {k : Nat} : Bnd K (gName k) σ d fun σ2 G => ∃ x, σ2 = σ.set k (some x) ∧ Rp K G x d := fun G H x i p Q q => q _ ⟨x, rfl, p⟩
theorem wipe1 {k : Nat} {x : Option V} : wipe ((wipe σ [k]).set k x) [k] = wipe σ [k] := by
  show (((σ.set k none).set k x).set k none) = σ.set k none
  rw [List.set_set, List.set_set]
theorem wipe1s {k : Nat} {x : Option V} : (wipe σ [k]).set k x = σ.set k x := by
  show (σ.set k none).set k x = σ.set k x
  rw [List.set_set]
/-- a comprehension: the things that pass, each turned -/
theorem lc_new {α : Type} {D : α → PyData} {xs : List α} {p : α → Bool} {f : α → PyData} {vs : List Nat} {B : α → L2.St → Hp → Prop} (hi : EvI K wi σ G (xs.map D)) (hb : ∀ z ∈ xs, Bnd K g (wipe σ vs) (D z) (B z))
    (hw : ∀ z ∈ xs, ∀ σ2 G, B z σ2 G → wipe σ2 vs = wipe σ vs)
    (ht : ∀ z ∈ xs, ∀ G1 σ2, Le G G1 → B z σ2 G1 → EvT tt σ2 G1 (p z)) (he : ∀ z ∈ xs, p z = true → ∀ G1 σ2, Le G G1 → B z σ2 G1 → Ev K te σ2 G1 (f z))
    (hBm : ∀ z σ2 G1 G2, Le G1 G2 → B z σ2 G1 → B z σ2 G2) (hl : xs.length ≤ 100000) {G1 H1 : Hp} (l : Le G G1) (i : In G1 H1) {Q : VK}
    (q : ∀ D' G3 H3 acc, H1 D' = none → G3 D' = none → Up G1 H1 G3 (fun b => if b = D' then none else H3 b) → In G3 H3 → H3 D' = some (.lst acc) → RpA K G3 acc ((xs.filter p).map f) → Q (.ref D') H3) : tLc wi g tt te vs σ H1 Q := hi G1 H1 l i _ fun J G2 H2 u2 w => by
  intro D' hD
  refine ⟨fun i m H => m = xs.length - i ∧ i ≤ xs.length ∧ ∃ G3, G3 D' = none ∧ Up G2 H2 G3 (fun b => if b = D' then none else H b) ∧ In G3 H ∧ ∃ acc, H D' = some (.lst acc) ∧ RpA K G3 acc (((xs.take i).filter p).map f), ⟨xs.length, by simp, Nat.zero_le _, G2, u2.i.no hD, ?_, ?_, [], upd_same, .nil⟩, ?_⟩
  · refine ⟨Le.refl _, fun b o e => ?_, fun b o e => ?_, fun _ _ e => .inl e⟩
    · have ne : b ≠ D' := fun z => by subst z; rw [u2.i.no hD] at e; cases e
      show (if b = D' then none else upd H2 D' (.lst []) b) = _ ∨ _ ∧ ∃ ob, (if b = D' then none else upd H2 D' (.lst []) b) = _
      rw [if_neg ne, upd_ne ne]
      exact u2.i b o e
    · have ne : b ≠ D' := fun z => by subst z; rw [hD] at e; cases e
      show (if b = D' then none else upd H2 D' (.lst []) b) = _
      rw [if_neg ne, upd_ne ne]
      exact e
  · exact u2.i.mut (u2.i.no hD)
  · rintro j m H ⟨rfl, hj, G3, hG3, u3, i3, acc, hacc, racc⟩
    obtain ⟨wstop, wgo⟩ := w G3 H u3.g i3
    by_cases hlt : j < xs.length
    · have hz : xs[j]? = some xs[j] := List.getElem?_eq_getElem hlt
      have hm : xs[j] ∈ xs := List.getElem_mem hlt
      obtain ⟨go, yl⟩ := wgo j (D xs[j]) (by rw [List.getElem?_map, hz]; rfl)
      refine .inr ⟨go, fun H' => j + 1 ≤ xs.length ∧ ∃ G3, G3 D' = none ∧ Up G2 H2 G3 (fun b => if b = D' then none else H' b) ∧ In G3 H' ∧ ∃ acc, H' D' = some (.lst acc) ∧ RpA K G3 acc (((xs.take (j + 1)).filter p).map f), fun H' x => ⟨xs.length - (j + 1), by omega, rfl, x.1, x.2⟩, fun x H4 y => ?_⟩
      obtain ⟨G4, u4, r4⟩ := yl x H4 y
      have hD4 : H4 D' = some (.lst acc) := u4.h _ _ hacc
      have hG4 : G4 D' = none := u4.hide (by rw [hacc]; intro z; cases z) hG3
      -- growing but for D'
      have grow : ∀ {Ga Ha Gb Hb : Hp}, Up G2 H2 Ga (fun b => if b = D' then none else Ha b) → Ga D' = none → Up Ga Ha Gb Hb → Gb D' = none → Up G2 H2 Gb (fun b => if b = D' then none else Hb b) := fun {Ga Ha Gb Hb} ua na ub nb => by
        refine ⟨ua.g.trans ub.g, fun b o e => ?_, fun b o e => ?_, fun b o e => ?_⟩
        · have ne : b ≠ D' := fun z => by subst z; rw [nb] at e; cases e
          show (if b = D' then none else Hb b) = _ ∨ _ ∧ ∃ ob, (if b = D' then none else Hb b) = _
          rw [if_neg ne]
          exact ub.i b o e
        · have h1 := ua.h b o e
          have ne : b ≠ D' := fun z => by subst z; rw [hD] at e; cases e
          have h1 : (if b = D' then none else Ha b) = some o := h1
          rw [if_neg ne] at h1
          show (if b = D' then none else Hb b) = _
          rw [if_neg ne]
          exact ub.h b o h1
        · have ne : b ≠ D' := fun z => by subst z; rw [nb] at e; cases e
          rcases ub.n b o e with q | q
          · exact ua.n b o q
          · refine .inr ?_
            cases h2 : H2 b with
            | none => rfl
            | some o2 =>
              have h1 : (if b = D' then none else Ha b) = some o2 := ua.h b o2 h2
              rw [if_neg ne, q] at h1
              cases h1
      have u24 := grow u3 hG3 u4 hG4
      have l4 : Le G G4 := l.trans (u2.g.trans u24.g)
      refine hb _ hm G4 H4 x u4.i r4 _ fun σ2 b2 => ⟨hw _ hm σ2 G4 b2, ?_⟩
      refine ht _ hm G4 σ2 l4 b2 G4 H4 (Le.refl _) u4.i _ fun G5 H5 u5 => ?_
      have hD5 := u5.h _ _ hD4
      have hG5 : G5 D' = none := u5.hide (by rw [hD4]; intro z; cases z) hG4
      have u25 := grow u24 hG4 u5 hG5
      have tk : (xs.take (j + 1)).filter p = (xs.take j).filter p ++ [xs[j]].filter p := by
        rw [List.take_succ_eq_append_getElem hlt, List.filter_append]
      cases hp : p xs[j] with
      | false =>
        show _ ∧ _
        refine ⟨hlt, G5, hG5, u25, u5.i, acc, hD5, ?_⟩
        rw [tk]
        have : [xs[j]].filter p = [] := by simp [hp]
        rw [this, List.append_nil]
        exact racc.mono (u4.g.trans u5.g)
      | true =>
        show te σ2 H5 _
        refine he _ hm hp G5 σ2 (l4.trans u5.g) (hBm _ _ _ _ u5.g b2) G5 H5 (Le.refl _) u5.i _ fun y G6 H6 u6 r6 => ?_
        have hD6 := u6.h _ _ hD5
        have hG6 : G6 D' = none := u6.hide (by rw [hD5]; intro z; cases z) hG5
        have u26 := grow u25 hG5 u6 hG6
        have hlen : acc.length ≤ xs.length := by
          rw [racc.len, List.length_map]
          exact Nat.le_trans (List.length_filter_le _ _) (by rw [List.length_take]; omega)
        refine ⟨acc, hD6, Nat.lt_of_le_of_lt (Nat.le_trans hlen hl) (by decide), hlt, G6, hG6, ?_, u6.i.mut hG6, acc ++ [y], upd_same, ?_⟩
        · refine ⟨u26.g, fun b o e => ?_, fun b o e => ?_, u26.n⟩
          · have ne : b ≠ D' := fun z => by subst z; rw [hG6] at e; cases e
            have := u26.i b o e
            show (if b = D' then none else upd H6 D' _ b) = _ ∨ _ ∧ ∃ ob, (if b = D' then none else upd H6 D' _ b) = _
            simp only [if_neg ne] at this
            rw [if_neg ne, upd_ne ne]
            exact this
          · have ne : b ≠ D' := fun z => by subst z; rw [hD] at e; cases e
            have := u26.h b o e
            simp only [if_neg ne] at this
            show (if b = D' then none else upd H6 D' _ b) = _
            rw [if_neg ne, upd_ne ne]
            exact this
        · rw [tk]
          have : [xs[j]].filter p = [xs[j]] := by simp [hp]
          rw [this, List.map_append]
          have ap : ∀ {v1 v2 : List V} {d1 d2 : List PyData}, RpA K G6 v1 d1 → RpA K G6 v2 d2 → RpA K G6 (v1 ++ v2) (d1 ++ d2) := by
            intro v1
            induction v1 with
            | nil => intro v2 d1 d2 h1 h2; cases h1; exact h2
            | cons v vs ih => intro v2 d1 d2 h1 h2; cases h1 with | cons h a => exact .cons h (ih a h2)
          exact ap (racc.mono ((u4.g.trans u5.g).trans u6.g)) (.cons r6 .nil)
    · have e : j = xs.length := by omega
      subst e
      refine .inl ⟨by simpa using wstop, ?_⟩
      rw [List.take_length] at racc
      refine q D' G3 H acc (u2.h.no hD) hG3 ?_ i3 hacc racc
      refine ⟨u2.g.trans u3.g, u3.i, fun b o e => u3.h b o (u2.h b o e), fun b o e => ?_⟩
      rcases u3.n b o e with z | z
      · exact u2.n b o z
      · exact .inr (u2.h.no z)
/-- what is new may be shown -/
theorem show_new {D' : Addr} {G1 H1 G3 H3 : Hp} {o : HO} (h1 : H1 D' = none) (h2 : G3 D' = none) (u : Up G1 H1 G3 (fun b => if b = D' then none else H3 b)) (i3 : In G3 H3) (e3 : H3 D' = some o) : Up G1 H1 (upd G3 D' o) H3 ∧ Le G3 (upd G3 D' o) := by
  have hnn : ∀ b o, G3 b = some o → b ≠ D' := fun b o e z => by subst z; rw [h2] at e; cases e
  have lg : Le G3 (upd G3 D' o) := fun b o e => by rw [upd_ne (hnn b o e)]; exact e
  refine ⟨⟨u.g.trans lg, fun b o e => ?_, fun b o e => ?_, fun b o e => ?_⟩, lg⟩
  · by_cases hb : b = D'
    · subst hb; rw [upd_same] at e; cases e; exact .inl e3
    · rw [upd_ne hb] at e; exact i3 b o e
  · have ne : b ≠ D' := fun z => by subst z; rw [h1] at e; cases e
    have := u.h b o e
    simp only [if_neg ne] at this
    exact this
  · by_cases hb : b = D'
    · subst hb; exact .inr h1
    · rw [upd_ne hb] at e
      exact u.n b o e
theorem ev_lc {α : Type} {D : α → PyData} {xs : List α} {p : α → Bool} {f : α → PyData} {vs : List Nat} {B : α → L2.St → Hp → Prop} (hi : EvI K wi σ G (xs.map D)) (hb : ∀ z ∈ xs, Bnd K g (wipe σ vs) (D z) (B z))
    (hw : ∀ z ∈ xs, ∀ σ2 G, B z σ2 G → wipe σ2 vs = wipe σ vs)
    (ht : ∀ z ∈ xs, ∀ G1 σ2, Le G G1 → B z σ2 G1 → EvT tt σ2 G1 (p z)) (he : ∀ z ∈ xs, p z = true → ∀ G1 σ2, Le G G1 → B z σ2 G1 → Ev K te σ2 G1 (f z))
    (hBm : ∀ z σ2 G1 G2, Le G1 G2 → B z σ2 G1 → B z σ2 G2) (hl : xs.length ≤ 100000) : Ev K (tLc wi g tt te vs) σ G (.list ((xs.filter p).map f)) := fun G1 H1 l i Q q =>
  lc_new hi hb hw ht he hBm hl l i fun D' G3 H3 acc h1 h2 u i3 e3 r3 => by
    obtain ⟨u4, l4⟩ := show_new h1 h2 u i3 e3
    exact q _ _ _ u4 (.lst upd_same (r3.mono l4))
end
end Z

namespace Z
open PySem PySem.Spec PyProof.Rows L2

/-! ### operators by data -/
section
variable {K : PySem.W.Frag} {σ : L2.St} {G H : Hp}
theorem opv_I0 {g : Int → Int → V} {D : Int → Int → PyData} (h : ∀ i j G, Rp K G (g i j) (D i j)) {i j : Int} : OpV K (rI0 g) (.int i) (.int j) (D i j) := fun G H x y hi px py Q q => by
  rw [rp_int px, rp_int py]
  exact ⟨i, j, rfl, rfl, q _ G H (Up.refl hi) (h i j G)⟩
theorem opv_I {C : Int → Int → Prop} {g : Int → Int → V} {D : Int → Int → PyData} (h : ∀ i j G, Rp K G (g i j) (D i j)) {i j : Int} (hc : C i j) : OpV K (rI C g) (.int i) (.int j) (D i j) := fun G H x y hi px py Q q => by
  rw [rp_int px, rp_int py]
  exact ⟨i, j, rfl, rfl, hc, q _ G H (Up.refl hi) (h i j G)⟩
theorem opv_add {i j : Int} : OpV K (rI0 fun i j => .int (i + j)) (.int i) (.int j) (.int (i + j)) := opv_I0 (D := fun i j => .int (i + j)) fun _ _ _ => .int _
theorem opv_sub {i j : Int} : OpV K (rI0 fun i j => .int (i - j)) (.int i) (.int j) (.int (i - j)) := opv_I0 (D := fun i j => .int (i - j)) fun _ _ _ => .int _
theorem opv_mul {i j : Int} (h : CMul i j) : OpV K (rI CMul fun i j => .int (i * j)) (.int i) (.int j) (.int (i * j)) := opv_I (D := fun i j => .int (i * j)) (fun _ _ _ => .int _) h
theorem opv_fdiv {i j : Int} (h : CDivN i j) : OpV K (rI CDivN fun i j => .int (i.fdiv j)) (.int i) (.int j) (.int (i.fdiv j)) := opv_I (D := fun i j => .int (i.fdiv j)) (fun _ _ _ => .int _) h
theorem opv_mod {i j : Int} (h : j ≠ 0) : OpV K (rI (fun _ j => j ≠ 0) fun i j => .int (i.fmod j)) (.int i) (.int j) (.int (i.fmod j)) := opv_I (C := fun _ j => j ≠ 0) (D := fun i j => .int (i.fmod j)) (fun _ _ _ => .int _) h
theorem opv_pow {i j : Int} (h : CPow i j) : OpV K (rI CPow fun i j => .int (i ^ j.toNat)) (.int i) (.int j) (.int (i ^ j.toNat)) := opv_I (D := fun i j => .int (i ^ j.toNat)) (fun _ _ _ => .int _) h
theorem opv_lt {i j : Int} : OpV K (rI0 fun i j => .bl (decide (i < j))) (.int i) (.int j) (.bool (decide (i < j))) := opv_I0 (D := fun i j => .bool (decide (i < j))) fun _ _ _ => .bl _
theorem opv_le {i j : Int} : OpV K (rI0 fun i j => .bl (decide (i ≤ j))) (.int i) (.int j) (.bool (decide (i ≤ j))) := opv_I0 (D := fun i j => .bool (decide (i ≤ j))) fun _ _ _ => .bl _
theorem opv_gt {i j : Int} : OpV K (rI0 fun i j => .bl (decide (j < i))) (.int i) (.int j) (.bool (decide (j < i))) := opv_I0 (D := fun i j => .bool (decide (j < i))) fun _ _ _ => .bl _
theorem opv_ge {i j : Int} : OpV K (rI0 fun i j => .bl (decide (j ≤ i))) (.int i) (.int j) (.bool (decide (j ≤ i))) := opv_I0 (D := fun i j => .bool (decide (j ≤ i))) fun _ _ _ => .bl _
theorem unv_neg {i : Int} : UnV K (rU fun i => .int (-i)) (.int i) (.int (-i)) := fun G H x hi px Q q => by
  rw [rp_int px]
  exact ⟨i, rfl, q _ G H (Up.refl hi) (.int _)⟩
/-- texts as lists of signs -/
def rAddS : R2 := fun x y H Q => ∃ i j, x = .str i ∧ y = .str j ∧ i.length + j.length ≤ sizeLine ∧ Q (.str (i ++ j)) H
theorem S_app (a b : List Nat) : S a ++ S b = S (a ++ b) := by
  show (⟨(S a).cps ++ (S b).cps⟩ : Str) = _
  simp [S]
theorem S_len (a : List Nat) : (S a).length = a.length := by
  show (S a).cps.size = _
  simp [S]
theorem opv_addS {a b : List Nat} (h : a.length + b.length ≤ 10000000) : OpV K rAddS (.str (S a)) (.str (S b)) (.str (S (a ++ b))) := fun G H x y hi px py Q q => by
  rw [rp_str px, rp_str py]
  refine ⟨S a, S b, rfl, rfl, by rw [S_len, S_len]; exact Nat.le_trans h (by decide), ?_⟩
  rw [S_app]
  exact q _ G H (Up.refl hi) (.str _)
theorem opv_cat {a b : List PyData} (h : a.length + b.length ≤ 1000000) : OpV K rCat (.list a) (.list b) (.list (a ++ b)) := fun G H x y hi px py Q q => by
  obtain ⟨p, xs, rfl, h1, h2⟩ := rp_ref px
  obtain ⟨p', ys, rfl, h3, h4⟩ := rp_ref py
  refine ⟨p, p', xs, ys, rfl, rfl, hi.ex h1 rfl, hi.ex h3 rfl, by rw [h2.len, h4.len]; exact Nat.le_trans h (by decide), fun r hr => ?_⟩
  have u := Up.new (o := .lst (xs ++ ys)) hi hr
  have ap : ∀ {v1 v2 : List V} {d1 d2 : List PyData}, RpA K G v1 d1 → RpA K G v2 d2 → RpA K G (v1 ++ v2) (d1 ++ d2) := by
    intro v1
    induction v1 with
    | nil => intro v2 d1 d2 h1 h2; cases h1; exact h2
    | cons v vs ih => intro v2 d1 d2 h1 h2; cases h1 with | cons h a => exact .cons h (ih a h2)
  exact q _ _ _ u (.lst upd_same ((ap h2 h4).mono u.g))
/-- == of plain things -/
def scalD : PyData → PyData → Bool
  | .int _, .int _ => true
  | .str _, .str _ => true
  | .bool _, .bool _ => true
  | .none, .none => true
  | .none, .int _ => true
  | .int _, .none => true
  | .none, .str _ => true
  | .str _, .none => true
  | _, _ => false
def eqS : PyData → PyData → Bool
  | .int i, .int j => decide (i = j)
  | .str i, .str j => decide (i = j)
  | .bool i, .bool j => decide (i = j)
  | .none, .none => true
  | _, _ => false
theorem opv_eq {a b : PyData} (h : scalD a b = true) : OpV K rEq a b (.bool (eqS a b)) := fun G H x y hi px py Q q => by
  have fin : ∀ k, k = eqS a b → Q (.bl k) H := fun k e => by subst e; exact q _ G H (Up.refl hi) (.bl _)
  cases px <;> cases py <;> first
    | (refine ⟨rfl, fin _ ?_⟩; simp [eqS]; done)
    | (exact absurd h (by simp [scalD]))
theorem opv_ne {a b : PyData} (h : scalD a b = true) : OpV K rNe a b (.bool (!eqS a b)) := fun G H x y hi px py Q q => by
  have fin : ∀ k, k = (!eqS a b) → Q (.bl k) H := fun k e => by subst e; exact q _ G H (Up.refl hi) (.bl _)
  cases px <;> cases py <;> first
    | (refine ⟨rfl, fin _ ?_⟩; simp [eqS]; done)
    | (exact absurd h (by simp [scalD]))
theorem eqS_int {i j : Int} : eqS (.int i) (.int j) = decide (i = j) := rfl
theorem eqS_str {a b : List Nat} : eqS (.str (S a)) (.str (S b)) = decide (a = b) := by
  unfold eqS
  by_cases h : a = b
  · subst h; simp
  · have : S a ≠ S b := fun e => h (S_inj e)
    simp [h, this]
/-! == of nested things -/
mutual
def dicF : PyData → Bool
  | .list xs => dicFs xs
  | .tuple xs => dicFs xs
  | .dict _ => false
  | _ => true
def dicFs : List PyData → Bool
  | [] => true
  | d :: ds => dicF d && dicFs ds
end
theorem in_t {a : Addr} {xs : List V} (i : In G H) (h : SqT K G a xs) : SqT K H a xs := by
  rcases h with q | q
  · rcases q with q | ⟨o, q⟩
    · exact .inl (.inl (i.ex q rfl))
    · exact .inl (.inr ⟨o, i.ex q rfl⟩)
  · exact .inr q
mutual
theorem Rp.dp (i : In G H) : ∀ {v : V} {d : PyData}, Rp K G v d → dicF d = true → Dp K H v d
  | _, _, .non, _ => .non
  | _, _, .bl b, _ => .bl b
  | _, _, .int j, _ => .int j
  | _, _, .str x, _ => .str x
  | _, _, .lst h a, e => .lst (.inl (.inl (i.ex h rfl))) (RpA.dp i a (by simpa [dicF] using e))
  | _, _, .tup h a, e => .tup (in_t i h) (RpA.dp i a (by simpa [dicF] using e))
  | _, _, .dic h a, e => by simp [dicF] at e
theorem RpA.dp (i : In G H) : ∀ {v : List V} {d : List PyData}, RpA K G v d → dicFs d = true → DpAll K H v d
  | _, _, .nil, _ => .nil
  | _, _, .cons h a, e => by
    simp only [dicFs, Bool.and_eq_true] at e
    exact .cons (Rp.dp i h e.1) (RpA.dp i a e.2)
end
mutual
theorem dicF_of_lay : ∀ d : PyData, d.canLay0 = true → dicF d = true
  | .none, _ => by simp [dicF]
  | .bool _, _ => by simp [dicF]
  | .int _, _ => by simp [dicF]
  | .str _, _ => by simp [dicF]
  | .list xs, h => by
    simp only [PyData.canLay0] at h
    simp only [dicF]
    exact dicFs_of_lay xs h
  | .tuple xs, h => by
    simp only [PyData.canLay0] at h
    simp only [dicF]
    exact dicFs_of_lay xs h
  | .dict _, h => by simp [PyData.canLay0] at h
theorem dicFs_of_lay : ∀ ds : List PyData, PyData.canLayAll0 ds = true → dicFs ds = true
  | [], _ => by simp [dicFs]
  | d :: ds, h => by
    simp only [PyData.canLayAll0, Bool.and_eq_true] at h
    simp only [dicFs, Bool.and_eq_true]
    exact ⟨dicF_of_lay d h.1, dicFs_of_lay ds h.2⟩
end
theorem opv_eqD {a b : PyData} (ha : SeqAt.shaped a = true) (hb : SeqAt.shaped b = true) : OpV K (rEqD K) a b (.bool (PyData.eqv a b)) := fun G H x y hi px py Q q =>
  ⟨a, b, px.dp hi (dicF_of_lay _ (SeqAt.canLay_of_shaped ha)), py.dp hi (dicF_of_lay _ (SeqAt.canLay_of_shaped hb)), ha, hb, q _ G H (Up.refl hi) (.bl _)⟩
theorem opv_neD {a b : PyData} (ha : SeqAt.shaped a = true) (hb : SeqAt.shaped b = true) : OpV K (rNeD K) a b (.bool (!PyData.eqv a b)) := fun G H x y hi px py Q q =>
  ⟨a, b, px.dp hi (dicF_of_lay _ (SeqAt.canLay_of_shaped ha)), py.dp hi (dicF_of_lay _ (SeqAt.canLay_of_shaped hb)), ha, hb, q _ G H (Up.refl hi) (.bl _)⟩
end
end Z

namespace Z
open PySem PySem.Spec PyProof.Rows L2
/-! ### rules of our own -/
section
variable {X : Cx}
/-- text * int -/
def rMulS : R2 := fun x y H Q => ∃ z n, x = .str z ∧ y = .int n ∧ MulOk z n ∧ Q (.str (Txt.mul z n)) H
theorem op_mulS : OpR X (binaryOp .Mult) rMulS := by
  intro pins s σ H x y v u Q I rx ry h
  obtain ⟨z, n, rfl, rfl, hok, q⟩ := h
  obtain ⟨t, rfl⟩ := rx
  obtain ⟨t', rfl⟩ := ry
  exact SB.mul hok fun t' k => ⟨.str _, H, I.tok _, ⟨_, rfl⟩, q⟩
/-- sorted of alike data -/
def sortD (ds : List PyData) : List PyData := ds.mergeSort (PySem.W.dataLe false fun d => d)
def rSortD (K : PySem.W.Frag) : List V → Hp → VK → Prop := fun vs H Q => ∃ (a : Addr) (xs : List V) (ds : List PyData), vs = [.ref a] ∧ SqL K H a xs ∧ DpAll K H xs ds ∧ PySem.W.AllAlike ds ∧ PySem.W.Sortable ds ∧ (∀ d ∈ ds, d.depth ≤ 64) ∧
  ∀ p (ys : List V), H p = none → (∀ (R : V → PyData → Prop), (∀ (i : Nat) x d, xs[i]? = some x → ds[i]? = some d → R x d) → ys.length = (sortD ds).length ∧ ∀ (i : Nat) y d, ys[i]? = some y → (sortD ds)[i]? = some d → R y d) → Q (.ref p) (upd H p (.lst ys))
theorem each_zip {R : Value → V × PyData → Prop} : ∀ {us : List Value} {xs : List V} {ds : List PyData}, us.length = xs.length → xs.length = ds.length → (∀ (i : Nat) u x d, us[i]? = some u → xs[i]? = some x → ds[i]? = some d → R u (x, d)) → PySem.W.EachIs R us (xs.zip ds)
  | [], [], [], _, _, _ => .nil
  | u :: us, x :: xs, d :: ds, h1, h2, h => .cons (h 0 u x d rfl rfl rfl) (each_zip (by simpa using h1) (by simpa using h2) fun i => h (i + 1))
  | [], _ :: _, _, h1, _, _ => by cases h1
  | _ :: _, [], _, h1, _, _ => by cases h1
  | [], [], _ :: _, _, h2, _ => by cases h2
  | _ :: _, _ :: _, [], _, h2, _ => by cases h2
theorem DpAll.len {K : PySem.W.Frag} {H : Hp} : ∀ {xs : List V} {ds : List PyData}, DpAll K H xs ds → xs.length = ds.length
  | _, _, .nil => rfl
  | _, _, .cons _ a => by rw [List.length_cons, List.length_cons, DpAll.len a]
theorem DpAll.get {K : PySem.W.Frag} {H : Hp} : ∀ {xs : List V} {ds : List PyData} {i : Nat} {x : V} {d : PyData}, DpAll K H xs ds → xs[i]? = some x → ds[i]? = some d → Dp K H x d
  | _, _, _, _, _, .nil, e, _ => by simp at e
  | _, _, 0, _, _, .cons h _, e, f => by simp at e f; subst e f; exact h
  | _, _, i + 1, _, _, .cons _ a, e, f => DpAll.get (i := i) a (by simpa using e) (by simpa using f)
theorem each_vals {us : List Value} {bs : List (V × PyData)} (h : PySem.W.EachIs (fun u (b : V × PyData) => RelV b.1 u) us bs) : Vals (bs.map (·.1)) us := by
  induction h with
  | nil => exact .nil
  | cons r _ ih => exact .cons r ih
theorem zip_snd : ∀ {xs : List V} {ds : List PyData}, xs.length = ds.length → (xs.zip ds).map (·.2) = ds
  | [], [], _ => rfl
  | x :: xs, d :: ds, h => by
    show d :: (xs.zip ds).map (·.2) = d :: ds
    rw [zip_snd (by simpa using h)]
  | [], _ :: _, h => by cases h
  | _ :: _, [], h => by cases h
theorem cr_sortD (hu : X.A.units + 100 < cLine) : CallR X (.builtin "sorted") (rSortD X.K) := by
  intro pins s σ H vs us Q I r h
  obtain ⟨a, xs, ds, rfl, hs, hd, hal, hk, hdep, q⟩ := h
  obtain ⟨its, rv, hl, hz⟩ := I.list hs
  rw [Vals.ref1 r]
  have e1 := rv.length
  have e2 := DpAll.len hd
  have hm : (xs.zip ds).map (·.2) = ds := zip_snd e2
  refine PySem.W.sorted_data (R := fun u (b : V × PyData) => RelV b.1 u) (enc := fun b : V × PyData => b.2) (bs := xs.zip ds) hl.isList (each_zip e1.symm e2 fun i u x d hu hx hd' => ?_) (each_zip e1.symm e2 fun i u x d hu hx hd' => ?_) ?_ ?_ ?_ ?_ fun out h1 h2 => ?_
  · obtain ⟨u', h1, h2⟩ := rv.get hx
    rw [hu] at h1; cases h1; exact h2
  · obtain ⟨u', h1, h2⟩ := rv.get hx
    rw [hu] at h1; cases h1
    exact Dp.reads I d x u (DpAll.get hd hx hd') h2
  · rw [hm]; exact hal
  · rw [hm]; exact hk
  · rw [List.length_zip]; omega
  · intro b hb
    have : b.2 ∈ ds := by rw [← hm]; exact List.mem_map.mpr ⟨b, hb, rfl⟩
    have := hdep _ this
    show X.A.units + 2 + b.2.depth < cLine
    omega
  · obtain ⟨ep, he'⟩ := PyProof.Rows.sortedAll_at s.heap its out.toArray
    have hv := each_vals h2
    have hlen : (((xs.zip ds).mergeSort (PySem.W.dataLe false fun b : V × PyData => b.2)).map (·.1)).length ≤ sizeLine := by
      rw [List.length_map, List.length_mergeSort, List.length_zip]; omega
    refine ⟨.ref _, upd H (s.heap.objs.size + 1) (.lst (((xs.zip ds).mergeSort (PySem.W.dataLe false fun b : V × PyData => b.2)).map (·.1))), I.laid (t' := s.toks) (fun _ _ => PyProof.Rows.sortedAll_old) (Nat.le_succ _) ⟨hlen, out, ep, hv, he'⟩, rfl, q _ _ (I.hok.fresh (Nat.le_succ _)) fun R hR => ?_⟩
    have es : sortD ds = ((xs.zip ds).mergeSort (PySem.W.dataLe false fun b : V × PyData => b.2)).map (·.2) := by
      unfold sortD
      have t := PySem.W.sort_maps (r := PySem.W.dataLe false fun b : V × PyData => b.2) (s := PySem.W.dataLe false fun d => d) (fun b : V × PyData => b.2) (l := xs.zip ds) (fun _ _ _ _ => rfl)
      rw [hm] at t
      exact t.symm
    rw [es]
    refine ⟨by simp, fun i y d hy hd' => ?_⟩
    rw [List.getElem?_map] at hy hd'
    cases hb : ((xs.zip ds).mergeSort (PySem.W.dataLe false fun b : V × PyData => b.2))[i]? with
    | none => rw [hb] at hy; cases hy
    | some b =>
      rw [hb] at hy hd'
      cases hy; cases hd'
      have hmem : b ∈ xs.zip ds := (List.mergeSort_perm _ _).mem_iff.mp (List.mem_of_getElem? hb)
      obtain ⟨j, hj⟩ := List.mem_iff_getElem?.mp hmem
      rw [List.getElem?_zip_eq_some] at hj
      exact hR j b.1 b.2 hj.1 hj.2
/-- min of a list of alike data -/
def rMinD (K : PySem.W.Frag) : List V → Hp → VK → Prop := fun vs H Q => ∃ (a : Addr) (xs : List V) (d : PyData) (ds : List PyData), vs = [.ref a] ∧ SqL K H a xs ∧ DpAll K H xs (d :: ds) ∧ PySem.W.AlikeAll (d :: ds) ∧ PyData.depthAll (d :: ds) ≤ 64 ∧
  ∀ (i : Nat) x, xs[i]? = some x → (d :: ds)[i]? = some (PySem.W.minD d ds) → Q x H
theorem cr_minD (hc : X.calm = true) (hu : X.A.units + 100 < cLine) : CallR X (.builtin "min") (rMinD X.K) := by
  intro pins s σ H vs us Q I r h
  obtain ⟨a, xs, d, ds, rfl, hs, hd, hal, hdep, q⟩ := h
  obtain ⟨its, rv, hl, hz⟩ := I.list hs
  rw [Vals.ref1 r]
  obtain ⟨as, hr⟩ := Dp.readsAll I (d :: ds) xs its hd rv
  refine PySem.W.min_list_data (I.ok.hd hc) hl.isList (by simpa using hr) hal (by show X.A.units + 1 + PyData.depthAll (d :: ds) < cLine; omega) fun i v h' tk bs hv hm hk => ?_
  have hv' : its[i]? = some v := by simpa using hv
  have hi : i < its.length := (List.getElem?_eq_some_iff.mp hv').1
  have e1 := rv.length
  have e2 := DpAll.len hd
  obtain ⟨x, hx⟩ : ∃ x, xs[i]? = some x := ⟨xs[i]'(by omega), List.getElem?_eq_getElem _⟩
  obtain ⟨e, he⟩ : ∃ e, (d :: ds)[i]? = some e := ⟨(d :: ds)[i]'(by omega), List.getElem?_eq_getElem _⟩
  obtain ⟨u, h1, h2⟩ := rv.get hx
  rw [hv'] at h1; cases h1
  obtain ⟨bs', hr'⟩ := Dp.reads I e x v (DpAll.get hd hx he) h2
  have ee := (PyProof.Rows.reads_det (h := s.heap) (h' := h') (fun b o hb _ => hk b o hb) hr' hm).1
  refine ⟨x, H, I.kept (t' := tk) hk, h2, q i x hx ?_⟩
  rw [he, ee]
end
/-! ### calls by data -/
section
variable {K : PySem.W.Frag} {σ : L2.St} {G H : Hp}
theorem rpa_of_get : ∀ {vs : List V} {ds : List PyData}, vs.length = ds.length → (∀ (i : Nat) v d, vs[i]? = some v → ds[i]? = some d → Rp K G v d) → RpA K G vs ds
  | [], [], _, _ => .nil
  | v :: vs, d :: ds, h, f => .cons (f 0 v d rfl rfl) (rpa_of_get (by simpa using h) fun i => f (i + 1))
  | [], _ :: _, h, _ => by cases h
  | _ :: _, [], h, _ => by cases h
theorem cav_sortD {ds : List PyData} (hal : PySem.W.AllAlike ds) (hk : PySem.W.Sortable ds) (hdep : ∀ d ∈ ds, d.depth ≤ 64) (hf : dicFs ds = true) : CaV K (rSortD K) [.list ds] (.list (sortD ds)) := fun G H vs hi pv Q q => by
  obtain ⟨v, ws, rfl, p1, p2⟩ := rpa_cons pv
  rw [rpa_nil p2]
  obtain ⟨p, xs, rfl, h1, h2⟩ := rp_ref p1
  refine ⟨p, xs, ds, rfl, .inl (.inl (hi.ex h1 rfl)), h2.dp hi hf, hal, hk, hdep, fun r ys hr hR => ?_⟩
  obtain ⟨hl, hg⟩ := hR (fun x d => Rp K G x d) fun i x d hx hd => by
    obtain ⟨v, e1, e2⟩ := h2.get hd
    rw [hx] at e1; cases e1; exact e2
  have u := Up.new (o := .lst ys) hi hr
  exact q _ _ _ u (.lst upd_same ((rpa_of_get hl hg).mono u.g))
theorem cav_minD {d : PyData} {ds : List PyData} (hal : PySem.W.AlikeAll (d :: ds)) (hdep : PyData.depthAll (d :: ds) ≤ 64) (hf : dicFs (d :: ds) = true) : CaV K (rMinD K) [.list (d :: ds)] (PySem.W.minD d ds) := fun G H vs hi pv Q q => by
  obtain ⟨v, ws, rfl, p1, p2⟩ := rpa_cons pv
  rw [rpa_nil p2]
  obtain ⟨p, xs, rfl, h1, h2⟩ := rp_ref p1
  refine ⟨p, xs, d, ds, rfl, .inl (.inl (hi.ex h1 rfl)), h2.dp hi hf, hal, hdep, fun i x hx he => ?_⟩
  obtain ⟨v, e1, e2⟩ := h2.get he
  rw [hx] at e1; cases e1
  exact q _ G H (Up.refl hi) e2
/-- len -/
def rLenU (K : PySem.W.Frag) : List V → Hp → VK → Prop := fun xs H Q => ∃ x n, xs = [x] ∧ LenV K x H n ∧ Q (.int n) H
theorem cav_lenS {l : List Nat} (h : l.length ≤ 10000000) : CaV K (rLenU K) [.str (S l)] (.int (l.length : Int)) := fun G H vs hi pv Q q => by
  obtain ⟨v, ws, rfl, p1, p2⟩ := rpa_cons pv
  rw [rpa_nil p2, rp_str p1]
  refine ⟨_, l.length, rfl, ⟨by rw [S_len]; exact Nat.le_trans h (by decide), (S_len l).symm⟩, q _ G H (Up.refl hi) (.int _)⟩
theorem cav_lenL {ds : List PyData} : CaV K (rLenU K) [.list ds] (.int (ds.length : Int)) := fun G H vs hi pv Q q => by
  obtain ⟨v, ws, rfl, p1, p2⟩ := rpa_cons pv
  rw [rpa_nil p2]
  obtain ⟨p, xs, rfl, h1, h2⟩ := rp_ref p1
  refine ⟨_, ds.length, rfl, .inl ⟨xs, .inl (.inl (hi.ex h1 rfl)), h2.len.symm⟩, q _ G H (Up.refl hi) (.int _)⟩
theorem cav_lenT {ds : List PyData} : CaV K (rLenU K) [.tuple ds] (.int (ds.length : Int)) := fun G H vs hi pv Q q => by
  obtain ⟨v, ws, rfl, p1, p2⟩ := rpa_cons pv
  rw [rpa_nil p2]
  obtain ⟨p, xs, rfl, h1, h2⟩ := rp_tup p1
  refine ⟨_, ds.length, rfl, .inr ⟨xs, in_t hi h1, h2.len.symm⟩, q _ G H (Up.refl hi) (.int _)⟩
def rAbs : List V → Hp → VK → Prop := fun xs H Q => ∃ i, xs = [.int i] ∧ Q (.int (if i < 0 then -i else i)) H
theorem cav_abs {i : Int} : CaV K rAbs [.int i] (.int (i.natAbs : Int)) := fun G H vs hi pv Q q => by
  obtain ⟨v, ws, rfl, p1, p2⟩ := rpa_cons pv
  rw [rpa_nil p2, rp_int p1]
  refine ⟨i, rfl, ?_⟩
  have e : (if i < 0 then -i else i) = (i.natAbs : Int) := by split <;> omega
  rw [e]
  exact q _ G H (Up.refl hi) (.int _)
def rMin2 : List V → Hp → VK → Prop := fun xs H Q => ∃ i j, xs = [.int i, .int j] ∧ Q (.int (if j < i then j else i)) H
def rMax2 : List V → Hp → VK → Prop := fun xs H Q => ∃ i j, xs = [.int i, .int j] ∧ Q (.int (if j > i then j else i)) H
theorem cav_min2 {i j : Int} : CaV K rMin2 [.int i, .int j] (.int (min i j)) := fun G H vs hi pv Q q => by
  obtain ⟨v, ws, rfl, p1, p2⟩ := rpa_cons pv
  obtain ⟨v', ws', rfl, p3, p4⟩ := rpa_cons p2
  rw [rpa_nil p4, rp_int p1, rp_int p3]
  refine ⟨i, j, rfl, ?_⟩
  have e : (if j < i then j else i) = min i j := by split <;> omega
  rw [e]
  exact q _ G H (Up.refl hi) (.int _)
theorem cav_max2 {i j : Int} : CaV K rMax2 [.int i, .int j] (.int (max i j)) := fun G H vs hi pv Q q => by
  obtain ⟨v, ws, rfl, p1, p2⟩ := rpa_cons pv
  obtain ⟨v', ws', rfl, p3, p4⟩ := rpa_cons p2
  rw [rpa_nil p4, rp_int p1, rp_int p3]
  refine ⟨i, j, rfl, ?_⟩
  have e : (if j > i then j else i) = max i j := by split <;> omega
  rw [e]
  exact q _ G H (Up.refl hi) (.int _)
def rInt1 : List V → Hp → VK → Prop := fun xs H Q => (∃ i, xs = [.int i] ∧ Q (.int i) H) ∨ ∃ k, xs = [.bl k] ∧ Q (.int (if k then 1 else 0)) H
theorem cav_int {i : Int} : CaV K rInt1 [.int i] (.int i) := fun G H vs hi pv Q q => by
  obtain ⟨v, ws, rfl, p1, p2⟩ := rpa_cons pv
  rw [rpa_nil p2, rp_int p1]
  exact .inl ⟨i, rfl, q _ G H (Up.refl hi) (.int _)⟩
theorem cav_intB {i : Bool} : CaV K rInt1 [.bool i] (.int (if i then 1 else 0)) := fun G H vs hi pv Q q => by
  obtain ⟨v, ws, rfl, p1, p2⟩ := rpa_cons pv
  rw [rpa_nil p2, rp_bool p1]
  exact .inr ⟨i, rfl, q _ G H (Up.refl hi) (.int _)⟩
theorem cav_all {bs : List Bool} : CaV K (rAll K) [.list (bs.map .bool)] (.bool (bs.all id)) := fun G H vs hi pv Q q => by
  obtain ⟨v, ws, rfl, p1, p2⟩ := rpa_cons pv
  rw [rpa_nil p2]
  obtain ⟨p, xs, rfl, h1, h2⟩ := rp_ref p1
  rw [rpa_bools h2] at h1
  exact ⟨p, bs, rfl, .inl (.inl (hi.ex h1 rfl)), q _ G H (Up.refl hi) (.bl _)⟩
theorem cav_any {bs : List Bool} : CaV K (rAny K) [.list (bs.map .bool)] (.bool (bs.any id)) := fun G H vs hi pv Q q => by
  obtain ⟨v, ws, rfl, p1, p2⟩ := rpa_cons pv
  rw [rpa_nil p2]
  obtain ⟨p, xs, rfl, h1, h2⟩ := rp_ref p1
  rw [rpa_bools h2] at h1
  exact ⟨p, bs, rfl, .inl (.inl (hi.ex h1 rfl)), q _ G H (Up.refl hi) (.bl _)⟩
theorem cav_sum {ns : List Int} : CaV K (rSum K) [.list (ns.map .int)] (.int ns.sum) := fun G H vs hi pv Q q => by
  obtain ⟨v, ws, rfl, p1, p2⟩ := rpa_cons pv
  rw [rpa_nil p2]
  obtain ⟨p, xs, rfl, h1, h2⟩ := rp_ref p1
  rw [rpa_ints h2] at h1
  exact ⟨p, ns, rfl, .inl (.inl (hi.ex h1 rfl)), q _ G H (Up.refl hi) (.int _)⟩
/-- list(list), list(tuple) -/
def rListOf (K : PySem.W.Frag) : List V → Hp → VK → Prop := fun xs H Q => ∃ p ys, xs = [.ref p] ∧ (SqL K H p ys ∨ SqT K H p ys) ∧ ∀ l, H l = none → Q (.ref l) (upd H l (.lst ys))
theorem cav_listL {ds : List PyData} : CaV K (rListOf K) [.list ds] (.list ds) := fun G H vs hi pv Q q => by
  obtain ⟨v, ws, rfl, p1, p2⟩ := rpa_cons pv
  rw [rpa_nil p2]
  obtain ⟨p, xs, rfl, h1, h2⟩ := rp_ref p1
  refine ⟨p, xs, rfl, .inl (.inl (.inl (hi.ex h1 rfl))), fun l hl => ?_⟩
  have u := Up.new (o := .lst xs) hi hl
  exact q _ _ _ u (.lst upd_same (h2.mono u.g))
theorem cav_listT {ds : List PyData} : CaV K (rListOf K) [.tuple ds] (.list ds) := fun G H vs hi pv Q q => by
  obtain ⟨v, ws, rfl, p1, p2⟩ := rpa_cons pv
  rw [rpa_nil p2]
  obtain ⟨p, xs, rfl, h1, h2⟩ := rp_tup p1
  refine ⟨p, xs, rfl, .inr (in_t hi h1), fun l hl => ?_⟩
  have u := Up.new (o := .lst xs) hi hl
  exact q _ _ _ u (.lst upd_same (h2.mono u.g))
end
end Z

namespace Z
open PySem PySem.Spec PyProof.Rows L2
section
variable {K : PySem.W.Frag} {σ : L2.St} {G H : Hp} {ta tb te tx : TE} {a b d : PyData}
/-! ### slices -/
def cutL {α : Type} (l : List α) (lo hi : Option Int) : List α := (l.drop (HT.sIx l.length 0 lo)).take (HT.sIx l.length l.length hi - HT.sIx l.length 0 lo)
theorem cutS_S (l : List Nat) (lo hi : Option Int) : cutS (S l) lo hi = S (cutL l lo hi) := by
  unfold cutS cutL
  rw [S_cps, S_len]
  rfl
theorem eo_none : EvO tNoPart σ G none := fun G1 H1 l i Q q => q G1 H1 (Up.refl i)
theorem eo_some {i : Int} (h : Ev K te σ G (.int i)) : EvO (tPart te) σ G (some i) := fun G1 H1 l hi Q q => h G1 H1 l hi _ fun v G2 H2 u2 p2 => ⟨i, rp_int p2, q G2 H2 u2⟩
theorem ev_slS {l : List Nat} {tl th : TO} {lo hi : Option Int} (h : Ev K te σ G (.str (S l))) (hl : EvO tl σ G lo) (hh : EvO th σ G hi) (hz : l.length ≤ 10000000) : Ev K (tSl rSlS te tl th) σ G (.str (S (cutL l lo hi))) := fun G1 H1 le i Q q =>
  h G1 H1 le i _ fun v G2 H2 u2 p2 => hl G2 H2 (le.trans u2.g) u2.i _ fun G3 H3 u3 => hh G3 H3 (le.trans (u2.g.trans u3.g)) u3.i _ fun G4 H4 u4 => by
    refine ⟨S l, rp_str p2, by rw [S_len]; exact Nat.le_trans hz (by decide), ?_⟩
    rw [cutS_S]
    exact q _ G4 H4 ((u2.trans u3).trans u4) (.str _)
theorem rpa_drop : ∀ {n : Nat} {vs : List V} {ds : List PyData}, RpA K G vs ds → RpA K G (vs.drop n) (ds.drop n)
  | 0, _, _, h => h
  | _ + 1, _, _, .nil => .nil
  | n + 1, _, _, .cons _ a => rpa_drop (n := n) a
theorem rpa_take : ∀ {n : Nat} {vs : List V} {ds : List PyData}, RpA K G vs ds → RpA K G (vs.take n) (ds.take n)
  | 0, _, _, _ => .nil
  | _ + 1, _, _, .nil => .nil
  | n + 1, _, _, .cons h a => .cons h (rpa_take (n := n) a)
theorem ev_slL {ds : List PyData} {tl th : TO} {lo hi : Option Int} (h : Ev K te σ G (.list ds)) (hl : EvO tl σ G lo) (hh : EvO th σ G hi) : Ev K (tSl (rSlL K) te tl th) σ G (.list (cutL ds lo hi)) := fun G1 H1 le i Q q =>
  h G1 H1 le i _ fun v G2 H2 u2 p2 => hl G2 H2 (le.trans u2.g) u2.i _ fun G3 H3 u3 => hh G3 H3 (le.trans (u2.g.trans u3.g)) u3.i _ fun G4 H4 u4 => by
    obtain ⟨p, xs, rfl, h1, h2⟩ := rp_ref (p2.mono (u3.g.trans u4.g))
    refine ⟨p, xs, rfl, .inl (.inl (u4.i.ex h1 rfl)), fun r hr => ?_⟩
    have h3 : RpA K G4 (cutV xs lo hi) (cutL ds lo hi) := by
      show RpA K G4 (cutL xs lo hi) (cutL ds lo hi)
      unfold cutL
      rw [h2.len]
      exact rpa_take (rpa_drop h2)
    have u := Up.new (o := .lst (cutV xs lo hi)) u4.i hr
    exact q _ _ _ (((u2.trans u3).trans u4).trans u) (.lst upd_same (h3.mono u.g))
/-! ### places -/
theorem opv_ixS {l : List Nat} {i : Int} {c : Nat} (hz : l.length ≤ 10000000) (h : atI l i = some c) : OpV K (rIx K) (.str (S l)) (.int i) (.str (S [c])) := fun G H x y hi px py Q q => by
  rw [rp_str px, rp_int py]
  refine .inr (.inr ⟨S l, i, c, rfl, rfl, by rw [S_len]; exact Nat.le_trans hz (by decide), by rw [S_cps]; exact h, ?_⟩)
  exact q _ G H (Up.refl hi) (.str _)
theorem rpa_at {vs : List V} {ds : List PyData} {i : Int} (r : RpA K G vs ds) (h : atI ds i = some d) : ∃ v, atI vs i = some v ∧ Rp K G v d := by
  unfold atI at h ⊢
  rw [r.len]
  cases e : ixN ds.length i with
  | none => rw [e] at h; cases h
  | some j =>
    rw [e] at h
    exact r.get h
theorem opv_ixL {ds : List PyData} {i : Int} (h : atI ds i = some d) : OpV K (rIx K) (.list ds) (.int i) d := fun G H x y hi px py Q q => by
  obtain ⟨p, xs, rfl, h1, h2⟩ := rp_ref px
  rw [rp_int py]
  obtain ⟨v, h3, h4⟩ := rpa_at h2 h
  exact .inl ⟨p, xs, i, v, rfl, rfl, .inl (.inl (hi.ex h1 rfl)), h3, q _ G H (Up.refl hi) h4⟩
theorem opv_ixT {ds : List PyData} {i : Int} (h : atI ds i = some d) : OpV K (rIx K) (.tuple ds) (.int i) d := fun G H x y hi px py Q q => by
  obtain ⟨p, xs, rfl, h1, h2⟩ := rp_tup px
  rw [rp_int py]
  obtain ⟨v, h3, h4⟩ := rpa_at h2 h
  exact .inr (.inl ⟨p, xs, i, v, rfl, rfl, in_t hi h1, h3, q _ G H (Up.refl hi) h4⟩)
/-! ### texts -/
def rJoin (K : PySem.W.Frag) : V → List V → Hp → VK → Prop := fun x xs H Q => ∃ a p, ∃ ys : List Str, x = .str a ∧ xs = [.ref p] ∧ (SqL K H p (ys.map V.str) ∨ SqT K H p (ys.map V.str)) ∧ (ys.map (·.length)).sum + ys.length * a.length ≤ 16777216 ∧ Q (.str (Txt.join a ys)) H
theorem glue_nil : ∀ (ls : List (List Nat)) (acc : List Nat), (ls.map S).foldl (fun (acc : Array Nat) p => acc ++ (S []).cps ++ p.cps) acc.toArray = (acc ++ ls.flatten).toArray
  | [], acc => by simp
  | l :: ls, acc => by
    rw [List.map_cons, List.foldl_cons]
    have : acc.toArray ++ (S []).cps ++ (S l).cps = (acc ++ l).toArray := by simp [S]
    rw [this, glue_nil ls (acc ++ l), List.flatten_cons, List.append_assoc]
theorem join_nil (ls : List (List Nat)) : Txt.join (S []) (ls.map S) = S ls.flatten := by
  unfold Txt.join
  cases ls with
  | nil => rfl
  | cons l ls =>
    show (⟨((ls.map S).foldl (fun acc p => acc ++ (S []).cps ++ p.cps) (S l).cps)⟩ : Str) = _
    have e : (S l).cps = l.toArray := rfl
    rw [e, glue_nil ls l]
    rfl
theorem ev_join {ls : List (List Nat)} (ho : Ev K ta σ G (.str (S []))) (h : Ev K te σ G (.list (ls.map fun l => .str (S l)))) (hz : (ls.map (·.length)).sum ≤ 10000000) : Ev K (tM1 (rJoin K) ta te) σ G (.str (S ls.flatten)) := fun G1 H1 le i Q q =>
  ho G1 H1 le i _ fun v G2 H2 u2 p2 => ⟨⟨_, rp_str p2⟩, h G2 H2 (le.trans u2.g) u2.i _ fun w G3 H3 u3 p3 => by
    obtain ⟨p, xs, rfl, h1, h2⟩ := rp_ref p3
    have e : (ls.map fun l => PyData.str (S l)) = (ls.map S).map .str := by rw [List.map_map]; rfl
    rw [e] at h2
    rw [rpa_strs h2] at h1
    refine ⟨S [], p, ls.map S, rp_str p2, rfl, .inl (.inl (.inl (u3.i.ex h1 rfl))), ?_, ?_⟩
    · have e1 : (ls.map S).map (·.length) = ls.map (·.length) := by
        rw [List.map_map]
        exact List.map_congr_left fun l _ => S_len l
      rw [e1, S_len]
      simp only [List.length_nil, Nat.mul_zero, Nat.add_zero]
      exact Nat.le_trans hz (by decide)
    · rw [join_nil]
      exact q _ G3 H3 (u2.trans u3) (.str _)⟩
theorem mul_S (l : List Nat) (n : Nat) : Txt.mul (S l) (n : Int) = S (List.replicate n l).flatten := by
  unfold Txt.mul
  by_cases h0 : n = 0
  · subst h0; rfl
  rw [if_neg (by omega)]
  by_cases h1 : ((n : Int) == 1 || (S l).length == 0) = true
  · rw [if_pos h1]
    rw [S_len] at h1
    rcases Bool.or_eq_true_iff.mp h1 with e | e
    · have : n = 1 := by
        have e' : (n : Int) = 1 := by simpa using e
        omega
      subst this
      simp
    · have : l = [] := by simpa using e
      subst this
      have : (List.replicate n ([] : List Nat)).flatten = [] := by simp
      rw [this]
  · rw [if_neg h1]
    have key : ∀ (k : Nat) (acc : List Nat), (List.replicate k (S l).cps).foldl (· ++ ·) acc.toArray = (acc ++ (List.replicate k l).flatten).toArray := by
      intro k
      induction k with
      | zero => intro acc; simp
      | succ k ih =>
        intro acc
        rw [List.replicate_succ, List.foldl_cons, List.replicate_succ, List.flatten_cons]
        have : acc.toArray ++ (S l).cps = (acc ++ l).toArray := by simp [S]
        rw [this, ih, List.append_assoc]
    have := key n []
    simp only [Int.toNat_natCast]
    rw [this]
    rfl
theorem opv_mulS {l : List Nat} {n : Nat} (h : l.length * n ≤ 10000000) (hn : n ≤ 1000000) : OpV K rMulS (.str (S l)) (.int (n : Int)) (.str (S (List.replicate n l).flatten)) := fun G H x y hi px py Q q => by
  rw [rp_str px, rp_int py]
  refine ⟨S l, n, rfl, rfl, ⟨?_, fun h1 _ => ?_, fun _ _ => ?_⟩, ?_⟩
  · simp only [Bool.or_eq_false_iff, decide_eq_false_iff_not]
    constructor <;> omega
  · rw [S_len]
    have hpos : (0 : Int) < (n : Int) := by omega
    have : (l.length : Int) ≤ (2 ^ 63 - 1) / (n : Int) := by
      rw [Int.le_ediv_iff_mul_le hpos]
      have : ((l.length * n : Nat) : Int) ≤ ((10000000 : Nat) : Int) := Int.ofNat_le.mpr h
      rw [Int.natCast_mul] at this
      omega
    omega
  · rw [S_len]
    unfold PySem.Builtin.Str.tooLong
    simp only [Int.toNat_natCast, decide_eq_false_iff_not]
    have : sizeLine = 16777216 := by decide
    omega
  · rw [mul_S]
    exact q _ G H (Up.refl hi) (.str _)
/-! ### list(range(..)) -/
theorem ev_lstRg1 {i : Int} (h : Ev K te σ G (.int i)) (h0 : 0 ≤ i) (h1 : i ≤ 1000000) : Ev K (tLstRg (tRg1 te)) σ G (.list ((rng 0 i.toNat).map .int)) := fun G1 H1 le hi Q q => h G1 H1 le hi _ fun v G2 H2 u2 p2 =>
  ⟨i, rp_int p2, ⟨by omega, by omega, by omega, by omega, by omega⟩, fun p hp => by
    have e : rgV 0 i = (rng 0 i.toNat).map V.int := by
      unfold rgV rng
      rw [List.map_map]
      congr 1
      rw [Int.sub_zero]
    rw [e]
    have u := Up.new (o := .lst ((rng 0 i.toNat).map V.int)) u2.i hp
    exact q _ _ _ (u2.trans u) (.lst upd_same (ints_rpa _))⟩
theorem ev_lstRg2 {i j : Int} (ha : Ev K ta σ G (.int i)) (hb : Ev K tb σ G (.int j)) (h0 : 0 ≤ i) (h1 : i ≤ 1000000) (h2 : -1000000 ≤ j) (h3 : j ≤ 1000000) : Ev K (tLstRg (tRg2 ta tb)) σ G (.list ((rng i (j - i).toNat).map .int)) := fun G1 H1 le hi Q q => ha G1 H1 le hi _ fun v G2 H2 u2 p2 => hb G2 H2 (le.trans u2.g) u2.i _ fun w G3 H3 u3 p3 =>
  ⟨i, j, rp_int p2, rp_int p3, ⟨by omega, by omega, by omega, by omega, by omega⟩, fun p hp => by
    have e : rgV i j = (rng i (j - i).toNat).map V.int := by
      unfold rgV rng
      rw [List.map_map]
      rfl
    rw [e]
    have u := Up.new (o := .lst ((rng i (j - i).toNat).map V.int)) u3.i hp
    exact q _ _ _ ((u2.trans u3).trans u) (.lst upd_same (ints_rpa _))⟩
/-! ### dicts -/
def dD (es : List (Key × PyData)) : PyData := .dict (es.map fun e => (kD e.1, e.2))
def valK {α : Type} (es : List (Key × α)) (k : Key) : Option α := (es.find? fun e => decide (e.1 = k)).map (·.2)
inductive RpE (K : PySem.W.Frag) (G : Hp) : List (Key × V) → List (Key × PyData) → Prop
  | nil : RpE K G [] []
  | cons {k : Key} {v : V} {vs : List (Key × V)} {d : PyData} {ds : List (Key × PyData)} : Rp K G v d → RpE K G vs ds → RpE K G ((k, v) :: vs) ((k, d) :: ds)
theorem kD_inj {a b : Key} (h : kD a = kD b) : a = b := by
  cases a <;> cases b <;> simp [kD] at h <;> simp [h]
theorem rpe_of : ∀ {kvs : List (Key × V)} {es : List (Key × PyData)}, RpD K G kvs (es.map fun e => (kD e.1, e.2)) → RpE K G kvs es
  | _, [], h => by cases h; exact .nil
  | kvs, (k, d) :: es, h => by
    rw [List.map_cons] at h
    generalize hz : (kD k, d) = z at h
    cases h with
    | cons h a =>
      simp only [Prod.mk.injEq] at hz
      obtain ⟨e1, e2⟩ := hz
      have := kD_inj e1
      subst this e2
      exact .cons h (rpe_of a)
theorem rpe_to : ∀ {kvs : List (Key × V)} {es : List (Key × PyData)}, RpE K G kvs es → RpD K G kvs (es.map fun e => (kD e.1, e.2))
  | _, _, .nil => .nil
  | _, _, .cons h a => .cons h (rpe_to a)
theorem RpE.mono {G' : Hp} (l : Le G G') : ∀ {kvs : List (Key × V)} {es : List (Key × PyData)}, RpE K G kvs es → RpE K G' kvs es
  | _, _, .nil => .nil
  | _, _, .cons h a => .cons (h.mono l) (RpE.mono l a)
theorem RpE.len : ∀ {kvs : List (Key × V)} {es : List (Key × PyData)}, RpE K G kvs es → kvs.length = es.length
  | _, _, .nil => rfl
  | _, _, .cons _ a => by rw [List.length_cons, List.length_cons, RpE.len a]
theorem RpE.val : ∀ {kvs : List (Key × V)} {es : List (Key × PyData)} {k : Key}, RpE K G kvs es → (valV kvs k = none ∧ valK es k = none) ∨ ∃ v d, valV kvs k = some v ∧ valK es k = some d ∧ Rp K G v d
  | _, _, _, .nil => .inl ⟨rfl, rfl⟩
  | (k', v) :: kvs, (_, d) :: es, k, .cons h a => by
    by_cases e : k' = k
    · subst e
      exact .inr ⟨v, d, by simp [valV], by simp [valK], h⟩
    · rcases RpE.val (k := k) a with ⟨h1, h2⟩ | ⟨v', d', h1, h2, h3⟩
      · exact .inl ⟨by simpa [valV, e] using h1, by simpa [valK, e] using h2⟩
      · exact .inr ⟨v', d', by simpa [valV, e] using h1, by simpa [valK, e] using h2, h3⟩
theorem rp_dic {v : V} {es : List (Key × PyData)} (h : Rp K G v (dD es)) : ∃ p kvs, v = .ref p ∧ G p = some (.dK kvs) ∧ RpE K G kvs es := by
  unfold dD at h
  generalize hz : (es.map fun e => (kD e.1, e.2)) = z at h
  cases h with
  | dic h a =>
    subst hz
    exact ⟨_, _, rfl, h, rpe_of a⟩
theorem kD_kV {G : Hp} {v : V} {k : Key} (h : Rp K G v (kD k)) : v = kV k := by
  cases k with
  | inl i => exact rp_int h
  | inr x => exact rp_str h
theorem ev_dget {es : List (Key × PyData)} {k : Key} (ho : Ev K ta σ G (dD es)) (hk : Ev K tb σ G (kD k)) (hv : valK es k = some d) : Ev K (tDGet ta tb) σ G d := fun G1 H1 le i Q q =>
  ho G1 H1 le i _ fun x G2 H2 u2 p2 => hk G2 H2 (le.trans u2.g) u2.i _ fun y G3 H3 u3 p3 => by
    obtain ⟨p, kvs, rfl, h1, h2⟩ := rp_dic (p2.mono u3.g)
    rcases h2.val (k := k) with ⟨_, z⟩ | ⟨v, d', z1, z2, z3⟩
    · rw [hv] at z; cases z
    · rw [hv] at z2; cases z2
      refine ⟨p, v, rfl, .inl ⟨kvs, k, u3.i.rd h1, kD_kV p3, z1.symm⟩, q _ G3 H3 (u2.trans u3) z3⟩
theorem ev_din {es : List (Key × PyData)} {k : Key} (hk : Ev K tb σ G (kD k)) (ho : Ev K ta σ G (dD es)) : Ev K (tDIn tb ta) σ G (.bool (valK es k).isSome) := fun G1 H1 le i Q q =>
  hk G1 H1 le i _ fun y G2 H2 u2 p2 => ho G2 H2 (le.trans u2.g) u2.i _ fun x G3 H3 u3 p3 => by
    obtain ⟨p, kvs, rfl, h1, h2⟩ := rp_dic p3
    refine ⟨p, valV kvs k, rfl, .inl ⟨kvs, k, u3.i.rd h1, kD_kV p2, rfl⟩, ?_⟩
    have e : (valV kvs k).isSome = (valK es k).isSome := by
      rcases h2.val (k := k) with ⟨z1, z2⟩ | ⟨v, d', z1, z2, z3⟩ <;> rw [z1, z2] <;> rfl
    rw [e]
    exact q _ G3 H3 (u2.trans u3) (.bl _)
theorem ev_dget2 {es : List (Key × PyData)} {k : Key} (ho : Ev K ta σ G (dD es)) (hk : Ev K tb σ G (kD k)) (hx : Ev K tx σ G d) : Ev K (tDGet2 ta tb tx) σ G ((valK es k).getD d) := fun G1 H1 le i Q q =>
  ho G1 H1 le i _ fun x G2 H2 u2 p2 => by
    obtain ⟨p, kvs, rfl, h1, h2⟩ := rp_dic p2
    refine ⟨p, rfl, .inl ⟨kvs, u2.i.rd h1⟩, hk G2 H2 (le.trans u2.g) u2.i _ fun y G3 H3 u3 p3 => hx G3 H3 (le.trans (u2.g.trans u3.g)) u3.i _ fun z G4 H4 u4 p4 => ?_⟩
    refine ⟨valV kvs k, .inl ⟨kvs, k, u4.i.rd (u4.g _ _ (u3.g _ _ h1)), kD_kV p3, rfl⟩, q _ G4 H4 ((u2.trans u3).trans u4) ?_⟩
    rcases h2.val (k := k) with ⟨z1, z2⟩ | ⟨v, d', z1, z2, z3⟩
    · rw [z1, z2]; exact p4
    · rw [z1, z2]; exact z3.mono (u3.g.trans u4.g)
end
end Z

namespace Z
open PySem PySem.Spec PyProof.Rows L2
/-- the built-in names are free -/
structure Blt (mg : Str → Option Value) : Prop where
  z_abs : mg "abs" = none
  z_all : mg "all" = none
  z_any : mg "any" = none
  z_bool : mg "bool" = none
  z_dict : mg "dict" = none
  z_enumerate : mg "enumerate" = none
  z_int : mg "int" = none
  z_isinstance : mg "isinstance" = none
  z_len : mg "len" = none
  z_list : mg "list" = none
  z_max : mg "max" = none
  z_min : mg "min" = none
  z_range : mg "range" = none
  z_repr : mg "repr" = none
  z_set : mg "set" = none
  z_sorted : mg "sorted" = none
  z_str : mg "str" = none
  z_sum : mg "sum" = none
  z_tuple : mg "tuple" = none
  z_zip : mg "zip" = none
/-- the def x of the module keeps the promise sp -/
def FnIs (P : Program) (w : World) (K : PySem.W.Frag) (mg : Str → Option Value) (base : Heap) (k : Nat) (x : Str) (ps : List Str) (sp : Sp) : Prop :=
  ∃ f fd, FnOk P w K mg base (L2.CX P w) k f fd ps sp ∧ mg x = some (.ref f) ∧ PySem.W.keepIn K (.ref f) = true ∧ Binds K fd ps []
/-- an own error of a text -/
def ExcIs (K : PySem.W.Frag) (mg : Str → Option Value) (x : Str) (C : Addr) : Prop :=
  mg x = some (.ref C) ∧ PySem.W.excIn K C He.veBase "ValueError.__new__" = true ∧ PySem.W.keepIn K (.ref C) = true ∧ PySem.W.subIn K (.ref C) (.type "BaseException") = some true ∧ PySem.W.typeIn K (.ref C) = some (.type "type")
section
variable {X : Cx}
theorem pe_fn {k : Nat} {x : Str} {ps : List Str} {sp : Sp} {E : XK} {e : Expr} {es : List Expr} {t : TA} {p pos : Pos} (F : FnIs X.prog X.w X.K X.mg X.base k x ps sp) (hr : Room k X.A) (hg : Gl X x) (hx : Passes (L2.CX X.prog X.w) X E) (ha : PA X (e :: es) t) (hdb : (x == ("__debug__" : Str)) = false := by decide)
    (he : starEach (e :: es) X.env = (false, eval e X.env) :: starEach es X.env := by rfl) (hpl : (backTo pos (starEach es X.env)).any (·.1) = false := by rfl) :
    PE X (.Call (.Name x p) (e :: es) [] pos) (tCall sp [] E t) := by
  obtain ⟨f, fd, G, gm, kp, b⟩ := F
  exact pe_call G hr hg gm kp b .nil hx ha hdb he hpl
theorem pe_gstr {x z : Str} {pos : Pos} (hg : Gl X x) (h : ∃ t, X.mg x = some (.str z t)) (hd : (x == ("__debug__" : Str)) = false := by decide) : PE X (.Name x pos) (tC (.str z)) := by
  obtain ⟨t, h⟩ := h
  exact pe_glob hg h ⟨t, rfl⟩ hd
theorem pe_gint {x : Str} {z : Int} {pos : Pos} (hg : Gl X x) (h : ∃ t, X.mg x = some (.int z t)) (hd : (x == ("__debug__" : Str)) = false := by decide) : PE X (.Name x pos) (tC (.int z)) := by
  obtain ⟨t, h⟩ := h
  exact pe_glob hg h ⟨t, rfl⟩ hd
theorem pmk_exc {x m : Str} {j : Nat} {p p2 pos : Pos} {C : Addr} (h : ExcIs X.K X.mg x C) (hg : Gl X x) (hdb : (x == ("__debug__" : Str)) = false := by decide) : PMk X (.Call (.Name x p) [.Constant (.str m) j p2] [] pos) (fun _ H Q => Q (.ref C) none H) :=
  pmk_own PySem.F.excBase_ValueError h.2.1 h.1 h.2.2.1 (raises_own h.2.2.2.1 h.2.2.2.2) hg hdb
def tRaise (W : WX) (t : L2.St → Hp → XK → Prop) : TS := fun _ σ H => t σ H fun cls d H' => W cls d σ H'
end
end Z

namespace Z
open PySem PySem.Spec PyProof.Rows L2
section
variable {X : Cx}
def rInC : R2 := fun x y H Q => ∃ (c : Nat) (z : Str), x = .str ⟨#[c]⟩ ∧ y = .str z ∧ Q (.bl (decide (c ∈ z.cps.toList))) H
def rInS : R2 := fun x y H Q => ∃ i j, x = .str i ∧ y = .str j ∧ Q (.bl (!(Builtin.Str.occurrences j i 0 j.length 1).isEmpty)) H
def rLtS : R2 := fun x y H Q => ∃ i j, x = .str i ∧ y = .str j ∧ Q (.bl (decide (i.cps.toList < j.cps.toList))) H
def rLenDc : List V → Hp → VK → Prop := fun xs H Q => ∃ a kvs, xs = [V.ref a] ∧ Rd H a (.dK kvs) ∧ Q (.int kvs.length) H
theorem cr_lenD : CallR X (.builtin "len") rLenDc := by
  intro pins s σ H xs us Q I r h
  obtain ⟨a, kvs, rfl, ha, q⟩ := h
  obtain ⟨u, rfl, ru⟩ := vals1 r
  cases ru
  exact d_len I ha fun t s' I' => ⟨.int kvs.length, H, I', ⟨t, rfl⟩, q⟩
def rSortDk : List V → Hp → VK → Prop := fun xs H Q => ∃ (a : Addr) (kvs : List (Key × V)) (ks : List Str), xs = [.ref a] ∧ Rd H a (.dK kvs) ∧ kvs.map (·.1) = ks.map Sum.inr ∧ ks.length < 64 ∧
    ∀ ys p, ys.Perm ks → sortedS ys = true → H p = none → Q (.ref p) (upd H p (.lst (ys.map V.str)))
/-- list(text) -/
def rListS : List V → Hp → VK → Prop := fun xs H Q => ∃ z : Str, xs = [.str z] ∧ z.length ≤ sizeLine ∧ ∀ p, H p = none → Q (.ref p) (upd H p (.lst (z.cps.toList.map fun c => V.str ⟨#[c]⟩)))
theorem cr_listS (hc : X.calm = true) : CallR X (.type "list") rListS := by
  intro pins s σ H xs us Q I r h
  obtain ⟨z, rfl, hz, q⟩ := h
  obtain ⟨u, rfl, t, rfl⟩ := vals1 r
  refine call_list_str (I.ok.hd hc) z t (fun h' tk acc' c' hk hS hacc => ?_) hz
  obtain ⟨hsz, hat⟩ := hacc
  refine ⟨.ref _, upd H s.heap.objs.size (.lst (z.cps.toList.map fun c => V.str ⟨#[c]⟩)), I.laid (t' := tk) hk (Nat.le_refl _) ⟨by rw [List.length_map, Array.length_toList]; exact hz, acc'.toList, c', ?_, by simpa using hS⟩, rfl, q _ (I.hok.fresh (Nat.le_refl _))⟩
  refine vals_of_at (by simp [hsz]) fun j x u hx hu => ?_
  rw [List.getElem?_map] at hx
  cases hc' : z.cps.toList[j]? with
  | none => rw [hc'] at hx; cases hx
  | some c =>
    rw [hc'] at hx
    cases hx
    have hu' : acc'[j]? = some u := by simpa using hu
    obtain ⟨c2, t2, e1, e2⟩ := hat j u hu'
    have e1' : z.cps.toList[j]? = some c2 := by simpa using e1
    rw [hc'] at e1'
    cases e1'
    exact ⟨t2, e2⟩
end
section
variable {K : PySem.W.Frag} {σ : L2.St} {G H : Hp} {ta tb te tx : TE} {a b d : PyData} {tt : TT} {D : Ends}
theorem opv_inC {c : Nat} {l : List Nat} : OpV K rInC (.str (S [c])) (.str (S l)) (.bool (decide (c ∈ l))) := fun G H x y hi px py Q q => by
  rw [rp_str px, rp_str py]
  refine ⟨c, S l, rfl, rfl, ?_⟩
  rw [S_cps]
  exact q _ G H (Up.refl hi) (.bl _)
theorem opv_ltS {a b : List Nat} : OpV K rLtS (.str (S a)) (.str (S b)) (.bool (decide (a < b))) := fun G H x y hi px py Q q => by
  rw [rp_str px, rp_str py]
  refine ⟨S a, S b, rfl, rfl, ?_⟩
  have : decide ((S a).cps.toList < (S b).cps.toList) = decide (a < b) := by simp only [S_cps]
  rw [this]
  exact q _ G H (Up.refl hi) (.bl _)
theorem cav_lenD {es : List (Key × PyData)} : CaV K rLenDc [dD es] (.int (es.length : Int)) := fun G H vs hi pv Q q => by
  obtain ⟨v, ws, rfl, p1, p2⟩ := rpa_cons pv
  rw [rpa_nil p2]
  obtain ⟨p, kvs, rfl, h1, h2⟩ := rp_dic p1
  refine ⟨p, kvs, rfl, hi.rd h1, ?_⟩
  rw [h2.len]
  exact q _ G H (Up.refl hi) (.int _)
theorem cav_listS {l : List Nat} (h : l.length ≤ 1000000) : CaV K rListS [.str (S l)] (.list (l.map fun c => .str (S [c]))) := fun G H vs hi pv Q q => by
  obtain ⟨v, ws, rfl, p1, p2⟩ := rpa_cons pv
  rw [rpa_nil p2, rp_str p1]
  refine ⟨S l, rfl, by rw [S_len]; exact Nat.le_trans h (by decide), fun p hp => ?_⟩
  rw [S_cps]
  have u := Up.new (o := .lst (l.map fun c => V.str ⟨#[c]⟩)) hi hp
  refine q _ _ _ u (.lst upd_same ?_)
  have e1 : (l.map fun c => V.str ⟨#[c]⟩) = (l.map fun c => S [c]).map V.str := by rw [List.map_map]; rfl
  have e2 : (l.map fun c => PyData.str (S [c])) = (l.map fun c => S [c]).map .str := by rw [List.map_map]; rfl
  rw [e1, e2]
  exact strs_rpa _
/-- a written text -/
theorem ev_lit {z : Str} {l : List Nat} (h : z = S l) : Ev K (tC (.str z)) σ G (.str (S l)) := by
  rw [h]; exact ev_str
/-! ### statements -/
theorem EvP.at {P : Hp → V → Prop} (h : EvP te σ G P) (hi : In G H) {Q : VK} (k : ∀ v G2 H2, Up G H G2 H2 → P G2 v → Q v H2) : te σ H Q := h G H (Le.refl _) hi Q k
theorem s_set {i : Nat} (h : Ev K te σ G d) (hi : In G H) (k : ∀ v G2 H2, Up G H G2 H2 → Rp K G2 v d → D.nx (σ.set i (some v)) H2) : tAsg te (gName i) D σ H := h G H (Le.refl _) hi _ k
theorem s_ret (h : Ev K te σ G d) (hi : In G H) (k : Ret K G H D.rt d) : tRet te D σ H := h G H (Le.refl _) hi _ k
theorem s_drop (h : Ev K te σ G d) (hi : In G H) (k : ∀ v G2 H2, Up G H G2 H2 → Rp K G2 v d → D.nx σ H2) : tDrop te D σ H := h G H (Le.refl _) hi _ k
theorem s_if {t u : TS} {k : Bool} (h : EvT tt σ G k) (hi : In G H) (ht : k = true → ∀ G2 H2, Up G H G2 H2 → t D σ H2) (hf : k = false → ∀ G2 H2, Up G H G2 H2 → u D σ H2) : tIfS tt t u D σ H := h G H (Le.refl _) hi _ fun G2 H2 u2 => by
  cases k with
  | true => exact ht rfl G2 H2 u2
  | false => exact hf rfl G2 H2 u2
/-- a for: I by the turn, the slots, what is looked at and the heap -/
theorem s_for {wi : TI} {g : TG} {tb : TS} {ds : List PyData} (hi : EvI K wi σ G ds) (hin : In G H)
    (k : ∀ G0 H0, Up G H G0 H0 → ∃ I : Nat → L2.St → Hp → Hp → Prop, I 0 σ G0 H0 ∧ (∀ i σ1 G1 H1, I i σ1 G1 H1 → Le G0 G1 ∧ In G1 H1) ∧
      (∀ (i : Nat) d x σ1 G1 H1 G2 H2, ds[i]? = some d → I i σ1 G1 H1 → Up G1 H1 G2 H2 → Rp K G2 x d → g x σ1 H2 fun σ2 H3 => tb { D with nx := fun σ3 H4 => ∃ G4, I (i + 1) σ3 G4 H4, ct := fun σ3 H4 => ∃ G4, I (i + 1) σ3 G4 H4, bk := D.nx } σ2 H3) ∧
      ∀ σ1 G1 H1, I ds.length σ1 G1 H1 → D.nx σ1 H1) : tFor wi g tb D σ H := hi G H (Le.refl _) hin _ fun J G2 H2 u2 w => by
  obtain ⟨I, h0, hG, hs, hd⟩ := k G2 H2 u2
  refine ⟨fun i m σ1 H1 => m = ds.length - i ∧ i ≤ ds.length ∧ ∃ G1, I i σ1 G1 H1, ⟨ds.length, by simp, Nat.zero_le _, G2, h0⟩, ?_⟩
  rintro i m σ1 H1 ⟨rfl, hle, G1, hI⟩
  obtain ⟨l1, i1⟩ := hG _ _ _ _ hI
  obtain ⟨wstop, wgo⟩ := w G1 H1 l1 i1
  by_cases hlt : i < ds.length
  · obtain ⟨go, yl⟩ := wgo i ds[i] (List.getElem?_eq_getElem hlt)
    refine .inr ⟨go, fun σ3 H4 => ∃ G4, I (i + 1) σ3 G4 H4, fun σ' H' x => ⟨ds.length - (i + 1), by omega, rfl, hlt, x⟩, fun x H3 y => ?_⟩
    obtain ⟨G3, u3, r3⟩ := yl x H3 y
    exact hs i ds[i] x σ1 G1 H1 G3 H3 (List.getElem?_eq_getElem hlt) hI u3 r3
  · have e : i = ds.length := by omega
    subst e
    exact .inl ⟨wstop, hd σ1 G1 H1 hI⟩
end
end Z

namespace Z
open PySem PySem.Spec PyProof.Rows L2
section
variable {X : Cx}
/-- name = {k: v for ..}, the name a local on the comprehension's line -/
theorem ps_setDc {i : Nat} {y : Str} {py pos spos : Pos} {kx vx tg iter : Expr} {ifs : List Expr} {scope : Scope} {own : List (Str × Nat)} {wi : TI} {g : TG} {tt : TT} {tk tv : TE} (hc : X.calm = true) (hN : X.N.Nodup) (hy : X.N[i]? = some y) (hyl : X.env.scope.names.lookup y = some .local)
    (hsw : swapsWith (.DictComp kx vx [⟨tg, iter, ifs, 0⟩] scope pos) (some (.Name y py)) spos.line X.env = pure true) (hi : PI X tg iter wi) (ok : BlkOk X.N X.env.scope scope own)
    (hg : ∀ (s : Shared) (H : Hp) (C : Addr) (cl : List (Str × Addr)) (fp : List Addr), PG (X.blk s H scope (compEnvC scope cl C X.env) fp) tg g)
    (ht : ∀ (s : Shared) (H : Hp) (C : Addr) (cl : List (Str × Addr)) (fp : List Addr), PTs (X.blk s H scope (compEnvC scope cl C X.env) fp) ifs tt)
    (hk : ∀ (s : Shared) (H : Hp) (C : Addr) (cl : List (Str × Addr)) (fp : List Addr), PE (X.blk s H scope (compEnvC scope cl C X.env) fp) kx tk)
    (he : ∀ (s : Shared) (H : Hp) (C : Addr) (cl : List (Str × Addr)) (fp : List Addr), PE (X.blk s H scope (compEnvC scope cl C X.env) fp) vx tv)
    (hs : ∀ x, foldedSetIterable iter X.env x = pure x := by intro _; rfl) :
    PS X (.Assign [.Name y py] (.DictComp kx vx [⟨tg, iter, ifs, 0⟩] scope pos) spos) (tAsg (tDc wi g tt tk tv (own.map (·.2))) (gName i)) := by
  constructor
  intro pins s σ H D J hQ
  have hQ2 : tDc wi g tt tk tv (own.map (·.2)) σ H (fun x H1 => gName i x σ H1 D.nx) := hQ
  rw [exec_Assign_Name_used _ _ _ _ hsw]
  apply wpAny_bind; apply wpAny_standAt; apply wpAny_bind
  show wpAny _ X.A (do let _ ← comprehension (.DictComp kx vx [⟨tg, iter, ifs, 0⟩] scope pos) scope X.env (firstIterPos [⟨tg, iter, ifs, 0⟩] pos) newDict false (eval iter X.env) (some (assign (.Name y py) X.env))) _ _ s
  apply wpAny_bind
  refine thn (dc_core (Qf := fun _ z => SP X pins D .next z) hc hN J hi ok hg ht hk he hs hQ2 ?_) (fun _ z hz => wpAny_pure (wpAny_pure hz))
  intro B C z m H2 J2 q hn fp
  show wpAny _ _ (assign (.Name y py) X.env (.ref B)) _ _ _
  refine wpAny_assign_Name (store_ok2 (v := V.ref B) J2 hN hy (.inl hyl) rfl ?_ (.inr hyl))
  rintro z2 J3 ⟨a, sb, ha⟩
  have hne : C ≠ a := by
    rcases ha with e | e
    · rw [e]; exact fp.2.1
    · intro e2; exact fp.2.2.2.2.1 y a e e2.symm
  exact ⟨m, hn.sameBut sb hne, fun h3 sb3 => ⟨_, H2, J3.turned (t' := z2.toks) (fun b o hb e => (sb3.2 b hb).trans e) fp.1 fp.2.1 fp.2.2.2.1 fp.2.2.2.2.1 fp.2.2.2.2.2, q⟩⟩
theorem sw_dict {kx vx : Expr} {gs : List Comprehension} {scope : Scope} {pos py : Pos} {y : Str} {l : Nat} {env : Env} (hk : env.scope.kind = .function) (hy : env.scope.names.lookup y = some .local) (hl : (py.line == pos.line) = true)
    (ha : (scope.names.any fun (n, k) => n == y && (k == .local || k == .cell)) = false) : swapsWith (.DictComp kx vx gs scope pos) (some (.Name y py)) l env = pure true := by
  have e1 : env.kindOf y = some .local := hy
  have e2 : env.blockKind = .function := by unfold Env.blockKind; rw [hk] <;> rfl
  simp only [swapsWith, e1, e2, ha, hl, Expr.pos]
  rfl
end
section
variable {K : PySem.W.Frag} {σ : L2.St} {G : Hp} {tt : TT} {tk tv : TE} {wi : TI} {g : TG}
def putE {α : Type} (es : List (Key × α)) (k : Key) (v : α) : List (Key × α) :=
  if es.any (fun e => decide (e.1 = k)) then es.map (fun e => if e.1 = k then (e.1, v) else e) else es ++ [(k, v)]
def mrgE {α : Type} (es : List (Key × α)) : List (Key × α) := es.foldl (fun acc e => putE acc e.1 e.2) []
theorem putK_putE (kvs : List (Key × V)) (k : Key) (v : V) : putK kvs k v = putE kvs k v := by
  unfold putK putE
  congr 1
theorem rpe_map {k : Key} {v : V} {d : PyData} (p : Rp K G v d) : ∀ {kvs : List (Key × V)} {es : List (Key × PyData)}, RpE K G kvs es → RpE K G (kvs.map fun e => if e.1 = k then (e.1, v) else e) (es.map fun e => if e.1 = k then (e.1, d) else e)
  | _, _, .nil => .nil
  | (k', _) :: _, _, .cons h a => by
    simp only [List.map_cons]
    by_cases e : k' = k
    · rw [if_pos e, if_pos e]; exact .cons p (rpe_map p a)
    · rw [if_neg e, if_neg e]; exact .cons h (rpe_map p a)
theorem rpe_snoc {k : Key} {v : V} {d : PyData} (p : Rp K G v d) : ∀ {kvs : List (Key × V)} {es : List (Key × PyData)}, RpE K G kvs es → RpE K G (kvs ++ [(k, v)]) (es ++ [(k, d)])
  | _, _, .nil => .cons p .nil
  | _, _, .cons h a => .cons h (rpe_snoc p a)
theorem rpe_any {k : Key} : ∀ {kvs : List (Key × V)} {es : List (Key × PyData)}, RpE K G kvs es → kvs.any (fun e => decide (e.1 = k)) = es.any (fun e => decide (e.1 = k))
  | _, _, .nil => rfl
  | _, _, .cons _ a => by simp only [List.any_cons]; rw [rpe_any a]
theorem RpE.put {k : Key} {v : V} {d : PyData} {kvs : List (Key × V)} {es : List (Key × PyData)} (r : RpE K G kvs es) (p : Rp K G v d) : RpE K G (putK kvs k v) (putE es k d) := by
  rw [putK_putE]
  unfold putE
  rw [rpe_any r]
  split
  · exact rpe_map p r
  · exact rpe_snoc p r
theorem putE_len {α : Type} (es : List (Key × α)) (k : Key) (v : α) : (putE es k v).length ≤ es.length + 1 := by
  unfold putE
  split <;> simp
theorem mrg_len {α : Type} : ∀ (es acc : List (Key × α)), (es.foldl (fun acc e => putE acc e.1 e.2) acc).length ≤ acc.length + es.length
  | [], acc => by simp
  | e :: es, acc => by
    rw [List.foldl_cons]
    have h1 := mrg_len es (putE acc e.1 e.2)
    have h2 := putE_len acc e.1 e.2
    rw [List.length_cons]
    omega
/-- a dict comprehension -/
theorem ev_dc {α : Type} {D : α → PyData} {xs : List α} {p : α → Bool} {κ : α → Key} {f : α → PyData} {vs : List Nat} {B : α → L2.St → Hp → Prop} (hi : EvI K wi σ G (xs.map D)) (hb : ∀ z ∈ xs, Bnd K g (wipe σ vs) (D z) (B z))
    (hw : ∀ z ∈ xs, ∀ σ2 G, B z σ2 G → wipe σ2 vs = wipe σ vs)
    (ht : ∀ z ∈ xs, ∀ G1 σ2, Le G G1 → B z σ2 G1 → EvT tt σ2 G1 (p z)) (hk : ∀ z ∈ xs, p z = true → ∀ G1 σ2, Le G G1 → B z σ2 G1 → Ev K tk σ2 G1 (kD (κ z))) (he : ∀ z ∈ xs, p z = true → ∀ G1 σ2, Le G G1 → B z σ2 G1 → Ev K tv σ2 G1 (f z))
    (hBm : ∀ z σ2 G1 G2, Le G1 G2 → B z σ2 G1 → B z σ2 G2) (hl : xs.length ≤ 100000) : Ev K (tDc wi g tt tk tv vs) σ G (dD (mrgE ((xs.filter p).map fun z => (κ z, f z)))) := fun G1 H1 l i Q q => hi G1 H1 l i _ fun J G2 H2 u2 w => by
  intro D' hD
  have rm : ∀ {Ga Ha : Hp}, Up G2 H2 Ga Ha → True := fun _ => trivial
  refine ⟨fun i m H => m = xs.length - i ∧ i ≤ xs.length ∧ ∃ G3, G3 D' = none ∧ Up G2 H2 G3 (fun b => if b = D' then none else H b) ∧ In G3 H ∧ ∃ acc, H D' = some (.dK acc) ∧ RpE K G3 acc (mrgE (((xs.take i).filter p).map fun z => (κ z, f z))), ⟨xs.length, by simp, Nat.zero_le _, G2, u2.i.no hD, ?_, ?_, [], upd_same, .nil⟩, ?_⟩
  · refine ⟨Le.refl _, fun b o e => ?_, fun b o e => ?_, fun _ _ e => .inl e⟩
    · have ne : b ≠ D' := fun z => by subst z; rw [u2.i.no hD] at e; cases e
      simp only [if_neg ne, upd_ne ne]
      exact u2.i b o e
    · have ne : b ≠ D' := fun z => by subst z; rw [hD] at e; cases e
      simp only [if_neg ne, upd_ne ne]
      exact e
  · exact u2.i.mut (u2.i.no hD)
  · rintro j m H ⟨rfl, hj, G3, hG3, u3, i3, acc, hacc, racc⟩
    obtain ⟨wstop, wgo⟩ := w G3 H u3.g i3
    have grow : ∀ {Ga Ha Gb Hb : Hp}, Up G2 H2 Ga (fun b => if b = D' then none else Ha b) → Ga D' = none → Up Ga Ha Gb Hb → Gb D' = none → Up G2 H2 Gb (fun b => if b = D' then none else Hb b) := fun {Ga Ha Gb Hb} ua na ub nb => by
      refine ⟨ua.g.trans ub.g, fun b o e => ?_, fun b o e => ?_, fun b o e => ?_⟩
      · have ne : b ≠ D' := fun z => by subst z; rw [nb] at e; cases e
        simp only [if_neg ne]
        exact ub.i b o e
      · have h1 := ua.h b o e
        have ne : b ≠ D' := fun z => by subst z; rw [hD] at e; cases e
        simp only [if_neg ne] at h1 ⊢
        exact ub.h b o h1
      · have ne : b ≠ D' := fun z => by subst z; rw [nb] at e; cases e
        rcases ub.n b o e with q | q
        · exact ua.n b o q
        · refine .inr ?_
          cases h2 : H2 b with
          | none => rfl
          | some o2 =>
            have h1 := ua.h b o2 h2
            simp only [if_neg ne, q] at h1
            cases h1
    by_cases hlt : j < xs.length
    · have hz : xs[j]? = some xs[j] := List.getElem?_eq_getElem hlt
      have hm : xs[j] ∈ xs := List.getElem_mem hlt
      obtain ⟨go, yl⟩ := wgo j (D xs[j]) (by rw [List.getElem?_map, hz]; rfl)
      refine .inr ⟨go, fun H' => j + 1 ≤ xs.length ∧ ∃ G3, G3 D' = none ∧ Up G2 H2 G3 (fun b => if b = D' then none else H' b) ∧ In G3 H' ∧ ∃ acc, H' D' = some (.dK acc) ∧ RpE K G3 acc (mrgE (((xs.take (j + 1)).filter p).map fun z => (κ z, f z))), fun H' x => ⟨xs.length - (j + 1), by omega, rfl, x.1, x.2⟩, fun x H4 y => ?_⟩
      obtain ⟨G4, u4, r4⟩ := yl x H4 y
      have hD4 : H4 D' = some (.dK acc) := u4.h _ _ hacc
      have hG4 : G4 D' = none := u4.hide (by rw [hacc]; intro z; cases z) hG3
      have u24 := grow u3 hG3 u4 hG4
      have l4 : Le G G4 := l.trans (u2.g.trans u24.g)
      refine hb _ hm G4 H4 x u4.i r4 _ fun σ2 b2 => ⟨hw _ hm σ2 G4 b2, ?_⟩
      refine ht _ hm G4 σ2 l4 b2 G4 H4 (Le.refl _) u4.i _ fun G5 H5 u5 => ?_
      have hD5 := u5.h _ _ hD4
      have hG5 : G5 D' = none := u5.hide (by rw [hD4]; intro z; cases z) hG4
      have u25 := grow u24 hG4 u5 hG5
      have tke : (xs.take (j + 1)).filter p = (xs.take j).filter p ++ [xs[j]].filter p := by
        rw [List.take_succ_eq_append_getElem hlt, List.filter_append]
      cases hp : p xs[j] with
      | false =>
        show _ ∧ _
        refine ⟨hlt, G5, hG5, u25, u5.i, acc, hD5, ?_⟩
        rw [tke]
        have : [xs[j]].filter p = [] := by simp [hp]
        rw [this, List.append_nil]
        exact racc.mono (u4.g.trans u5.g)
      | true =>
        show tk σ2 H5 _
        refine hk _ hm hp G5 σ2 (l4.trans u5.g) (hBm _ _ _ _ u5.g b2) G5 H5 (Le.refl _) u5.i _ fun y G6 H6 u6 r6 => ?_
        have hD6 := u6.h _ _ hD5
        have hG6 : G6 D' = none := u6.hide (by rw [hD5]; intro z; cases z) hG5
        have u26 := grow u25 hG5 u6 hG6
        refine he _ hm hp G6 σ2 (l4.trans (u5.g.trans u6.g)) (hBm _ _ _ _ (u5.g.trans u6.g) b2) G6 H6 (Le.refl _) u6.i _ fun y2 G7 H7 u7 r7 => ?_
        have hD7 := u7.h _ _ hD6
        have hG7 : G7 D' = none := u7.hide (by rw [hD6]; intro z; cases z) hG6
        have u27 := grow u26 hG6 u7 hG7
        have hlen : acc.length ≤ xs.length := by
          rw [racc.len]
          have h1 := mrg_len (((xs.take j).filter p).map fun z => (κ z, f z)) []
          have h2 : ((xs.take j).filter p).length ≤ xs.length := Nat.le_trans (List.length_filter_le _ _) (by rw [List.length_take]; omega)
          rw [List.length_map] at h1
          simp only [List.length_nil, Nat.zero_add] at h1
          exact Nat.le_trans h1 h2
        refine ⟨acc, κ xs[j], kD_kV r6, hD7, Nat.lt_of_le_of_lt (Nat.le_trans hlen hl) (by decide), hlt, G7, hG7, ?_, u7.i.mut hG7, putK acc (κ xs[j]) y2, upd_same, ?_⟩
        · refine ⟨u27.g, fun b o e => ?_, fun b o e => ?_, u27.n⟩
          · have ne : b ≠ D' := fun z => by subst z; rw [hG7] at e; cases e
            have := u27.i b o e
            simp only [if_neg ne, upd_ne ne] at this ⊢
            exact this
          · have ne : b ≠ D' := fun z => by subst z; rw [hD] at e; cases e
            have := u27.h b o e
            simp only [if_neg ne, upd_ne ne] at this ⊢
            exact this
        · rw [tke]
          have : [xs[j]].filter p = [xs[j]] := by simp [hp]
          rw [this, List.map_append]
          have e3 : mrgE (((xs.take j).filter p).map (fun z => (κ z, f z)) ++ [xs[j]].map (fun z => (κ z, f z))) = putE (mrgE (((xs.take j).filter p).map fun z => (κ z, f z))) (κ xs[j]) (f xs[j]) := by
            unfold mrgE
            rw [List.foldl_append]
            rfl
          rw [e3]
          exact (racc.mono (((u4.g.trans u5.g).trans u6.g).trans u7.g)).put r7
    · have e : j = xs.length := by omega
      subst e
      refine .inl ⟨by simpa using wstop, ?_⟩
      rw [List.take_length] at racc
      have hnn : ∀ b o, G3 b = some o → b ≠ D' := fun b o e z => by subst z; rw [hG3] at e; cases e
      have uf : Up G1 H1 (upd G3 D' (.dK acc)) H := by
        refine ⟨fun b o e => ?_, fun b o e => ?_, fun b o e => ?_, fun b o e => ?_⟩
        · have e3 := u3.g _ _ (u2.g _ _ e)
          rw [upd_ne (hnn b o e3)]; exact e3
        · by_cases hb : b = D'
          · subst hb; rw [upd_same] at e; cases e; exact .inl hacc
          · rw [upd_ne hb] at e; exact i3 b o e
        · have h2 := u2.h b o e
          have ne : b ≠ D' := fun z => by subst z; rw [hD] at h2; cases h2
          have := u3.h b o h2
          simp only [if_neg ne] at this
          exact this
        · by_cases hb : b = D'
          · subst hb; exact .inr (u2.h.no hD)
          · rw [upd_ne hb] at e
            rcases u3.n b o e with z | z
            · exact u2.n b o z
            · exact .inr (u2.h.no z)
      refine q _ _ _ uf (.dic upd_same (rpe_to (racc.mono fun b o e => ?_)))
      rw [upd_ne (hnn b o e)]; exact e
end
end Z

namespace Z
open PySem PySem.Spec PyProof.Rows L2
section
variable {X : Cx}
/-- two dicts that hold the same plain values -/
def DicEq (H : Hp) (x y : V) : Prop := ∃ a b ks ls, x = .ref a ∧ y = .ref b ∧ Rd H a (.dK ks) ∧ Rd H b (.dK ls) ∧ ks.length = ls.length ∧ ∀ p ∈ ks, valV ls p.1 = some p.2 ∧ flatB p.2 = true
def rEqDic : R2 := fun x y H Q => DicEq H x y ∧ Q (.bl true) H
def rNeDic : R2 := fun x y H Q => DicEq H x y ∧ Q (.bl false) H
theorem op_eqDic (hu : X.A.units + 1 < cLine) : OpR X (compareOp .Eq) rEqDic := fun pins s σ H x y v u Q I rx ry ⟨⟨a, b, ks, ls, ex, ey, ea, eb, hlen, hp⟩, q⟩ => by
  subst ex ey
  cases rx; cases ry
  obtain ⟨_, na, va, ra, da⟩ := ea.ok I.hok
  obtain ⟨_, nb, vb, rb, db⟩ := eb.ok I.hok
  have hl : va.length = vb.length := by rw [← ra.length, ← rb.length, hlen]
  exact PySem.W.keq_eq (knd := mixKind X.prog X.w) (r := true) na nb da db (Nat.lt_of_succ_lt hu) (fun _ => hits_all rb ra hp) (fin_bl I q (by simp [hl]))
theorem op_neDic (hu : X.A.units + 1 < cLine) : OpR X (compareOp .NotEq) rNeDic := fun pins s σ H x y v u Q I rx ry ⟨⟨a, b, ks, ls, ex, ey, ea, eb, hlen, hp⟩, q⟩ => by
  subst ex ey
  cases rx; cases ry
  obtain ⟨_, na, va, ra, da⟩ := ea.ok I.hok
  obtain ⟨_, nb, vb, rb, db⟩ := eb.ok I.hok
  have hl : va.length = vb.length := by rw [← ra.length, ← rb.length, hlen]
  exact PySem.W.keq_ne (knd := mixKind X.prog X.w) (r := true) na nb da db (Nat.lt_of_succ_lt hu) (fun _ => hits_all rb ra hp) (fin_bl I q (by simp [hl]))
end
section
variable {K : PySem.W.Frag} {σ : L2.St} {G H : Hp}
theorem RpE.mem : ∀ {kvs : List (Key × V)} {es : List (Key × PyData)} {k : Key} {v : V}, RpE K G kvs es → (k, v) ∈ kvs → ∃ d, (k, d) ∈ es ∧ Rp K G v d
  | _, _, _, _, .nil, h => by cases h
  | _, _, _, _, .cons p a, h => by
    rcases List.mem_cons.mp h with e | e
    · cases e; exact ⟨_, List.mem_cons_self, p⟩
    · obtain ⟨d, h1, h2⟩ := RpE.mem a e
      exact ⟨d, List.mem_cons_of_mem _ h1, h2⟩
def flatD : PyData → Bool
  | .int _ => true
  | .str _ => true
  | .bool _ => true
  | .none => true
  | _ => false
theorem flat_same {v w : V} {d : PyData} (hf : flatD d = true) (h1 : Rp K G v d) (h2 : Rp K G w d) : v = w ∧ flatB v = true := by
  cases h1 <;> first
    | (cases h2; exact ⟨rfl, rfl⟩)
    | (exact absurd hf (by simp [flatD]))
/-- es and fs are one dict -/
def sameE (es fs : List (Key × PyData)) : Bool := decide (es.length = fs.length) && es.all fun e => flatD e.2 && (match valK fs e.1 with | some d => PyData.eqv d e.2 && PyData.eqv e.2 d | none => false)
theorem dicEq_of {x y : V} {es fs : List (Key × PyData)} (hi : In G H) (px : Rp K G x (dD es)) (py : Rp K G y (dD fs)) (hl : es.length = fs.length) (hs : ∀ k d, (k, d) ∈ es → valK fs k = some d ∧ flatD d = true) : DicEq H x y := by
  obtain ⟨a, ks, rfl, h1, h2⟩ := rp_dic px
  obtain ⟨b, ls, rfl, h3, h4⟩ := rp_dic py
  refine ⟨a, b, ks, ls, rfl, rfl, hi.rd h1, hi.rd h3, by rw [h2.len, h4.len, hl], fun p hp => ?_⟩
  obtain ⟨k, v⟩ := p
  obtain ⟨d, hd, pd⟩ := h2.mem hp
  obtain ⟨e1, e2⟩ := hs k d hd
  rcases h4.val (k := k) with ⟨_, z⟩ | ⟨w, d', z1, z2, z3⟩
  · rw [e1] at z; cases z
  · rw [e1] at z2; cases z2
    obtain ⟨e3, e4⟩ := flat_same e2 pd z3
    exact ⟨by rw [z1, e3], e4⟩
theorem opv_neDic {es fs : List (Key × PyData)} (hl : es.length = fs.length) (hs : ∀ k d, (k, d) ∈ es → valK fs k = some d ∧ flatD d = true) : OpV K rNeDic (dD es) (dD fs) (.bool false) := fun G H x y hi px py Q q =>
  ⟨dicEq_of hi px py hl hs, q _ G H (Up.refl hi) (.bl _)⟩
theorem opv_eqDic {es fs : List (Key × PyData)} (hl : es.length = fs.length) (hs : ∀ k d, (k, d) ∈ es → valK fs k = some d ∧ flatD d = true) : OpV K rEqDic (dD es) (dD fs) (.bool true) := fun G H x y hi px py Q q =>
  ⟨dicEq_of hi px py hl hs, q _ G H (Up.refl hi) (.bl _)⟩
end
end Z

namespace Z
open PySem PySem.Spec PyProof.Rows L2
/-! ### typed data -/
abbrev W := List Nat
@[reducible] def dI (i : Int) : PyData := .int i
@[reducible] def dS (l : W) : PyData := .str (S l)
@[reducible] def dC (c : Nat) : PyData := .str (S [c])
@[reducible] def dB (b : Bool) : PyData := .bool b
@[reducible] def dL {α : Type} (D : α → PyData) (xs : List α) : PyData := .list (xs.map D)
@[reducible] def dP {α β : Type} (D : α → PyData) (E : β → PyData) (p : α × β) : PyData := .tuple [D p.1, E p.2]
@[reducible] def dM {α : Type} (D : α → PyData) (es : List (Key × α)) : PyData := dD (es.map fun e => (e.1, D e.2))
section
variable {K : PySem.W.Frag} {σ : L2.St} {G H : Hp} {ta tb te : TE} {tt : TT} {wi : TI} {D' : Ends}
theorem opv_eqI {i j : Int} : OpV K rEq (.int i) (.int j) (.bool (decide (i = j))) := opv_eq rfl
theorem opv_neI {i j : Int} : OpV K rNe (.int i) (.int j) (.bool (!decide (i = j))) := opv_ne rfl
theorem opv_eqS {a b : W} : OpV K rEq (dS a) (dS b) (.bool (decide (a = b))) := by
  have h := opv_eq (K := K) (a := dS a) (b := dS b) rfl
  rw [eqS_str] at h
  exact h
theorem opv_neS {a b : W} : OpV K rNe (dS a) (dS b) (.bool (!decide (a = b))) := by
  have h := opv_ne (K := K) (a := dS a) (b := dS b) rfl
  rw [eqS_str] at h
  exact h
theorem opv_eqB {i j : Bool} : OpV K rEq (.bool i) (.bool j) (.bool (decide (i = j))) := opv_eq rfl
theorem opv_neB {i j : Bool} : OpV K rNe (.bool i) (.bool j) (.bool (!decide (i = j))) := opv_ne rfl
/-- one name, no test -/
theorem ev_lcM {α β : Type} {D : α → PyData} {DE : β → PyData} {xs : List α} {M : α → β} {k : Nat} (hi : EvI K wi σ G (xs.map D)) (he : ∀ z ∈ xs, ∀ G1 x, Le G G1 → Rp K G1 x (D z) → Ev K te (σ.set k (some x)) G1 (DE (M z))) (hl : xs.length ≤ 100000) :
    Ev K (tLc wi (gName k) tYes te [k]) σ G (dL DE (xs.map M)) := by
  have h := ev_lc (K := K) (σ := σ) (G := G) (te := te) (tt := tYes) (g := gName k) (vs := [k]) (p := fun _ => true) (f := fun z => DE (M z)) (B := fun z σ2 G => ∃ x, σ2 = (wipe σ [k]).set k (some x) ∧ Rp K G x (D z)) hi (fun z _ => bnd_name) (fun z _ σ2 G ⟨x, e, _⟩ => by subst e; exact wipe1)
    (fun z hz G1 σ2 l _ G3 H3 l3 i3 Q q => q G3 H3 (Up.refl i3)) (fun z hz _ G1 σ2 l ⟨x, e, hx⟩ => by subst e; rw [wipe1s]; exact he z hz G1 x l hx) (fun z σ2 G1 G2 l ⟨x, e, hx⟩ => ⟨x, e, hx.mono l⟩) hl
  have e : (xs.filter fun _ => true).map (fun z => DE (M z)) = (xs.map M).map DE := by
    rw [List.map_map, List.filter_eq_self.mpr (fun _ _ => rfl)]; rfl
  rw [e] at h
  exact h
/-- one name, one test -/
theorem ev_lcF {α β : Type} {D : α → PyData} {DE : β → PyData} {xs : List α} {p : α → Bool} {M : α → β} {k : Nat} (hi : EvI K wi σ G (xs.map D)) (ht : ∀ z ∈ xs, ∀ G1 x, Le G G1 → Rp K G1 x (D z) → EvT tt (σ.set k (some x)) G1 (p z)) (he : ∀ z ∈ xs, p z = true → ∀ G1 x, Le G G1 → Rp K G1 x (D z) → Ev K te (σ.set k (some x)) G1 (DE (M z))) (hl : xs.length ≤ 100000) :
    Ev K (tLc wi (gName k) tt te [k]) σ G (dL DE ((xs.filter p).map M)) := by
  have h := ev_lc (K := K) (σ := σ) (G := G) (te := te) (tt := tt) (g := gName k) (vs := [k]) (p := p) (f := fun z => DE (M z)) (B := fun z σ2 G => ∃ x, σ2 = (wipe σ [k]).set k (some x) ∧ Rp K G x (D z)) hi (fun z _ => bnd_name) (fun z _ σ2 G ⟨x, e, _⟩ => by subst e; exact wipe1)
    (fun z hz G1 σ2 l ⟨x, e, hx⟩ => by subst e; rw [wipe1s]; exact ht z hz G1 x l hx) (fun z hz hp G1 σ2 l ⟨x, e, hx⟩ => by subst e; rw [wipe1s]; exact he z hz hp G1 x l hx) (fun z σ2 G1 G2 l ⟨x, e, hx⟩ => ⟨x, e, hx.mono l⟩) hl
  have e : (xs.filter p).map (fun z => DE (M z)) = ((xs.filter p).map M).map DE := by rw [List.map_map]; rfl
  rw [e] at h
  exact h
theorem mrg_map {α β : Type} (f : α → β) : ∀ (es acc : List (Key × α)), ((es.foldl (fun acc e => putE acc e.1 e.2) acc).map fun e => (e.1, f e.2)) = (es.map fun e => (e.1, f e.2)).foldl (fun acc e => putE acc e.1 e.2) (acc.map fun e => (e.1, f e.2))
  | [], acc => rfl
  | e :: es, acc => by
    rw [List.foldl_cons, mrg_map f es, List.map_cons, List.foldl_cons]
    congr 1
    unfold putE
    have ea : (acc.map fun e => (e.1, f e.2)).any (fun x => decide (x.1 = e.1)) = acc.any (fun x => decide (x.1 = e.1)) := by
      rw [List.any_map]; rfl
    rw [ea]
    split
    · rw [List.map_map, List.map_map]
      apply List.map_congr_left
      intro x _
      simp only [Function.comp]
      split <;> rfl
    · rw [List.map_append]; rfl
/-- one name, no test: a dict -/
theorem ev_dcM {α β : Type} {D : α → PyData} {DE : β → PyData} {xs : List α} {κ : α → Key} {M : α → β} {k : Nat} {tk tv : TE} (hi : EvI K wi σ G (xs.map D)) (hk : ∀ z ∈ xs, ∀ G1 x, Le G G1 → Rp K G1 x (D z) → Ev K tk (σ.set k (some x)) G1 (kD (κ z))) (he : ∀ z ∈ xs, ∀ G1 x, Le G G1 → Rp K G1 x (D z) → Ev K tv (σ.set k (some x)) G1 (DE (M z))) (hl : xs.length ≤ 100000) :
    Ev K (tDc wi (gName k) tYes tk tv [k]) σ G (dM DE (mrgE (xs.map fun z => (κ z, M z)))) := by
  have h := ev_dc (K := K) (σ := σ) (G := G) (tk := tk) (tv := tv) (tt := tYes) (g := gName k) (vs := [k]) (p := fun _ => true) (κ := κ) (f := fun z => DE (M z)) (B := fun z σ2 G => ∃ x, σ2 = (wipe σ [k]).set k (some x) ∧ Rp K G x (D z)) hi (fun z _ => bnd_name) (fun z _ σ2 G ⟨x, e, _⟩ => by subst e; exact wipe1)
    (fun z hz G1 σ2 l _ G3 H3 l3 i3 Q q => q G3 H3 (Up.refl i3)) (fun z hz _ G1 σ2 l ⟨x, e, hx⟩ => by subst e; rw [wipe1s]; exact hk z hz G1 x l hx) (fun z hz _ G1 σ2 l ⟨x, e, hx⟩ => by subst e; rw [wipe1s]; exact he z hz G1 x l hx) (fun z σ2 G1 G2 l ⟨x, e, hx⟩ => ⟨x, e, hx.mono l⟩) hl
  have e : mrgE ((xs.filter fun _ => true).map fun z => (κ z, DE (M z))) = (mrgE (xs.map fun z => (κ z, M z))).map fun e => (e.1, DE e.2) := by
    rw [List.filter_eq_self.mpr (fun _ _ => rfl)]
    unfold mrgE
    rw [mrg_map DE _ []]
    rw [List.map_map]
    rfl
  rw [e] at h
  exact h
theorem ev_dcF {α β : Type} {D : α → PyData} {DE : β → PyData} {xs : List α} {p : α → Bool} {κ : α → Key} {M : α → β} {k : Nat} {tk tv : TE} (hi : EvI K wi σ G (xs.map D)) (ht : ∀ z ∈ xs, ∀ G1 x, Le G G1 → Rp K G1 x (D z) → EvT tt (σ.set k (some x)) G1 (p z)) (hk : ∀ z ∈ xs, p z = true → ∀ G1 x, Le G G1 → Rp K G1 x (D z) → Ev K tk (σ.set k (some x)) G1 (kD (κ z))) (he : ∀ z ∈ xs, p z = true → ∀ G1 x, Le G G1 → Rp K G1 x (D z) → Ev K tv (σ.set k (some x)) G1 (DE (M z))) (hl : xs.length ≤ 100000) :
    Ev K (tDc wi (gName k) tt tk tv [k]) σ G (dM DE (mrgE ((xs.filter p).map fun z => (κ z, M z)))) := by
  have h := ev_dc (K := K) (σ := σ) (G := G) (tk := tk) (tv := tv) (tt := tt) (g := gName k) (vs := [k]) (p := p) (κ := κ) (f := fun z => DE (M z)) (B := fun z σ2 G => ∃ x, σ2 = (wipe σ [k]).set k (some x) ∧ Rp K G x (D z)) hi (fun z _ => bnd_name) (fun z _ σ2 G ⟨x, e, _⟩ => by subst e; exact wipe1)
    (fun z hz G1 σ2 l ⟨x, e, hx⟩ => by subst e; rw [wipe1s]; exact ht z hz G1 x l hx) (fun z hz hp G1 σ2 l ⟨x, e, hx⟩ => by subst e; rw [wipe1s]; exact hk z hz hp G1 x l hx) (fun z hz hp G1 σ2 l ⟨x, e, hx⟩ => by subst e; rw [wipe1s]; exact he z hz hp G1 x l hx) (fun z σ2 G1 G2 l ⟨x, e, hx⟩ => ⟨x, e, hx.mono l⟩) hl
  have e : mrgE ((xs.filter p).map fun z => (κ z, DE (M z))) = (mrgE ((xs.filter p).map fun z => (κ z, M z))).map fun e => (e.1, DE e.2) := by
    unfold mrgE
    rw [mrg_map DE _ []]
    rw [List.map_map]
    rfl
  rw [e] at h
  exact h
theorem cutL_le {α : Type} (l : List α) (a b : Option Int) : (cutL l a b).length ≤ l.length := by
  unfold cutL
  rw [List.length_take, List.length_drop]
  omega
theorem valK_map {α β : Type} (f : α → β) (es : List (Key × α)) (k : Key) : valK (es.map fun e => (e.1, f e.2)) k = (valK es k).map f := by
  unfold valK
  rw [List.find?_map]
  cases h : es.find? ((fun e => decide (e.1 = k)) ∘ fun e => (e.1, f e.2)) with
  | none =>
    have : es.find? (fun e => decide (e.1 = k)) = none := h
    rw [this]; rfl
  | some e =>
    have : es.find? (fun e => decide (e.1 = k)) = some e := h
    rw [this]; rfl
end
end Z

namespace Z
open PySem PySem.Spec PyProof.Rows L2
section
variable {K : PySem.W.Frag} {σ : L2.St} {G H : Hp} {ta tb te tx : TE} {tt : TT} {wi : TI}
theorem mul_neg (l : W) (i : Int) (h : i ≤ 0) : Txt.mul (S l) i = S [] := by
  unfold Txt.mul
  rw [if_pos (by omega)]
  rfl
theorem opv_mulSI {l : W} {i : Int} (h : l.length * i.toNat ≤ 10000000) (hn : -1000000 ≤ i ∧ i ≤ 1000000) : OpV K rMulS (dS l) (.int i) (dS (List.replicate i.toNat l).flatten) := by
  by_cases h0 : 0 ≤ i
  · obtain ⟨n, rfl⟩ := Int.eq_ofNat_of_zero_le h0
    exact opv_mulS h (by omega)
  · intro G H x y hi px py Q q
    rw [rp_str px, rp_int py]
    refine ⟨S l, i, rfl, rfl, ⟨?_, fun h1 _ => absurd (by omega) h1, fun h1 _ => absurd (by omega) h1⟩, ?_⟩
    · simp only [Bool.or_eq_false_iff, decide_eq_false_iff_not]
      constructor <;> omega
    · rw [mul_neg l i (by omega)]
      have : i.toNat = 0 := by omega
      rw [this] at q
      exact q _ G H (Up.refl hi) (.str _)
theorem opv_catL {α : Type} {D : α → PyData} {a b : List α} (h : a.length + b.length ≤ 1000000) : OpV K rCat (dL D a) (dL D b) (dL D (a ++ b)) := by
  have h2 := opv_cat (K := K) (a := a.map D) (b := b.map D) (by simpa using h)
  rw [← List.map_append] at h2
  exact h2
/-! typed equality -/
structure Eqt {α : Type} [DecidableEq α] (D : α → PyData) (ok : α → Prop) (n : Nat) : Prop where
  eq : ∀ a b, PyData.eqv (D a) (D b) = decide (a = b)
  lay : ∀ a, ok a → (D a).canLay0 = true
  dep : ∀ a, (D a).depth ≤ n
def okS (l : W) : Prop := ∀ c ∈ l, c < 256
theorem strOk_S {l : W} (h : okS l) : PyData.canLay0 (dS l) = true := by
  show PyData.strOk (S l) = true
  unfold PyData.strOk
  rw [← Array.all_toList]
  refine List.all_eq_true.mpr fun c hc => ?_
  rw [S_cps] at hc
  have := h c hc
  exact decide_eq_true (by omega)
theorem eqt_I : Eqt dI (fun _ => True) 0 := ⟨fun a b => by simp only [dI, PyData.eqv]; exact Bool.beq_eq_decide_eq a b, fun a _ => by simp [PyData.canLay0], fun a => by simp [PyData.depth]⟩
theorem eqt_B : Eqt dB (fun _ => True) 0 := ⟨fun a b => by simp only [dB, PyData.eqv]; exact Bool.beq_eq_decide_eq a b, fun a _ => by simp [PyData.canLay0], fun a => by simp [PyData.depth]⟩
theorem eqt_S : Eqt dS okS 0 := ⟨fun a b => by
  simp only [dS, PyData.eqv]
  by_cases h : a = b
  · subst h; simp
  · have : S a ≠ S b := fun e => h (S_inj e)
    simp [h, this], fun a h => strOk_S h, fun a => by simp [PyData.depth]⟩
theorem eqt_C : Eqt dC (fun c => c < 256) 0 := ⟨fun a b => by
  rw [show dC a = dS [a] from rfl, show dC b = dS [b] from rfl, eqt_S.eq]
  simp, fun a h => eqt_S.lay [a] (by intro c hc; simp at hc; omega), fun a => by simp [PyData.depth]⟩
section
variable {α β : Type} [DecidableEq α] [DecidableEq β] {D : α → PyData} {E : β → PyData} {ok : α → Prop} {ok' : β → Prop} {n m : Nat}
theorem eqvAll_map (e : Eqt D ok n) : ∀ xs ys : List α, PyData.eqvAll (xs.map D) (ys.map D) = decide (xs = ys)
  | [], [] => by simp [PyData.eqvAll]
  | x :: xs, y :: ys => by
    simp only [List.map_cons, PyData.eqvAll]
    rw [e.eq, eqvAll_map e xs ys]
    by_cases h1 : x = y <;> by_cases h2 : xs = ys <;> simp [h1, h2]
  | [], _ :: _ => by simp [PyData.eqvAll]
  | _ :: _, [] => by simp [PyData.eqvAll]
theorem layAll_map (e : Eqt D ok n) : ∀ xs : List α, (∀ x ∈ xs, ok x) → PyData.canLayAll0 (xs.map D) = true
  | [], _ => by simp [PyData.canLayAll0]
  | x :: xs, h => by
    simp only [List.map_cons, PyData.canLayAll0, Bool.and_eq_true]
    exact ⟨e.lay x (h x List.mem_cons_self), layAll_map e xs fun y hy => h y (List.mem_cons_of_mem _ hy)⟩
theorem depAll_map (e : Eqt D ok n) : ∀ xs : List α, PyData.depthAll (xs.map D) ≤ n
  | [] => by simp [PyData.depthAll]
  | x :: xs => by
    simp only [List.map_cons, PyData.depthAll]
    have h1 := e.dep x
    have h2 := depAll_map e xs
    omega
theorem eqt_L (e : Eqt D ok n) : Eqt (dL D) (fun xs => ∀ x ∈ xs, ok x) (n + 1) :=
  ⟨fun xs ys => by simp only [dL, PyData.eqv]; exact eqvAll_map e xs ys, fun xs h => by simp only [dL, PyData.canLay0]; exact layAll_map e xs h, fun xs => by simp only [dL, PyData.depth]; have := depAll_map e xs; omega⟩
theorem eqt_P (e : Eqt D ok n) (f : Eqt E ok' m) : Eqt (dP D E) (fun p => ok p.1 ∧ ok' p.2) (max n m + 1) :=
  ⟨fun p q => by
    simp only [dP, PyData.eqv, PyData.eqvAll]
    rw [e.eq, f.eq]
    obtain ⟨p1, p2⟩ := p
    obtain ⟨q1, q2⟩ := q
    by_cases h1 : p1 = q1 <;> by_cases h2 : p2 = q2 <;> simp [h1, h2], fun p h => by
    simp only [dP, PyData.canLay0, PyData.canLayAll0, Bool.and_eq_true]
    exact ⟨e.lay _ h.1, f.lay _ h.2, by first | rfl | trivial⟩, fun p => by
    simp only [dP, PyData.depth, PyData.depthAll]
    have h1 := e.dep p.1
    have h2 := f.dep p.2
    omega⟩
theorem Eqt.shaped (e : Eqt D ok n) (hn : n ≤ 64) {a : α} (h : ok a) : SeqAt.shaped (D a) = true := by
  unfold SeqAt.shaped
  rw [e.lay a h]
  have := e.dep a
  simp
  omega
theorem opv_eqT (e : Eqt D ok n) {a b : α} (h : ok a ∧ ok b ∧ n ≤ 64) : OpV K (rEqD K) (D a) (D b) (.bool (decide (a = b))) := by
  have := opv_eqD (K := K) (e.shaped h.2.2 h.1) (e.shaped h.2.2 h.2.1)
  rw [e.eq] at this
  exact this
theorem opv_neT (e : Eqt D ok n) {a b : α} (h : ok a ∧ ok b ∧ n ≤ 64) : OpV K (rNeD K) (D a) (D b) (.bool (!decide (a = b))) := by
  have := opv_neD (K := K) (e.shaped h.2.2 h.1) (e.shaped h.2.2 h.2.1)
  rw [e.eq] at this
  exact this
end
theorem ev_ifD {α : Type} {D : α → PyData} {k : Bool} {a b : α} (h1 : EvT tt σ G k) (h2 : k = true → Ev K ta σ G (D a)) (h3 : k = false → Ev K tb σ G (D b)) : Ev K (tIf tt ta tb) σ G (D (if k then a else b)) := by
  have h := ev_if h1 h2 h3
  have e : (if k = true then D a else D b) = D (if k = true then a else b) := by split <;> rfl
  rw [e] at h
  exact h
theorem cutL_map {α β : Type} (f : α → β) (l : List α) (a b : Option Int) : cutL (l.map f) a b = (cutL l a b).map f := by
  unfold cutL
  rw [List.length_map, List.map_take, List.map_drop]
theorem ev_slLT {α : Type} {D : α → PyData} {xs : List α} {tl th : TO} {lo hi : Option Int} (h : Ev K te σ G (dL D xs)) (hl : EvO tl σ G lo) (hh : EvO th σ G hi) : Ev K (tSl (rSlL K) te tl th) σ G (dL D (cutL xs lo hi)) := by
  have := ev_slL h hl hh
  rw [cutL_map] at this
  exact this
theorem opv_ixSD {l : W} {i : Int} (hz : l.length ≤ 10000000) (h : (atI l i).isSome = true) : OpV K (rIx K) (dS l) (.int i) (dC ((atI l i).getD 0)) := by
  obtain ⟨c, hc⟩ := Option.isSome_iff_exists.mp h
  rw [hc]
  exact opv_ixS hz hc
theorem atI_map {α β : Type} (f : α → β) (l : List α) (i : Int) : atI (l.map f) i = (atI l i).map f := by
  unfold atI
  rw [List.length_map]
  cases ixN l.length i with
  | none => rfl
  | some j => simp
theorem opv_ixLD {α : Type} {D : α → PyData} {xs : List α} {i : Int} {z : α} (h : (atI xs i).isSome = true) : OpV K (rIx K) (dL D xs) (.int i) (D ((atI xs i).getD z)) := by
  obtain ⟨c, hc⟩ := Option.isSome_iff_exists.mp h
  rw [hc]
  exact opv_ixL (by rw [atI_map, hc]; rfl)
theorem ev_dgetS {α : Type} {D : α → PyData} {es : List (Key × α)} {l : W} {z : α} (ho : Ev K ta σ G (dM D es)) (hk : Ev K tb σ G (dS l)) (h : (valK es (Sum.inr (S l))).isSome = true) : Ev K (tDGet ta tb) σ G (D ((valK es (Sum.inr (S l))).getD z)) := by
  obtain ⟨c, hc⟩ := Option.isSome_iff_exists.mp h
  rw [hc]
  exact ev_dget (k := Sum.inr (S l)) ho hk (by rw [valK_map, hc]; rfl)
theorem ev_dinS {α : Type} {D : α → PyData} {es : List (Key × α)} {l : W} (hk : Ev K tb σ G (dS l)) (ho : Ev K ta σ G (dM D es)) : Ev K (tDIn tb ta) σ G (.bool (valK es (Sum.inr (S l))).isSome) := by
  have h := ev_din (k := Sum.inr (S l)) hk ho
  rw [valK_map] at h
  have e : ((valK es (Sum.inr (S l))).map D).isSome = (valK es (Sum.inr (S l))).isSome := by cases valK es (Sum.inr (S l)) <;> rfl
  rw [e] at h
  exact h
theorem cav_lenLT {α : Type} {D : α → PyData} {xs : List α} : CaV K (rLenU K) [dL D xs] (.int (xs.length : Int)) := by
  have h := cav_lenL (K := K) (ds := xs.map D)
  rw [List.length_map] at h
  exact h
theorem cav_lenDT {α : Type} {D : α → PyData} {es : List (Key × α)} : CaV K rLenDc [dM D es] (.int (es.length : Int)) := by
  have h := cav_lenD (K := K) (es := es.map fun e => (e.1, D e.2))
  rw [List.length_map] at h
  exact h
theorem flat_single : ∀ l : W, (l.map fun c => [c]).flatten = l
  | [] => rfl
  | c :: l => by rw [List.map_cons, List.flatten_cons, flat_single l]; rfl
theorem sum_single : ∀ l : W, (l.map ((fun x : W => x.length) ∘ fun c => [c])).sum = l.length
  | [] => rfl
  | c :: l => by rw [List.map_cons, List.sum_cons, sum_single l, List.length_cons]; show 1 + l.length = l.length + 1; omega
theorem ev_joinC {l : W} (ho : Ev K ta σ G (dS [])) (h : Ev K te σ G (dL dC l)) (hz : l.length ≤ 10000000) : Ev K (tM1 (rJoin K) ta te) σ G (dS l) := by
  have e : dL dC l = .list ((l.map fun c => [c]).map fun l => .str (S l)) := by
    show PyData.list (l.map dC) = _
    rw [List.map_map]
    rfl
  rw [e] at h
  have h2 := ev_join ho h (by
    rw [List.map_map]
    rw [sum_single]
    exact hz)
  rw [flat_single] at h2
  exact h2
end
end Z

namespace Z
open PySem PySem.Spec PyProof.Rows L2
/-! ### the least text, texts in order -/
def minS : List W → W
  | [] => []
  | x :: xs => xs.foldl (fun a y => if y < a then y else a) x
theorem minD_S : ∀ (xs : List W) (x : W), PySem.W.minD (dS x) (xs.map dS) = dS (xs.foldl (fun a y => if y < a then y else a) x)
  | [], x => rfl
  | y :: xs, x => by
    have e : PySem.W.minD (dS x) ((y :: xs).map dS) = PySem.W.minD (if PySem.W.dataLt (dS y) (dS x) then dS y else dS x) (xs.map dS) := rfl
    rw [e, List.foldl_cons]
    have e2 : (if PySem.W.dataLt (dS y) (dS x) = true then dS y else dS x) = dS (if y < x then y else x) := by
      rw [PySem.W.dataLt_str, S_cps, S_cps]
      by_cases h : y < x
      · rw [if_pos (decide_eq_true h), if_pos h]
      · rw [if_neg (by simp [h]), if_neg h]
    rw [e2]
    exact minD_S xs _
section
variable {K : PySem.W.Frag} {σ : L2.St} {G H : Hp}
theorem dicFs_S : ∀ xs : List W, dicFs (xs.map dS) = true
  | [] => by simp [dicFs]
  | x :: xs => by simp only [List.map_cons, dicFs, Bool.and_eq_true]; exact ⟨by simp [dicF], dicFs_S xs⟩
theorem cav_minS {xs : List W} (h : xs ≠ []) (_hl : True) : CaV K (rMinD K) [dL dS xs] (dS (minS xs)) := by
  cases xs with
  | nil => exact absurd rfl h
  | cons x xs =>
    have := cav_minD (K := K) (d := dS x) (ds := xs.map dS) ?_ ?_ ?_
    · rw [minD_S] at this
      exact this
    · have key : ∀ d ∈ dS x :: xs.map dS, ∃ l, d = dS l := by
        intro d hd
        rcases List.mem_cons.mp hd with e | e
        · exact ⟨x, e⟩
        · obtain ⟨l, _, e⟩ := List.mem_map.mp e
          exact ⟨l, e.symm⟩
      refine ⟨fun a ha b hb => ?_, fun a ha => ?_⟩
      · obtain ⟨l, rfl⟩ := key a ha
        obtain ⟨m, rfl⟩ := key b hb
        simp [PySem.W.alike]
      · obtain ⟨l, rfl⟩ := key a ha
        intro q
        cases q
    · have := depAll_map eqt_S (x :: xs)
      rw [List.map_cons] at this
      omega
    · have := dicFs_S (x :: xs)
      rw [List.map_cons] at this
      exact this
/-- a total order of texts -/
def leW (a b : W) : Bool := decide (a ≤ b)
def sortW (xs : List W) : List W := xs.mergeSort leW
theorem leW_trans (a b c : W) (h1 : leW a b = true) (h2 : leW b c = true) : leW a c = true := by
  simp only [leW, decide_eq_true_eq] at *
  exact Std.le_trans h1 h2
theorem leW_total (a b : W) : (leW a b || leW b a) = true := by
  simp only [leW, Bool.or_eq_true, decide_eq_true_eq]
  exact Std.le_total
theorem sortW_unique {xs ys : List W} (p : ys.Perm xs) (h : ys.Pairwise fun a b => a ≤ b) : ys = sortW xs := by
  refine List.Perm.eq_of_pairwise (le := fun a b => a ≤ b) (fun a b _ _ h1 h2 => Std.le_antisymm h1 h2) h ?_ (p.trans (List.mergeSort_perm _ _).symm)
  have := List.pairwise_mergeSort (le := leW) leW_trans leW_total xs
  exact this.imp fun h => of_decide_eq_true h
def keyW : Key → W
  | .inr x => x.cps.toList
  | .inl _ => []
def sortKs {α : Type} (es : List (Key × α)) : List W := sortW (es.map fun e => keyW e.1)
/-- keys that are texts -/
def strKs {α : Type} (es : List (Key × α)) : Prop := ∀ e ∈ es, ∃ l : W, e.1 = Sum.inr (S l)
theorem rising_pw : ∀ (l : List Str) (p : Str), risingS p l = true → (p :: l).Pairwise fun a b => a.cps.toList ≤ b.cps.toList
  | [], p, _ => List.pairwise_singleton _ _
  | x :: r, p, h => by
    simp only [risingS, Bool.and_eq_true, Bool.not_eq_true'] at h
    have ih := rising_pw r x h.2
    have px : p.cps.toList ≤ x.cps.toList := by
      have := h.1
      rw [ltCps_eq] at this
      have := of_decide_eq_false this
      exact Std.not_lt.mp this
    refine List.pairwise_cons.mpr ⟨fun b hb => ?_, ih⟩
    rcases List.mem_cons.mp hb with e | e
    · subst e; exact px
    · exact Std.le_trans px ((List.pairwise_cons.mp ih).1 b e)
theorem sorted_pw {l : List Str} (h : sortedS l = true) : l.Pairwise fun a b => a.cps.toList ≤ b.cps.toList := by
  cases l with
  | nil => exact List.Pairwise.nil
  | cons x r => exact rising_pw r x h
theorem rpe_keys : ∀ {kvs : List (Key × V)} {es : List (Key × PyData)}, RpE K G kvs es → kvs.map (·.1) = es.map (·.1)
  | _, _, .nil => rfl
  | _, _, .cons _ a => by simp only [List.map_cons]; rw [rpe_keys a]
theorem cav_sortKs {α : Type} {D : α → PyData} {es : List (Key × α)} (h : strKs es ∧ es.length < 64) : CaV K rSortDk [dM D es] (dL dS (sortKs es)) := fun G H vs hi pv Q q => by
  obtain ⟨v, ws, rfl, p1, p2⟩ := rpa_cons pv
  rw [rpa_nil p2]
  obtain ⟨p, kvs, rfl, h1, h2⟩ := rp_dic p1
  have ek : kvs.map (·.1) = (es.map fun e => S (keyW e.1)).map Sum.inr := by
    rw [rpe_keys h2, List.map_map, List.map_map]
    apply List.map_congr_left
    intro e he
    obtain ⟨l, hl⟩ := h.1 e he
    simp only [Function.comp]
    rw [hl]
    show Sum.inr (S l) = Sum.inr (S (S l).cps.toList)
    rw [S_cps]
  refine ⟨p, kvs, _, rfl, hi.rd h1, ek, by rw [List.length_map]; exact h.2, fun ys r pm so hr => ?_⟩
  have u := Up.new (o := .lst (ys.map V.str)) hi hr
  refine q _ _ _ u (.lst upd_same ?_)
  have e2 : ys.map (fun y => y.cps.toList) = sortKs es := by
    unfold sortKs
    apply sortW_unique
    · have := pm.map (fun y : Str => y.cps.toList)
      rw [List.map_map] at this
      have e3 : es.map ((fun y : Str => y.cps.toList) ∘ fun e => S (keyW e.1)) = es.map fun e => keyW e.1 := List.map_congr_left fun e _ => S_cps _
      rw [e3] at this
      exact this
    · exact List.pairwise_map.mpr (sorted_pw so)
  rw [← e2, List.map_map]
  have e4 : ys.map (dS ∘ fun y => y.cps.toList) = ys.map PyData.str := List.map_congr_left fun y _ => by
    show PyData.str (S y.cps.toList) = PyData.str y
    rw [S_eta]
  rw [e4]
  exact strs_rpa _
end
end Z

namespace Z
open PySem PySem.Spec PyProof.Rows L2
section
variable {K : PySem.W.Frag} {σ : L2.St} {G H : Hp} {ta tb te tx : TE} {tt : TT} {wi : TI} {D : Ends}
/-- a for over things that leaves at the first one that passes: Sl is kept of the slots -/
theorem s_first {α : Type} {DD : α → PyData} {xs : List α} {p : α → Bool} {f : α → PyData} {k : Nat} {tb : TS} (Sl : L2.St → Prop) (hi : EvI K wi σ G (xs.map DD)) (hin : In G H) (h0 : Sl σ)
    (body : ∀ z ∈ xs, ∀ σ1 G1 H1 x, Sl σ1 → Up G H G1 H1 → Rp K G1 x (DD z) → ∀ D2 : Ends, (p z = true → Ret K G1 H1 D2.rt (f z)) → (p z = false → ∀ σ2 G2 H2, Sl σ2 → Up G1 H1 G2 H2 → D2.nx σ2 H2) → tb D2 (σ1.set k (some x)) H1)
    (hr : ∀ z, xs.find? p = some z → Ret K G H D.rt (f z)) (hn : xs.find? p = none → ∀ σ2 G2 H2, Sl σ2 → Up G H G2 H2 → D.nx σ2 H2) : tFor wi (gName k) tb D σ H := by
  refine s_for hi hin fun G0 H0 u0 => ⟨fun i σ1 G1 H1 => Sl σ1 ∧ Up G H G1 H1 ∧ Le G0 G1 ∧ (xs.take i).find? p = none, ⟨h0, u0, Le.refl _, by simp⟩, fun i σ1 G1 H1 h => ⟨h.2.2.1, h.2.1.i⟩, ?_, ?_⟩
  · rintro i d x σ1 G1 H1 G2 H2 hd ⟨h1, h2, h3, h4⟩ u2 r2
    rw [List.getElem?_map] at hd
    cases hz : xs[i]? with
    | none => rw [hz] at hd; cases hd
    | some z =>
      rw [hz] at hd
      cases hd
      have hlt : i < xs.length := (List.getElem?_eq_some_iff.mp hz).1
      have ez : xs[i] = z := (List.getElem?_eq_some_iff.mp hz).2
      have u := h2.trans u2
      show tb _ (σ1.set k (some x)) H2
      refine body z (List.mem_of_getElem? hz) σ1 G2 H2 x h1 u r2 _ (fun hp => ?_) (fun hp σ2 G3 H3 s3 u3 => ?_)
      · have hf : xs.find? p = some z := by
          rw [← List.take_append_drop i xs, List.find?_append, h4]
          rw [List.drop_eq_getElem_cons hlt, ez]
          simp [hp]
        exact fun v G3 H3 w r => hr z hf v G3 H3 (u.trans w) r
      · refine ⟨G3, s3, u.trans u3, h3.trans (u2.g.trans u3.g), ?_⟩
        rw [List.take_succ_eq_append_getElem hlt, List.find?_append, h4, ez]
        simp [hp]
  · rintro σ1 G1 H1 ⟨h1, h2, _, h4⟩
    rw [List.length_map, List.take_length] at h4
    exact hn h4 σ1 G1 H1 h1 h2
/-- a for that changes one hidden dict: I of the turn and the dict's pairs -/
theorem s_dict {α : Type} {DD : α → PyData} {xs : List α} {k : Nat} {tb : TS} {m : Addr} (f : Nat → List (Key × PyData)) (Sl : L2.St → Prop) (hi : EvI K wi σ G (xs.map DD)) (hin : In G H) (hg : G m = none) (h0 : Sl σ) (hm : ∃ kvs, H m = some (.dK kvs) ∧ RpE K G kvs (f 0))
    (body : ∀ (i : Nat) z, xs[i]? = some z → ∀ σ1 G1 H1 x kvs, Sl σ1 → In G1 H1 → Le G G1 → G1 m = none → H1 m = some (.dK kvs) → RpE K G1 kvs (f i) → Rp K G1 x (DD z) → ∀ D2 : Ends, (∀ σ2 G2 H2 kvs2, Sl σ2 → In G2 H2 → Le G1 G2 → G2 m = none → (∀ a, a ≠ m → ∀ o, H1 a = some o → H2 a = some o) → (∀ a o, G2 a = some o → G1 a = some o ∨ H1 a = none) → H2 m = some (.dK kvs2) → RpE K G2 kvs2 (f (i + 1)) → D2.nx σ2 H2) → tb D2 (σ1.set k (some x)) H1)
    (hd : ∀ σ2 G2 H2 kvs2, Sl σ2 → In G2 H2 → Le G G2 → G2 m = none → (∀ a, a ≠ m → ∀ o, H a = some o → H2 a = some o) → (∀ a o, G2 a = some o → G a = some o ∨ H a = none) → H2 m = some (.dK kvs2) → RpE K G2 kvs2 (f xs.length) → D.nx σ2 H2) : tFor wi (gName k) tb D σ H := by
  obtain ⟨kv0, e0, r0⟩ := hm
  have ne0 : H m ≠ none := by rw [e0]; intro q; cases q
  refine s_for hi hin fun G0 H0 u0 => ⟨fun i σ1 G1 H1 => Sl σ1 ∧ In G1 H1 ∧ Le G0 G1 ∧ G1 m = none ∧ (∀ a, a ≠ m → ∀ o, H a = some o → H1 a = some o) ∧ (∀ a o, G1 a = some o → G a = some o ∨ H a = none) ∧ ∃ kvs, H1 m = some (.dK kvs) ∧ RpE K G1 kvs (f i),
    ⟨h0, u0.i, Le.refl _, u0.hide ne0 hg, fun a _ o e => u0.h a o e, u0.n, kv0, u0.h _ _ e0, r0.mono u0.g⟩, fun i σ1 G1 H1 h => ⟨h.2.2.1, h.2.1⟩, ?_, ?_⟩
  · rintro i d x σ1 G1 H1 G2 H2 hd' ⟨s1, i1, l1, n1, k1, w1, kvs, e1, r1⟩ u2 p2
    rw [List.getElem?_map] at hd'
    cases hz : xs[i]? with
    | none => rw [hz] at hd'; cases hd'
    | some z =>
      rw [hz] at hd'
      cases hd'
      have ne1 : H1 m ≠ none := by rw [e1]; intro q; cases q
      refine body i z hz σ1 G2 H2 x kvs s1 u2.i ((u0.g.trans l1).trans u2.g) (u2.hide ne1 n1) (u2.h _ _ e1) (r1.mono u2.g) p2 _ fun σ2 G3 H3 kvs2 s3 i3 l3 n3 k3 w3 e3 r3 => ?_
      refine ⟨G3, s3, i3, l1.trans (u2.g.trans l3), n3, fun a ha o e => k3 a ha o (u2.h a o (k1 a ha o e)), fun a o e => ?_, kvs2, e3, r3⟩
      rcases w3 a o e with q | q
      · rcases u2.n a o q with q | q
        · exact w1 a o q
        · refine .inr ?_
          cases hh : H a with
          | none => rfl
          | some o' =>
            by_cases ha : a = m
            · subst ha; exact absurd q ne1
            · rw [k1 a ha o' hh] at q; cases q
      · refine .inr ?_
        cases hh : H a with
        | none => rfl
        | some o' =>
          by_cases ha : a = m
          · subst ha
            have := u2.h _ _ e1
            rw [this] at q; cases q
          · have := u2.h a o' (k1 a ha o' hh)
            rw [this] at q; cases q
  · rintro σ1 G1 H1 ⟨s1, i1, l1, n1, k1, w1, kvs, e1, r1⟩
    rw [List.length_map] at r1
    exact hd σ1 G1 H1 kvs s1 i1 (u0.g.trans l1) n1 k1 w1 e1 r1
/-- lo, lo - 1, .. above hi -/
def rngD (lo hi : Int) : List Int := (List.range (lo - hi).toNat).map fun (i : Nat) => lo - (i : Int)
theorem ei_rng3 {tr : TA} {i j : Int} (h : EvA K tr σ G [.int i, .int j, .int (-1)]) (hb : -1000000 ≤ i ∧ i ≤ 1000000 ∧ -1000000 ≤ j ∧ j ≤ 1000000) : EvI K (iRng3 tr) σ G ((rngD i j).map .int) := fun G1 H1 l hi R q => h G1 H1 l hi _ fun vs G2 H2 u2 p2 => by
  obtain ⟨v, ws, rfl, p3, p4⟩ := rpa_cons p2
  obtain ⟨v', ws', rfl, p5, p6⟩ := rpa_cons p4
  obtain ⟨v2, ws2, rfl, p7, p8⟩ := rpa_cons p6
  rw [rp_int p3, rp_int p5, rp_int p7, rpa_nil p8]
  refine ⟨i, j, -1, (i - j).toNat, rfl, RgC.neg (by omega) (by omega) (by omega) (by omega), q _ G2 H2 u2 fun G' H' l' i' => ?_⟩
  have Wk := walk_rangeC (lo := i) (c := -1) (n := (i - j).toNat)
  refine ⟨by simpa [rngD] using Wk.stops H' trivial, fun n d hd => ?_⟩
  have hn : n < (i - j).toNat := by
    have := (List.getElem?_eq_some_iff.mp hd).1
    simpa [rngD] using this
  refine ⟨Wk.goes n H' hn trivial, fun x H3 y => ?_⟩
  obtain ⟨e1, e2⟩ := Wk.yields n H' x H3 hn trivial y
  subst e1 e2
  have : d = .int (i + (n : Nat) * (-1)) := by
    simp [rngD, hn] at hd
    rw [← hd]
    congr 1
    omega
  subst this
  exact ⟨G', Up.refl i', .int _⟩
def enumT {α : Type} (xs : List α) : List (Int × α) := xs.zipIdx.map fun p => ((p.2 : Int), p.1)
theorem enumD_map {α : Type} (DD : α → PyData) (xs : List α) : enumD (xs.map DD) = (enumT xs).map (dP dI DD) := by
  unfold enumD enumT
  rw [List.zipIdx_map, List.map_map, List.map_map]
  apply List.map_congr_left
  intro p _
  rfl
theorem ei_enumT {α : Type} {DD : α → PyData} {tr : TA} {xs : List α} (h : EvA K tr σ G [dL DD xs]) : EvI K (iEnum K tr) σ G ((enumT xs).map (dP dI DD)) := by
  rw [← enumD_map]
  exact ei_enum h
/-- two names -/
theorem bnd_two {a b : PyData} {j k : Nat} : Bnd K (gTup K 2 (gCons (gName j) (gCons (gName k) gNil))) σ (.tuple [a, b]) fun σ2 G => ∃ x y, σ2 = (σ.set j (some x)).set k (some y) ∧ Rp K G x a ∧ Rp K G y b := fun G H x i p Q q => by
  obtain ⟨r, xs, rfl, h1, h2⟩ := rp_tup p
  obtain ⟨x1, ws, rfl, p1, h2⟩ := rpa_cons h2
  obtain ⟨x2, ws, rfl, p2, h2⟩ := rpa_cons h2
  obtain rfl := rpa_nil h2
  exact ⟨r, _, rfl, in_t i h1, rfl, x1, _, rfl, x2, _, rfl, rfl, q _ ⟨x1, x2, rfl, p1, p2⟩⟩
theorem wipe2 {j k : Nat} (h : j ≠ k) {x y : Option V} : wipe (((wipe σ [j, k]).set j x).set k y) [j, k] = wipe σ [j, k] := by
  show (((((σ.set k none).set j none).set j x).set k y).set k none).set j none = (σ.set k none).set j none
  rw [List.set_set, List.set_set, List.set_comm _ _ h, List.set_set, List.set_comm _ _ h.symm, List.set_comm _ _ h.symm, List.set_set]
theorem ev_lcF2 {α β γ : Type} {D1 : α → PyData} {D2 : β → PyData} {DE : γ → PyData} {xs : List (α × β)} {p : α × β → Bool} {M : α × β → γ} {j k : Nat} (hjk : j ≠ k) (hi : EvI K wi σ G (xs.map (dP D1 D2)))
    (ht : ∀ z ∈ xs, ∀ G1 x y, Le G G1 → Rp K G1 x (D1 z.1) → Rp K G1 y (D2 z.2) → EvT tt (((wipe σ [j, k]).set j (some x)).set k (some y)) G1 (p z)) (he : ∀ z ∈ xs, p z = true → ∀ G1 x y, Le G G1 → Rp K G1 x (D1 z.1) → Rp K G1 y (D2 z.2) → Ev K te (((wipe σ [j, k]).set j (some x)).set k (some y)) G1 (DE (M z))) (hl : xs.length ≤ 100000) :
    Ev K (tLc wi (gTup K 2 (gCons (gName j) (gCons (gName k) gNil))) tt te [j, k]) σ G (dL DE ((xs.filter p).map M)) := by
  have h := ev_lc (K := K) (σ := σ) (G := G) (te := te) (tt := tt) (g := gTup K 2 (gCons (gName j) (gCons (gName k) gNil))) (vs := [j, k]) (p := p) (f := fun z => DE (M z)) (B := fun z σ2 G => ∃ x y, σ2 = ((wipe σ [j, k]).set j (some x)).set k (some y) ∧ Rp K G x (D1 z.1) ∧ Rp K G y (D2 z.2)) hi (fun z _ => bnd_two) (fun z _ σ2 G ⟨x, y, e, _⟩ => by subst e; exact wipe2 hjk)
    (fun z hz G1 σ2 l ⟨x, y, e, hx, hy⟩ => by subst e; exact ht z hz G1 x y l hx hy) (fun z hz hp G1 σ2 l ⟨x, y, e, hx, hy⟩ => by subst e; exact he z hz hp G1 x y l hx hy) (fun z σ2 G1 G2 l ⟨x, y, e, hx, hy⟩ => ⟨x, y, e, hx.mono l, hy.mono l⟩) hl
  have e : (xs.filter p).map (fun z => DE (M z)) = ((xs.filter p).map M).map DE := by rw [List.map_map]; rfl
  rw [e] at h
  exact h
theorem ev_lcM2 {α β γ : Type} {D1 : α → PyData} {D2 : β → PyData} {DE : γ → PyData} {xs : List (α × β)} {M : α × β → γ} {j k : Nat} (hjk : j ≠ k) (hi : EvI K wi σ G (xs.map (dP D1 D2)))
    (he : ∀ z ∈ xs, ∀ G1 x y, Le G G1 → Rp K G1 x (D1 z.1) → Rp K G1 y (D2 z.2) → Ev K te (((wipe σ [j, k]).set j (some x)).set k (some y)) G1 (DE (M z))) (hl : xs.length ≤ 100000) :
    Ev K (tLc wi (gTup K 2 (gCons (gName j) (gCons (gName k) gNil))) tYes te [j, k]) σ G (dL DE (xs.map M)) := by
  have h := ev_lcF2 (te := te) (tt := tYes) (p := fun _ => true) (M := M) (DE := DE) hjk hi (fun z hz G1 x y l _ _ G3 H3 l3 i3 Q q => q G3 H3 (Up.refl i3)) (fun z hz _ => he z hz) hl
  rw [List.filter_eq_self.mpr (fun _ _ => rfl)] at h
  exact h
end
end Z

namespace Z
open PySem PySem.Spec PyProof.Rows L2
/-! ### draws -/
abbrev kq (x : Str) : Key := Sum.inr x
def dkv (w c : Addr) (r t : Int) : List (Key × V) := [(kq "wide", .ref w), (kq "cells", .ref c), (kq "rest", .int r), (kq "turn", .int t)]
theorem k12 : decide ((kq "wide" : Key) = kq "cells") = false := by decide +kernel
theorem k13 : decide ((kq "wide" : Key) = kq "rest") = false := by decide +kernel
theorem k14 : decide ((kq "wide" : Key) = kq "turn") = false := by decide +kernel
theorem k23 : decide ((kq "cells" : Key) = kq "rest") = false := by decide +kernel
theorem k24 : decide ((kq "cells" : Key) = kq "turn") = false := by decide +kernel
theorem k34 : decide ((kq "rest" : Key) = kq "turn") = false := by decide +kernel
theorem k43 : decide ((kq "turn" : Key) = kq "rest") = false := by decide +kernel
theorem kd (k : Key) : decide (k = k) = true := by simp
section
variable (w c : Addr) (r t : Int)
theorem g_wide : valV (dkv w c r t) (kq "wide") = some (.ref w) := by
  unfold valV dkv; rw [List.find?_cons, kd]; rfl
theorem g_cells : valV (dkv w c r t) (kq "cells") = some (.ref c) := by
  unfold valV dkv; rw [List.find?_cons, k12, List.find?_cons, kd]; rfl
theorem g_rest : valV (dkv w c r t) (kq "rest") = some (.int r) := by
  unfold valV dkv; rw [List.find?_cons, k13, List.find?_cons, k23, List.find?_cons, kd]; rfl
theorem g_turn : valV (dkv w c r t) (kq "turn") = some (.int t) := by
  unfold valV dkv; rw [List.find?_cons, k14, List.find?_cons, k24, List.find?_cons, k34, List.find?_cons, kd]; rfl
theorem p_rest (r' : Int) : putK (dkv w c r t) (kq "rest") (.int r') = dkv w c r' t := by
  rw [putK_putE]
  unfold putE dkv
  rw [if_pos (by simp)]
  have e1 : ¬ (kq "wide" : Key) = kq "rest" := of_decide_eq_false k13
  have e2 : ¬ (kq "cells" : Key) = kq "rest" := of_decide_eq_false k23
  have e3 : ¬ (kq "turn" : Key) = kq "rest" := of_decide_eq_false k43
  simp only [List.map_cons, List.map_nil, if_neg e1, if_neg e2, if_neg e3, if_true]
theorem p_turn (t' : Int) : putK (dkv w c r t) (kq "turn") (.int t') = dkv w c r t' := by
  rw [putK_putE]
  unfold putE dkv
  rw [if_pos (by simp)]
  have e1 : ¬ (kq "wide" : Key) = kq "turn" := of_decide_eq_false k14
  have e2 : ¬ (kq "cells" : Key) = kq "turn" := of_decide_eq_false k24
  have e3 : ¬ (kq "rest" : Key) = kq "turn" := of_decide_eq_false k34
  simp only [List.map_cons, List.map_nil, if_neg e1, if_neg e2, if_neg e3, if_true]
end
/-- the draws' state at m, its wide numbers at w: n turns are left -/
def Drw (m w : Addr) (n : Nat) (G H : Hp) : Prop := ∃ (c : Addr) (ws cs : List Int) (r t : Int), H m = some (.dK (dkv w c r t)) ∧ H w = some (.lst (ws.map .int)) ∧ G c = some (.lst (cs.map .int)) ∧ c ≠ w ∧ (∀ x ∈ cs, 0 ≤ x ∧ x < 2147483648) ∧ 0 ≤ t ∧ t + n ≤ 1000000000000
theorem Drw.mono {m w : Addr} {n n' : Nat} {G H : Hp} (d : Drw m w n G H) (h : n' ≤ n) : Drw m w n' G H := by
  obtain ⟨c, ws, cs, r, t, h1, h2, h3, h4, h5, h6, h7⟩ := d
  exact ⟨c, ws, cs, r, t, h1, h2, h3, h4, h5, h6, by omega⟩
/-- a step that may change the draws alone -/
structure UpM (m w : Addr) (G H G2 H2 : Hp) : Prop where
  g : Le G G2
  i : In G2 H2
  h : ∀ a, a ≠ m → a ≠ w → ∀ o, H a = some o → H2 a = some o
  n : ∀ a o, G2 a = some o → G a = some o ∨ H a = none
theorem UpM.refl {m w : Addr} {G H : Hp} (i : In G H) : UpM m w G H G H := ⟨Le.refl _, i, fun _ _ _ _ e => e, fun _ _ e => .inl e⟩
theorem UpM.of {m w : Addr} {G H G2 H2 : Hp} (u : Up G H G2 H2) : UpM m w G H G2 H2 := ⟨u.g, u.i, fun a _ _ o e => u.h a o e, u.n⟩
/-- the draws are hidden, and they stand -/
structure DOk (m w : Addr) (n : Nat) (G H : Hp) : Prop where
  i : In G H
  gm : G m = none
  gw : G w = none
  d : Drw m w n G H
theorem DOk.hm {m w : Addr} {n : Nat} {G H : Hp} (d : DOk m w n G H) : H m ≠ none := by
  obtain ⟨c, ws, cs, r, t, h1, _⟩ := d.d
  rw [h1]; intro q; cases q
theorem DOk.hw {m w : Addr} {n : Nat} {G H : Hp} (d : DOk m w n G H) : H w ≠ none := by
  obtain ⟨c, ws, cs, r, t, h1, h2, _⟩ := d.d
  rw [h2]; intro q; cases q
theorem Drw.up {m w : Addr} {n : Nat} {G G2 H H2 : Hp} (d : Drw m w n G H) (g : Le G G2) (l : Le H H2) : Drw m w n G2 H2 := by
  obtain ⟨c, ws, cs, r, t, h1, h2, h3, h⟩ := d
  exact ⟨c, ws, cs, r, t, l _ _ h1, l _ _ h2, g _ _ h3, h⟩
theorem DOk.up {m w : Addr} {n : Nat} {G H G2 H2 : Hp} (d : DOk m w n G H) (u : Up G H G2 H2) : DOk m w n G2 H2 :=
  ⟨u.i, u.hide d.hm d.gm, u.hide d.hw d.gw, d.d.up u.g u.h⟩
theorem DOk.mono {m w : Addr} {n n' : Nat} {G H : Hp} (d : DOk m w n G H) (h : n' ≤ n) : DOk m w n' G H := ⟨d.i, d.gm, d.gw, d.d.mono h⟩
theorem UpM.trans {m w : Addr} {n : Nat} {G H G2 H2 G3 H3 : Hp} (d2 : DOk m w n G2 H2) (u : UpM m w G H G2 H2) (v : UpM m w G2 H2 G3 H3) : UpM m w G H G3 H3 :=
  ⟨u.g.trans v.g, v.i, fun a h1 h2 o e => v.h a h1 h2 o (u.h a h1 h2 o e), fun a o e => by
    rcases v.n a o e with q | q
    · exact u.n a o q
    · refine .inr ?_
      cases hh : H a with
      | none => rfl
      | some o' =>
        by_cases h1 : a = m
        · subst h1; exact absurd q d2.hm
        · by_cases h2 : a = w
          · subst h2; exact absurd q d2.hw
          · rw [u.h a h1 h2 o' hh] at q; cases q⟩
/-- the promise of a draw -/
def sp__law_take (K : PySem.W.Frag) (ca : Str → Addr) : Sp := fun vs H Q E => ∃ (G : Hp) (m w : Addr) (n : Nat) (tot : Int), vs = [.ref m, .int tot] ∧ DOk m w (n + 1) G H ∧ 0 < tot ∧ tot < 1000000000 ∧
  ∀ v H2, 0 ≤ v → v < tot → UpM m w G H G H2 → DOk m w n G H2 → Q (.int v) H2
def sp__law_mixed (K : PySem.W.Frag) (ca : Str → Addr) : Sp := fun vs H Q E => ∃ (m w c : Addr) (n : Nat) (ws cs : List Int) (r t : Int), vs = [.ref m] ∧ H m = some (.dK (dkv w c r t)) ∧ H w = some (.lst (ws.map .int)) ∧ H c = some (.lst (cs.map .int)) ∧ (∀ x ∈ cs, 0 ≤ x ∧ x < 2147483648) ∧ 0 ≤ t ∧ t + 1 ≤ 1000000000000 ∧
  ∀ v H2, (∀ a, a ≠ m → ∀ o, H a = some o → H2 a = some o) → H2 m = some (.dK (dkv w c r (t + 1))) → Q (.int v) H2
end Z

namespace Z
open PySem PySem.Spec PyProof.Rows L2
def t__law_mixed (K : PySem.W.Frag) (ca : Str → Addr) (E : XK) : TS := (tSeq ((tPar 1 2 ((tCons ((tOp (rI0 fun i j => .int (i + j)) ((tDGet ((tVar 0)) (tC (.str "turn")))) (tC (.int 1)))) ((tCons (tC (.int 0)) (tNil))))))) ((tSeq ((sDPut ((tVar 0)) (tC (.str "turn")) ((tVar 1)))) ((tSeq ((tFor ((iList K ((tLst ((tCons (tC (.int 2147483629)) ((tCons (tC (.int 2147483587)) ((tCons (tC (.int 2147483579)) ((tCons (tC (.int 2147483563)) (tNil))))))))))))) ((gName 3)) ((tSeq ((tAsg ((tOp (rI0 fun i j => .int (i + j)) ((tOp (rI CMul fun i j => .int (i * j)) (tC (.int 62617)) ((tVar 1)))) ((tOp (rI CDivN fun i j => .int (i.fdiv j)) ((tVar 3)) (tC (.int 31)))))) (gName 4))) ((tSeq ((tFor ((iList K ((tDGet ((tVar 0)) (tC (.str "cells")))))) ((gName 5)) ((tAsg ((tOp (rI (fun _ j => j ≠ 0) fun i j => .int (i.fmod j)) ((tCB (rInt1) ((tCons ((tOp (rI0 fun i j => .int (i + j)) ((tOp (rI0 fun i j => .int (i + j)) ((tOp (rI CMul fun i j => .int (i * j)) ((tVar 4)) (tC (.int 48271)))) ((tVar 5)))) ((tVar 1)))) (tNil))))) ((tVar 3)))) (gName 4))))) ((tAsg ((tOp (rI0 fun i j => .int (i + j)) ((tOp (rI CMul fun i j => .int (i * j)) ((tVar 2)) (tC (.int 2147483647)))) ((tOp (rI (fun _ j => j ≠ 0) fun i j => .int (i.fmod j)) ((tCB (rInt1) ((tCons ((tOp (rI CPow fun i j => .int (i ^ j.toNat)) ((tVar 4)) (tC (.int 5)))) (tNil))))) ((tVar 3)))))) (gName 2))))))))) ((tRet ((tVar 2)))))))))
def t__law_take (K : PySem.W.Frag) (ca : Str → Addr) (E : XK) : TS := (tSeq ((tIfS ((tTest (tOp (rEq) ((tDGet ((tVar 0)) (tC (.str "rest")))) (tC (.int 0))))) ((sDPut ((tVar 0)) (tC (.str "rest")) ((tIf ((tTest (tOp (rNeD K) ((tDGet ((tVar 0)) (tC (.str "wide")))) ((tLst (tNil)))))) ((tBM K "list" rPopAt ((tDGet ((tVar 0)) (tC (.str "wide")))) ((tCons (tC (.int 0)) (tNil))))) ((tCall (sp__law_mixed K ca) [] E ((tCons ((tVar 0)) (tNil))))))))) (tNext))) ((tSeq ((tAsg ((tOp (rI (fun _ j => j ≠ 0) fun i j => .int (i.fmod j)) ((tCB (rInt1) ((tCons ((tDGet ((tVar 0)) (tC (.str "rest")))) (tNil))))) ((tVar 1)))) (gName 2))) ((tSeq ((sDPut ((tVar 0)) (tC (.str "rest")) ((tOp (rI CDivN fun i j => .int (i.fdiv j)) ((tDGet ((tVar 0)) (tC (.str "rest")))) ((tVar 1)))))) ((tRet ((tVar 2)))))))))
theorem dget_of {H : Hp} {a : Addr} {kvs : List (Key × V)} {x : Str} {v : V} (h : H a = some (.dK kvs)) (e : valV kvs (kq x) = some v) : DGet H a (.str x) (some v) := .inl ⟨kvs, kq x, .inl h, rfl, e.symm⟩
theorem fmod_bd (a b : Int) (h : 0 < b) : 0 ≤ Int.fmod a b ∧ Int.fmod a b < b := by
  rw [Int.fmod_eq_emod_of_nonneg _ (by omega)]
  exact ⟨Int.emod_nonneg _ (by omega), Int.emod_lt_of_pos _ h⟩
theorem pure__law_mixed {K : PySem.W.Frag} {ca : Str → Addr} (vs : List V) (H : Hp) (Q : VK) (E : XK) (h : sp__law_mixed K ca vs H Q E) : vs.length = 1 ∧ t__law_mixed K ca E { nx := fun _ H2 => Q .non H2, rt := Q } (start ["_law_draw", "_law_tick", "_law_found", "_law_prime", "_law_blend", "_law_cell"] vs) H := by
  obtain ⟨m, w, c, n, ws, cs, r, t, rfl, hm, hw, hc, hcs, ht, htn, k⟩ := h
  refine ⟨rfl, ?_⟩
  refine ⟨.ref m, rfl, m, .int t, rfl, dget_of hm (g_turn w c r t), t, 1, rfl, rfl, .int (t + 1), .int 0, rfl, ?_⟩
  refine ⟨.int (t + 1), rfl, .ref m, rfl, m, upd H m (.dK (dkv w c r (t + 1))), rfl, .inl ⟨_, kq "turn", hm, rfl, by show 4 < sizeLine; decide, by rw [p_turn]⟩, ?_⟩
  refine ⟨by show 4 ≤ sizeLine; decide, fun p hp => ⟨p, rfl, ⟨_, .inl (.inl upd_same)⟩, ?_⟩⟩
  have npm : p ≠ m := fun e => by rw [e, upd_same] at hp; cases hp
  have ncm : c ≠ m := fun e => by rw [e, hm] at hc; cases hc
  have hp0 : H p = none := by rw [upd_ne npm] at hp; exact hp
  have ncp : c ≠ p := fun e => by rw [e, hp0] at hc; cases hc
  refine for_list (K := K) (a := p) (xs := [V.int 2147483629, V.int 2147483587, V.int 2147483579, V.int 2147483563]) (fun i σ H' => ∃ (f : Int) (v3 v4 v5 : Option V), σ = [some (.ref m), some (.int (t + 1)), some (.int f), v3, v4, v5] ∧ H' = upd (upd H m (.dK (dkv w c r (t + 1)))) p (.lst [V.int 2147483629, V.int 2147483587, V.int 2147483579, V.int 2147483563])) ⟨0, none, none, none, rfl, rfl⟩ (fun i σ H' _ ⟨_, _, _, _, _, e⟩ => by rw [e]; exact .inl (.inl upd_same)) ?_ ?_
  · rintro i x σ H' hx ⟨f, v3, v4, v5, rfl, eH⟩
    obtain ⟨pr, rfl, hpr⟩ : ∃ pr, x = V.int pr ∧ 2147483563 ≤ pr ∧ pr ≤ 2147483629 := by
      have hm2 := List.mem_of_getElem? hx
      simp only [List.mem_cons, List.not_mem_nil, or_false] at hm2
      rcases hm2 with e | e | e | e <;> exact ⟨_, e, by omega, by omega⟩
    have hm' : H' m = some (.dK (dkv w c r (t + 1))) := by rw [eH, upd_ne npm.symm, upd_same]
    have hc' : H' c = some (.lst (cs.map .int)) := by rw [eH, upd_ne ncp, upd_ne ncm]; exact hc
    refine ⟨.int (t + 1), rfl, 62617, t + 1, rfl, rfl, .inl ⟨by decide, by decide⟩, .int pr, rfl, pr, 31, rfl, rfl, ⟨by decide, by decide⟩, _, _, rfl, rfl, ?_⟩
    have hb0 : 0 ≤ 62617 * (t + 1) + Int.fdiv pr 31 ∧ 62617 * (t + 1) + Int.fdiv pr 31 < 1000000000000000000 := by
      rw [Int.fdiv_eq_ediv_of_nonneg _ (by omega)]
      omega
    refine ⟨.ref m, rfl, m, .ref c, rfl, dget_of hm' (g_cells w c r (t + 1)), c, rfl, ⟨_, .inl (.inl hc')⟩, ?_⟩
    refine for_list (K := K) (a := c) (xs := cs.map V.int) (fun j σ H'' => H'' = H' ∧ ∃ (b : Int) (u5 : Option V), σ = [some (.ref m), some (.int (t + 1)), some (.int f), some (.int pr), some (.int b), u5] ∧ 0 ≤ b ∧ b < 1000000000000000000) ⟨rfl, _, v5, rfl, hb0⟩ (fun j σ H'' _ ⟨e, _⟩ => by rw [e]; exact .inl (.inl hc')) ?_ ?_
    · rintro j y σ H'' hy ⟨rfl, b, u5, rfl, hb⟩
      obtain ⟨cv, rfl⟩ : ∃ cv, y = V.int cv := by
        rw [List.getElem?_map] at hy
        cases q : cs[j]? with
        | none => rw [q] at hy; cases hy
        | some cv => rw [q] at hy; exact ⟨cv, (Option.some.inj hy).symm⟩
      refine ⟨.int b, rfl, b, 48271, rfl, rfl, .inr ⟨by decide, by decide⟩, .int cv, rfl, _, cv, rfl, rfl, .int (t + 1), rfl, _, t + 1, rfl, rfl, .inl ⟨_, rfl, .int pr, rfl, _, pr, rfl, rfl, by omega, ?_⟩⟩
      have hf := fmod_bd (b * 48271 + cv + (t + 1)) pr (by omega)
      exact ⟨rfl, _, _, rfl, hf.1, by omega⟩
    · rintro σ H'' ⟨rfl, b, u5, rfl, hb⟩
      refine ⟨.int f, rfl, f, 2147483647, rfl, rfl, .inr ⟨by decide, by decide⟩, .int b, rfl, b, 5, rfl, rfl, ⟨by decide, by decide, by omega⟩, .inl ⟨_, rfl, .int pr, rfl, _, pr, rfl, rfl, by omega, _, _, rfl, rfl, ?_⟩⟩
      exact ⟨_, _, _, _, rfl, eH⟩
  · rintro σ H' ⟨f, v3, v4, v5, rfl, eH⟩
    refine ⟨.int f, rfl, k f H' (fun a ha o e => ?_) (by rw [eH, upd_ne npm.symm, upd_same])⟩
    have nap : a ≠ p := fun z => by rw [z, hp0] at e; cases e
    rw [eH, upd_ne nap, upd_ne ha]
    exact e
theorem pure__law_take {K : PySem.W.Frag} {ca : Str → Addr} (vs : List V) (H : Hp) (Q : VK) (E : XK) (h : sp__law_take K ca vs H Q E) : vs.length = 2 ∧ t__law_take K ca E { nx := fun _ H2 => Q .non H2, rt := Q } (start ["_law_draw", "_law_total", "_law_found"] vs) H := by
  obtain ⟨G, m, w, n, tot, rfl, ⟨hin, gm, gw, c, ws, cs, r, t, hm, hw, gc, hcw, hcs, ht, htn⟩, h0, h1, k⟩ := h
  refine ⟨rfl, ?_⟩
  have hc : H c = some (.lst (cs.map .int)) := hin.ex gc rfl
  have nmw : m ≠ w := fun e => by rw [e, hw] at hm; cases hm
  have ncm : c ≠ m := fun e => by rw [e, hm] at hc; cases hc
  -- what follows the first statement
  have tail : ∀ (H' : Hp) (ws' : List Int) (r' t' : Int), H' m = some (.dK (dkv w c r' t')) → H' w = some (.lst (ws'.map .int)) → (∀ a, a ≠ m → a ≠ w → ∀ o, H a = some o → H' a = some o) → 0 ≤ t' → t' ≤ t + 1 →
      tSeq (tAsg (tOp (rI (fun _ j => j ≠ 0) fun i j => .int (i.fmod j)) (tCB rInt1 (tCons (tDGet (tVar 0) (tC (.str "rest"))) tNil)) (tVar 1)) (gName 2)) (tSeq (sDPut (tVar 0) (tC (.str "rest")) (tOp (rI CDivN fun i j => .int (i.fdiv j)) (tDGet (tVar 0) (tC (.str "rest"))) (tVar 1))) (tRet (tVar 2)))
        { nx := fun _ H2 => Q .non H2, rt := Q } (start ["_law_draw", "_law_total", "_law_found"] [.ref m, .int tot]) H' := by
    intro H' ws' r' t' hm' hw' hk ht' htn'
    refine ⟨.ref m, rfl, m, .int r', rfl, dget_of hm' (g_rest w c r' t'), .inl ⟨r', rfl, .int tot, rfl, r', tot, rfl, rfl, by omega, ?_⟩⟩
    refine ⟨.ref m, rfl, m, .int r', rfl, dget_of hm' (g_rest w c r' t'), .int tot, rfl, r', tot, rfl, rfl, ⟨by omega, by omega⟩, .ref m, rfl, m, upd H' m (.dK (dkv w c (r'.fdiv tot) t')), rfl, .inl ⟨_, kq "rest", hm', rfl, by show 4 < sizeLine; decide, by rw [p_rest]⟩, ?_⟩
    have hf := fmod_bd r' tot h0
    have hc' : H' c = some (.lst (cs.map .int)) := hk c ncm hcw _ hc
    refine ⟨.int (r'.fmod tot), rfl, k _ _ hf.1 hf.2 ?_ ?_⟩
    · refine ⟨Le.refl _, fun a o e => ?_, fun a h1 h2 o e => by rw [upd_ne h1]; exact hk a h1 h2 o e, fun a o e => .inl e⟩
      have n1 : a ≠ m := fun z => by rw [z, gm] at e; cases e
      have n2 : a ≠ w := fun z => by rw [z, gw] at e; cases e
      rw [upd_ne n1]
      rcases hin a o e with q | ⟨q1, ob, q⟩
      · exact .inl (hk a n1 n2 _ q)
      · exact .inr ⟨q1, ob, hk a n1 n2 _ q⟩
    · refine ⟨fun a o e => ?_, gm, gw, c, ws', cs, r'.fdiv tot, t', upd_same, by rw [upd_ne nmw.symm]; exact hw', gc, hcw, hcs, ht', by omega⟩
      have n1 : a ≠ m := fun z => by rw [z, gm] at e; cases e
      have n2 : a ≠ w := fun z => by rw [z, gw] at e; cases e
      rw [upd_ne n1]
      rcases hin a o e with q | ⟨q1, ob, q⟩
      · exact .inl (hk a n1 n2 _ q)
      · exact .inr ⟨q1, ob, hk a n1 n2 _ q⟩
  refine ⟨.ref m, rfl, m, .int r, rfl, dget_of hm (g_rest w c r t), rfl, _, rfl, ?_⟩
  by_cases hr : V.int r = V.int 0
  · dsimp only
    rw [if_pos (decide_eq_true hr)]
    refine ⟨.ref m, rfl, m, .ref w, rfl, dget_of hm (g_wide w c r t), Nat.zero_le _, fun p hp => ?_⟩
    have npm : p ≠ m := fun e => by rw [e, hm] at hp; cases hp
    have npw : p ≠ w := fun e => by rw [e, hw] at hp; cases hp
    have npc : p ≠ c := fun e => by rw [e, hc] at hp; cases hp
    have hm1 : upd H p (.lst []) m = some (.dK (dkv w c r t)) := by rw [upd_ne npm.symm]; exact hm
    have hw1 : upd H p (.lst []) w = some (.lst (ws.map .int)) := by rw [upd_ne npw.symm]; exact hw
    have hc1 : upd H p (.lst []) c = some (.lst (cs.map .int)) := by rw [upd_ne npc.symm]; exact hc
    have dws : ∀ xs : List Int, DpAll K (upd H p (.lst [])) (xs.map V.int) (xs.map .int) := by
      intro xs
      induction xs with
      | nil => exact .nil
      | cons x xs ih => exact .cons (.int x) ih
    refine ⟨dL dI ws, dL dI [], .lst (.inl (.inl hw1)) (dws ws), .lst (.inl (.inl upd_same)) .nil, (eqt_L eqt_I).shaped (by decide) (fun _ _ => trivial), (eqt_L eqt_I).shaped (by decide) (fun _ _ => trivial), _, rfl, ?_⟩
    dsimp only
    rw [(eqt_L eqt_I).eq]
    cases ws with
    | nil =>
      rw [if_neg (by simp)]
      refine ⟨.ref m, rfl, m, w, c, n, [], cs, r, t, rfl, hm1, hw1, hc1, hcs, ht, by omega, fun v H2 k2 e2 => ?_⟩
      refine ⟨.ref m, rfl, m, upd H2 m (.dK (dkv w c v (t + 1))), rfl, .inl ⟨_, kq "rest", e2, rfl, by show 4 < sizeLine; decide, by rw [p_rest]⟩, ?_⟩
      refine tail _ [] v (t + 1) upd_same (by rw [upd_ne nmw.symm]; exact k2 w nmw.symm _ hw1) (fun a n1 n2 o e => ?_) (by omega) (by omega)
      have nap : a ≠ p := fun z => by rw [z, hp] at e; cases e
      rw [upd_ne n1]
      exact k2 a n1 o (by rw [upd_ne nap]; exact e)
    | cons x ws =>
      rw [if_pos (by simp)]
      refine ⟨.ref m, rfl, m, .ref w, rfl, dget_of hm1 (g_wide w c r t), .inl ⟨rfl, _, .inl (.inl hw1)⟩, w, _, 0, 0, .int x, rfl, rfl, hw1, by decide, by decide, ?_, rfl, ?_⟩
      · show seqIndex? 0 ((x :: ws).map V.int).length = some 0
        rw [List.length_map, List.length_cons]
        unfold seqIndex?
        simp
      · have hm2 : upd (upd H p (.lst [])) w (.lst (((x :: ws).map V.int).eraseIdx 0)) m = some (.dK (dkv w c r t)) := by rw [upd_ne nmw]; exact hm1
        refine ⟨.ref m, rfl, m, upd (upd (upd H p (.lst [])) w (.lst (((x :: ws).map V.int).eraseIdx 0))) m (.dK (dkv w c x t)), rfl, .inl ⟨_, kq "rest", hm2, rfl, by show 4 < sizeLine; decide, by rw [p_rest]⟩, ?_⟩
        refine tail _ ws x t upd_same (by rw [upd_ne nmw.symm, upd_same]; rfl) (fun a n1 n2 o e => ?_) ht (by omega)
        have nap : a ≠ p := fun z => by rw [z, hp] at e; cases e
        rw [upd_ne n1, upd_ne n2, upd_ne nap]
        exact e
  · dsimp only
    rw [if_neg (by simpa using hr)]
    exact tail H ws r t hm hw (fun _ _ _ _ e => e) ht (by omega)
end Z

namespace Z
open PySem PySem.Spec PyProof.Rows L2
/-! ### the script, the draws' beginning -/
theorem sql_in {K : PySem.W.Frag} {G H : Hp} {a : Addr} {xs : List V} (h : SqL K G a xs) (i : In G H) : SqL K H a xs := by
  rcases h with q | q
  · rcases q with q | ⟨o, q⟩
    · exact .inl (.inl (i.ex q rfl))
    · exact .inl (.inr ⟨o, i.ex q rfl⟩)
  · exact .inr q
theorem sql_le {K : PySem.W.Frag} {G H : Hp} {a : Addr} {xs : List V} (h : SqL K G a xs) (i : Le G H) : SqL K H a xs := by
  rcases h with q | q
  · rcases q with q | ⟨o, q⟩
    · exact .inl (.inl (i _ _ q))
    · exact .inl (.inr ⟨o, i _ _ q⟩)
  · exact .inr q
theorem wk_scr {K : PySem.W.Frag} {G : Hp} {a : Addr} {ns : List Int} (h : SqL K G a (ns.map .int)) : WkD K (Itl K a) G (ns.map .int) := fun G' H' l i => by
  have e : SqL K H' a (ns.map .int) := sql_in (sql_le h l) i
  have W := walk_list (K := K) (a := a) (xs := ns.map .int)
  refine ⟨by have := W.stops H' e; rw [List.length_map] at this ⊢; exact this, fun j d hd => ?_⟩
  rw [List.getElem?_map] at hd
  cases hn : ns[j]? with
  | none => rw [hn] at hd; cases hd
  | some n =>
    rw [hn] at hd
    cases hd
    have hj : j < (ns.map V.int).length := by rw [List.length_map]; exact (List.getElem?_eq_some_iff.mp hn).1
    refine ⟨W.goes j H' hj e, fun x H2 y => ?_⟩
    obtain ⟨e1, e2⟩ := W.yields j H' x H2 hj e y
    rw [List.getElem?_map, hn] at e2
    cases e2
    subst e1
    exact ⟨G', Up.refl i, .int n⟩
theorem ei_scr {K : PySem.W.Frag} {G : Hp} {σ : L2.St} {k : Nat} {a : Addr} {ns : List Int} (hv : σ[k]? = some (some (.ref a))) (h : SqL K G a (ns.map .int)) : EvI K (iList K (tVar k)) σ G (ns.map .int) := fun G1 H1 l i R q =>
  ⟨.ref a, hv, a, rfl, ⟨_, sql_in (sql_le h l) i⟩, q _ G1 H1 (Up.refl i) (wk_scr (sql_le h l))⟩
theorem merge4 (w c : Addr) : mergeK [] [(kq "wide", V.ref w), (kq "cells", .ref c), (kq "rest", .int 0), (kq "turn", .int 0)] = dkv w c 0 0 := by
  have e1 := of_decide_eq_false k12
  have e2 := of_decide_eq_false k13
  have e3 := of_decide_eq_false k14
  have e4 := of_decide_eq_false k23
  have e5 := of_decide_eq_false k24
  have e6 := of_decide_eq_false k34
  unfold mergeK dkv
  simp only [List.foldl_cons, List.foldl_nil, putK_putE]
  simp only [putE, List.any_nil, List.any_cons, List.nil_append, List.cons_append, decide_eq_false e1, decide_eq_false e2, decide_eq_false e3, decide_eq_false e4, decide_eq_false e5, decide_eq_false e6, Bool.or_false, if_false, Bool.false_eq_true]
def sp__law_begun (K : PySem.W.Frag) (ca : Str → Addr) : Sp := fun vs H Q E => ∃ (G : Hp) (a : Addr) (ns : List Int), vs = [.ref a] ∧ In G H ∧ SqL K G a (ns.map .int) ∧ ns.length ≤ 1000 ∧
  ∀ m w G2 H2, Le G G2 → Le H H2 → DOk m w 1000000000000 G2 H2 → Q (.ref m) H2
def t__law_begun (K : PySem.W.Frag) (ca : Str → Addr) (E : XK) : TS := (tSeq ((tAsg (tLc ((iList K ((tVar 0)))) ((gName 2)) ((tTest (tOp (rI0 fun i j => .bl (decide (j ≤ i))) ((tCB (rAbs) ((tCons ((tVar 2)) (tNil))))) ((tOp (rI CPow fun i j => .int (i ^ j.toNat)) (tC (.int 10)) (tC (.int 18))))))) ((tOp (rI0 fun i j => .int (i - j)) ((tCB (rAbs) ((tCons ((tVar 2)) (tNil))))) ((tOp (rI CPow fun i j => .int (i ^ j.toNat)) (tC (.int 10)) (tC (.int 18)))))) [2]) (gName 1))) ((tRet ((tDisp [(tC (.str "wide"), (tVar 1)), (tC (.str "cells"), (tLc ((iList K ((tVar 0)))) ((gName 2)) (tYes) ((tOp (rI (fun _ j => j ≠ 0) fun i j => .int (i.fmod j)) ((tCB (rInt1) ((tCons ((tCB (rAbs) ((tCons ((tVar 2)) (tNil))))) (tNil))))) (tC (.int 2147483629)))) [2])), (tC (.str "rest"), tC (.int 0)), (tC (.str "turn"), tC (.int 0))])))))
theorem pure__law_begun {K : PySem.W.Frag} {ca : Str → Addr} (vs : List V) (H : Hp) (Q : VK) (E : XK) (h : sp__law_begun K ca vs H Q E) : vs.length = 1 ∧ t__law_begun K ca E { nx := fun _ H2 => Q .non H2, rt := Q } (start ["_law_script", "_law_wide", "_law_cell"] vs) H := by
  obtain ⟨G, a, ns, rfl, hin, hs, hl, k⟩ := h
  refine ⟨rfl, ?_⟩
  unfold t__law_begun tSeq tAsg tRet tDisp
  refine lc_new (D := dI) (xs := ns) (p := fun c => decide ((10 : Int) ^ (18 : Int).toNat ≤ (c.natAbs : Int))) (f := fun c => dI ((c.natAbs : Int) - (10 : Int) ^ (18 : Int).toNat)) (B := fun z σ2 G => ∃ x, σ2 = (wipe (start ["_law_script", "_law_wide", "_law_cell"] [.ref a]) [2]).set 2 (some x) ∧ Rp K G x (dI z)) (ei_scr (k := 0) rfl hs) (fun z _ => bnd_name) (fun z _ σ2 G ⟨x, e, _⟩ => by rw [e]; exact wipe1) (fun z _ G1 σ2 l1 ⟨x, e, r⟩ => ?_) (fun z _ _ G1 σ2 l1 ⟨x, e, r⟩ => ?_) (fun z σ2 G1 G2 l2 ⟨x, e, r⟩ => ⟨x, e, r.mono l2⟩) (by omega) (Le.refl _) hin ?_
  · subst e
    exact et_test (ev_op (ev_cb (ea_cons (ev_var rfl r) ea_nil) cav_abs) (ev_op ev_int ev_int (opv_pow ⟨by decide, by decide, by decide⟩)) opv_ge)
  · subst e
    exact ev_op (ev_cb (ea_cons (ev_var rfl r) ea_nil) cav_abs) (ev_op ev_int ev_int (opv_pow ⟨by decide, by decide, by decide⟩)) opv_sub
  intro w G3 H3 acc hw gw u3 i3 e3 r3
  intro p hp
  unfold tPairs tC tPairs tVar
  refine ⟨.ref w, rfl, ?_⟩
  have i4 : In G3 (upd H3 p (.dK [])) := i3.mut (i3.no hp)
  refine lc_new (D := dI) (xs := ns) (p := fun _ => true) (f := fun c => dI ((c.natAbs : Int).fmod 2147483629)) (B := fun z σ2 G => ∃ x, σ2 = (wipe ((start ["_law_script", "_law_wide", "_law_cell"] [.ref a]).set 1 (some (.ref w))) [2]).set 2 (some x) ∧ Rp K G x (dI z)) (ei_scr (k := 0) rfl (sql_le hs u3.g)) (fun z _ => bnd_name) (fun z _ σ2 G ⟨x, e, _⟩ => by rw [e]; exact wipe1) (fun z _ G1 σ2 l1 ⟨x, e, r⟩ => ?_) (fun z _ _ G1 σ2 l1 ⟨x, e, r⟩ => ?_) (fun z σ2 G1 G2 l2 ⟨x, e, r⟩ => ⟨x, e, r.mono l2⟩) (by omega) (Le.refl _) i4 ?_
  · exact fun G1 H1 l i Q q => q G1 H1 (Up.refl i)
  · subst e
    exact ev_op (ev_cb (ea_cons (ev_cb (ea_cons (ev_var rfl r) ea_nil) cav_abs) ea_nil) cav_int) ev_int (opv_mod (by decide))
  intro c G5 H5 acc2 hc gc u5 i5 e5 r5
  have nwp : w ≠ p := fun e => by rw [e, hp] at e3; cases e3
  have ncp : c ≠ p := fun e => by rw [e, upd_same] at hc; cases hc
  have ncw : c ≠ w := fun e => by rw [e, upd_ne nwp, e3] at hc; cases hc
  have up5 : ∀ b, b ≠ c → ∀ o, upd H3 p (.dK []) b = some o → H5 b = some o := fun b nb o e => by
    have := u5.h b o e
    simp only [if_neg nb] at this
    exact this
  have hp5 : H5 p = some (.dK []) := up5 p ncp.symm _ upd_same
  have hw5 : H5 w = some (.lst acc) := up5 w ncw.symm _ (by rw [upd_ne nwp]; exact e3)
  have hp0 : H p = none := by
    cases q : H p with
    | none => rfl
    | some o =>
      have := u3.h p o q
      simp only [if_neg nwp.symm] at this
      rw [hp] at this; cases this
  have le5 : Le H H5 := fun b o e => by
    have nw : b ≠ w := fun z => by rw [z, hw] at e; cases e
    have np : b ≠ p := fun z => by rw [z, hp0] at e; cases e
    have h3 := u3.h b o e
    simp only [if_neg nw] at h3
    have nc : b ≠ c := fun z => by rw [← z, upd_ne np, h3] at hc; cases hc
    exact up5 b nc o (by rw [upd_ne np]; exact h3)
  refine ⟨hp5, [(kq "wide", V.ref w), (kq "cells", .ref c), (kq "rest", .int 0), (kq "turn", .int 0)], rfl, by show 4 ≤ 15; decide, ?_⟩
  rw [merge4]
  have gw0 : G w = none := hin.no hw
  have gp0 : G p = none := hin.no hp0
  have hc0 : H c = none := by
    cases q : H c with
    | none => rfl
    | some o =>
      have := u3.h c o q
      simp only [if_neg ncw] at this
      rw [upd_ne ncp, this] at hc; cases hc
  have gc0 : G c = none := hin.no hc0
  have le6 : Le H (upd H5 p (.dK (dkv w c 0 0))) := fun b o e => by
    rw [upd_ne (fun z => by rw [z, hp0] at e; cases e)]; exact le5 b o e
  refine k p w (upd G c (.lst acc2)) _ (fun b o e => ?_) le6 ⟨fun b o e => ?_, by rw [upd_ne ncp.symm]; exact gp0, by rw [upd_ne ncw.symm]; exact gw0, ?_⟩
  · rw [upd_ne (fun z => by rw [z, gc0] at e; cases e)]; exact e
  · by_cases hb : b = c
    · subst hb; rw [upd_same] at e; cases e; rw [upd_ne ncp]; exact .inl e5
    · rw [upd_ne hb] at e
      exact (hin.ge le6) b o e
  · have ea := rpa_ints (ns := (ns.filter fun c => decide ((10 : Int) ^ (18 : Int).toNat ≤ (c.natAbs : Int))).map fun c => (c.natAbs : Int) - (10 : Int) ^ (18 : Int).toNat) (by rw [List.map_map]; exact r3)
    have eb := rpa_ints (ns := ns.map fun c => (c.natAbs : Int).fmod 2147483629) (by rw [List.map_map]; rw [List.filter_eq_self.mpr (fun _ _ => rfl)] at r5; exact r5)
    refine ⟨c, _, _, 0, 0, upd_same, by rw [upd_ne nwp, hw5, ea], by rw [upd_same, eb], ncw, fun x hx => ?_, by decide, by decide⟩
    obtain ⟨y, _, rfl⟩ := List.mem_map.mp hx
    have := fmod_bd (y.natAbs : Int) 2147483629 (by decide)
    omega
end Z

namespace Z
open PySem PySem.Spec PyProof.Rows L2
def sp__law_shuffled (K : PySem.W.Frag) (ca : Str → Addr) : Sp := fun vs H Q E => ∃ (α : Type) (_ : DecidableEq α) (D : α → PyData) (ok : α → Prop) (dn : Nat) (G : Hp) (m w : Addr) (n : Nat) (v : V) (xs : List α), Eqt D ok dn ∧ dn < 64 ∧ (∀ x ∈ xs, ok x) ∧ vs = [.ref m, v] ∧ DOk m w (n + xs.length) G H ∧ Rp K G v (dL D xs) ∧ xs.length ≤ 100000 ∧
  ∀ u ys G2 H2, List.Perm ys xs → UpM m w G H G2 H2 → DOk m w n G2 H2 → Rp K G2 u (dL D ys) → Q u H2
theorem rpa_app {K : PySem.W.Frag} {G : Hp} : ∀ {v1 v2 : List V} {d1 d2 : List PyData}, RpA K G v1 d1 → RpA K G v2 d2 → RpA K G (v1 ++ v2) (d1 ++ d2)
  | _, _, _, _, .nil, h => h
  | _, _, _, _, .cons h a, h2 => .cons h (rpa_app a h2)
theorem rpa_erase {K : PySem.W.Frag} {G : Hp} : ∀ {v1 : List V} {d1 : List PyData} (k : Nat), RpA K G v1 d1 → RpA K G (v1.eraseIdx k) (d1.eraseIdx k)
  | _, _, _, .nil => .nil
  | _, _, 0, .cons h a => a
  | _, _, k + 1, .cons h a => .cons h (rpa_erase k a)
theorem perm_erase {α : Type} : ∀ (l : List α) (k : Nat) (y : α), l[k]? = some y → List.Perm (y :: l.eraseIdx k) l
  | [], _, _, h => by simp at h
  | x :: l, 0, y, h => by simp at h; subst h; exact List.Perm.refl _
  | x :: l, k + 1, y, h => by
    have := perm_erase l k y (by simpa using h)
    exact (List.Perm.swap x y _).trans (this.cons x)
theorem map_erase {α β : Type} (f : α → β) : ∀ (l : List α) (k : Nat), (l.eraseIdx k).map f = (l.map f).eraseIdx k
  | [], _ => rfl
  | x :: l, 0 => rfl
  | x :: l, k + 1 => by simp [List.eraseIdx, map_erase f l k]
def t__law_shuffled (K : PySem.W.Frag) (ca : Str → Addr) (E : XK) : TS := (tSeq ((tPar 2 3 ((tCons ((tCB (rListOf K) ((tCons ((tVar 1)) (tNil))))) ((tCons ((tLst (tNil))) (tNil))))))) ((tSeq ((tWhile ((tTest (tOp (rNeD K) ((tVar 2)) ((tLst (tNil)))))) ((tDrop ((tBM K "list" rAppend ((tVar 3)) ((tCons ((tBM K "list" rPopAt ((tVar 2)) ((tCons ((tCall (sp__law_take K ca) [] E ((tCons ((tVar 0)) ((tCons ((tCB (rLenU K) ((tCons ((tVar 2)) (tNil))))) (tNil))))))) (tNil))))) (tNil))))))))) ((tRet ((tVar 3)))))))
theorem pure__law_shuffled {K : PySem.W.Frag} {ca : Str → Addr} (vs : List V) (H : Hp) (Q : VK) (E : XK) (h : sp__law_shuffled K ca vs H Q E) : vs.length = 2 ∧ t__law_shuffled K ca E { nx := fun _ H2 => Q .non H2, rt := Q } (start ["_law_draw", "_law_some", "_law_left", "_law_found"] vs) H := by
  obtain ⟨α, _, D, ok, dn, G, m, w, n, v, xs, eq, hdn, hok, rfl, d, hv, hl, k⟩ := h
  refine ⟨rfl, ?_⟩
  obtain ⟨a, vs, rfl, ha, hvs⟩ := rp_ref hv
  refine ⟨.ref a, rfl, a, vs, rfl, .inl (.inl (.inl (d.i.ex ha rfl))), fun p1 hp1 => ⟨Nat.zero_le _, fun p2 hp2 => ⟨_, _, rfl, ?_⟩⟩⟩
  have n12 : p2 ≠ p1 := fun e => by rw [e, upd_same] at hp2; cases hp2
  have hp2' : H p2 = none := by rw [upd_ne n12] at hp2; exact hp2
  have hm0 := d.hm
  have hw0 := d.hw
  have m1 : p1 ≠ m := fun e => hm0 (by rw [← e]; exact hp1)
  have m2 : p2 ≠ m := fun e => hm0 (by rw [← e]; exact hp2')
  have w1 : p1 ≠ w := fun e => hw0 (by rw [← e]; exact hp1)
  have w2 : p2 ≠ w := fun e => hw0 (by rw [← e]; exact hp2')
  have g1 : G p1 = none := d.i.no hp1
  have g2 : G p2 = none := d.i.no hp2'
  have u1 := Up.hid (o := .lst vs) d.i hp1
  have u2 := u1.trans (Up.hid (o := .lst []) u1.i hp2)
  refine ⟨fun M σ H' => ∃ (ls fs : List α) (vl vf : List V), M = ls.length ∧ σ = [some (.ref m), some (.ref a), some (.ref p1), some (.ref p2)] ∧ H' p1 = some (.lst vl) ∧ H' p2 = some (.lst vf) ∧ RpA K G vl (ls.map D) ∧ RpA K G vf (fs.map D) ∧ List.Perm (fs ++ ls) xs ∧ (∀ b, b ≠ m → b ≠ w → ∀ o, H b = some o → H' b = some o) ∧ DOk m w (n + ls.length) G H',
    ⟨_, xs, [], vs, [], rfl, rfl, by rw [upd_ne n12.symm, upd_same], upd_same, hvs, .nil, List.Perm.refl _, fun b _ _ o e => u2.h b o e, d.up u2⟩, ?_⟩
  rintro M σ H' ⟨ls, fs, vl, vf, rfl, rfl, h1, h2, r1, r2, pm, hk, dk⟩
  refine ⟨.ref p1, rfl, Nat.zero_le _, fun q hq => ?_⟩
  have nq1 : p1 ≠ q := fun e => by rw [← e, h1] at hq; cases hq
  have nq2 : p2 ≠ q := fun e => by rw [← e, h2] at hq; cases hq
  have uq := Up.hid (o := .lst []) dk.i hq
  have okl : ∀ x ∈ ls, ok x := fun x hx => hok x (pm.subset (List.mem_append.mpr (.inr hx)))
  have sh1 : SeqAt.shaped (dL D ls) = true := (eqt_L eq).shaped (by omega) okl
  have sh2 : SeqAt.shaped (dL D []) = true := (eqt_L eq).shaped (by omega) (fun _ h => by cases h)
  have df1 : dicFs (ls.map D) = true := by
    have := dicF_of_lay _ (SeqAt.canLay_of_shaped sh1)
    simpa [dL, dicF] using this
  refine ⟨dL D ls, dL D [], .lst (.inl (.inl (by rw [upd_ne nq1]; exact h1))) (r1.dp uq.i df1), .lst (.inl (.inl upd_same)) .nil, sh1, sh2, _, rfl, ?_⟩
  dsimp only
  rw [(eqt_L eq).eq]
  cases ls with
  | nil =>
    rw [if_neg (by simp)]
    obtain rfl := rpa_nil r1
    refine ⟨.ref p2, rfl, ?_⟩
    have dq := dk.up uq
    have hh2 : upd H' q (.lst []) p2 = some (.lst vf) := by rw [upd_ne nq2]; exact h2
    have lg : Le G (upd G p2 (.lst vf)) := fun b o e => by
      rw [upd_ne (fun z => by rw [z, g2] at e; cases e)]; exact e
    have ig : In (upd G p2 (.lst vf)) (upd H' q (.lst [])) := fun b o e => by
      by_cases hb : b = p2
      · subst hb; rw [upd_same] at e; cases e; exact .inl hh2
      · rw [upd_ne hb] at e; exact dq.i b o e
    refine k _ fs _ _ (by simpa using pm) ⟨lg, ig, fun b n1 n2 o e => uq.h b o (hk b n1 n2 o e), fun b o e => ?_⟩ ⟨ig, by rw [upd_ne m2.symm]; exact dq.gm, by rw [upd_ne w2.symm]; exact dq.gw, dq.d.up lg (Le.refl _)⟩ (.lst upd_same (r2.mono lg))
    by_cases hb : b = p2
    · subst hb; exact .inr hp2'
    · rw [upd_ne hb] at e; exact .inl e
  | cons x ls =>
    rw [if_pos (by simp)]
    have dq := dk.up uq
    have hh1 : upd H' q (.lst []) p1 = some (.lst vl) := by rw [upd_ne nq1]; exact h1
    have hh2 : upd H' q (.lst []) p2 = some (.lst vf) := by rw [upd_ne nq2]; exact h2
    have hvl : vl.length = ls.length + 1 := by rw [r1.len, List.length_map, List.length_cons]
    have hlx : fs.length + (ls.length + 1) = xs.length := by have := pm.length_eq; rw [List.length_append, List.length_cons] at this; exact this
    refine ⟨fun σ' H' => ∃ m', m' < (x :: ls).length ∧ ∃ (ls fs : List α) (vl vf : List V), m' = ls.length ∧ σ' = [some (.ref m), some (.ref a), some (.ref p1), some (.ref p2)] ∧ H' p1 = some (.lst vl) ∧ H' p2 = some (.lst vf) ∧ RpA K G vl (ls.map D) ∧ RpA K G vf (fs.map D) ∧ List.Perm (fs ++ ls) xs ∧ (∀ b, b ≠ m → b ≠ w → ∀ o, H b = some o → H' b = some o) ∧ DOk m w (n + ls.length) G H', fun σ' H' z => z, ?_⟩
    refine ⟨.ref p2, rfl, .inl ⟨rfl, _, .inl (.inl hh2)⟩, .ref p1, rfl, .inl ⟨rfl, _, .inl (.inl hh1)⟩, .ref m, rfl, .ref p1, rfl, .ref p1, vl.length, rfl, .inl ⟨vl, .inl (.inl hh1), rfl⟩, ?_⟩
    refine ⟨G, m, w, n + ls.length, (vl.length : Int), rfl, dq.mono (by simp; omega), by omega, by omega, fun i H3 i0 i1 u3 d3 => ?_⟩
    have h31 : H3 p1 = some (.lst vl) := u3.h _ m1 w1 _ hh1
    have h32 : H3 p2 = some (.lst vf) := u3.h _ m2 w2 _ hh2
    obtain ⟨j, rfl⟩ : ∃ j : Nat, i = (j : Int) := ⟨i.toNat, by omega⟩
    have hj : j < (x :: ls).length := by rw [List.length_cons]; omega
    obtain ⟨y, hy1, hy2⟩ := r1.get (i := j) (d := D (x :: ls)[j]) (by rw [List.getElem?_map, List.getElem?_eq_getElem hj]; rfl)
    refine ⟨p1, vl, j, j, y, rfl, rfl, h31, by omega, by omega, ?_, hy1, p2, vf, y, rfl, rfl, by rw [upd_ne n12]; exact h32, ?_, ?_⟩
    · unfold seqIndex?
      simp [hvl]
      omega
    · have : vf.length = fs.length := by rw [r2.len, List.length_map]
      have : vf.length ≤ 100000 := by omega
      exact Nat.lt_of_le_of_lt this (by decide)
    · refine ⟨ls.length, by simp, (x :: ls).eraseIdx j, fs ++ [(x :: ls)[j]], vl.eraseIdx j, vf ++ [y], by rw [List.length_eraseIdx_of_lt hj]; simp, rfl, by rw [upd_ne n12.symm, upd_same], upd_same, by rw [map_erase]; exact rpa_erase j r1, by rw [List.map_append]; exact rpa_app r2 (.cons hy2 .nil), ?_, fun b n1 n2 o e => ?_, ?_⟩
      · rw [List.append_assoc]
        exact (List.Perm.append_left fs (perm_erase _ _ _ (List.getElem?_eq_getElem hj))).trans pm
      · have e1 : b ≠ p1 := fun z => by rw [z, hp1] at e; cases e
        have e2 : b ≠ p2 := fun z => by rw [z, hp2'] at e; cases e
        rw [upd_ne e2, upd_ne e1]
        exact u3.h b n1 n2 o (uq.h b o (hk b n1 n2 o e))
      · obtain ⟨c, ws, cs, r, t, e1, e2, e3, e4, e5, e6, e7⟩ := d3.d
        have hle : ((x :: ls).eraseIdx j).length = ls.length := by rw [List.length_eraseIdx_of_lt hj]; simp
        refine ⟨(d3.i.mut g1).mut g2, d3.gm, d3.gw, c, ws, cs, r, t, by rw [upd_ne m2.symm, upd_ne m1.symm]; exact e1, by rw [upd_ne w2.symm, upd_ne w1.symm]; exact e2, e3, e4, e5, e6, by rw [hle]; exact e7⟩
end Z

namespace Z
open PySem PySem.Spec PyProof.Rows L2
/-! ### expressions that draw -/
/-- t gives a thing of D, one of P, and takes b turns -/
def EvN (K : PySem.W.Frag) (m w : Addr) (b : Nat) (t : TE) (σ : L2.St) (G : Hp) {α : Type} (D : α → PyData) (P : α → Prop) : Prop :=
  ∀ n G1 H1, Le G G1 → DOk m w (n + b) G1 H1 → ∀ Q : VK, (∀ v a G2 H2, UpM m w G1 H1 G2 H2 → DOk m w n G2 H2 → P a → Rp K G2 v (D a) → Q v H2) → t σ H1 Q
def EaN (K : PySem.W.Frag) (m w : Addr) (b : Nat) (t : TA) (σ : L2.St) (G : Hp) (P : List PyData → Prop) : Prop :=
  ∀ n G1 H1, Le G G1 → DOk m w (n + b) G1 H1 → ∀ Q : List V → Hp → Prop, (∀ vs ds G2 H2, UpM m w G1 H1 G2 H2 → DOk m w n G2 H2 → P ds → RpA K G2 vs ds → Q vs H2) → t σ H1 Q
section
variable {K : PySem.W.Frag} {ca : Str → Addr} {E : XK} {σ : L2.St} {G H : Hp} {ta tb te tx : TE} {tt : TT} {wi : TI} {D : Ends} {m w : Addr} {b b' n : Nat}
theorem en_ev {α : Type} {DD : α → PyData} {a : α} (h : Ev K te σ G (DD a)) : EvN K m w 0 te σ G DD (fun x => x = a) := fun n G1 H1 l d Q q => h G1 H1 l d.i Q fun v G2 H2 u r => q v a G2 H2 (.of u) (d.up u) rfl r
theorem EvN.imp {α : Type} {DD : α → PyData} {P P' : α → Prop} (h : EvN K m w b te σ G DD P) (f : ∀ a, P a → P' a) : EvN K m w b te σ G DD P' := fun n G1 H1 l d Q q => h n G1 H1 l d Q fun v a G2 H2 u d2 p r => q v a G2 H2 u d2 (f a p) r
theorem EvN.mono {α : Type} {DD : α → PyData} {P : α → Prop} {G' : Hp} (l : Le G G') (h : EvN K m w b te σ G DD P) : EvN K m w b te σ G' DD P := fun n G1 H1 l1 d Q q => h n G1 H1 (l.trans l1) d Q q
theorem en_take {k : Nat} {tot : Int} (hv : σ[k]? = some (some (.ref m))) (ht : Ev K te σ G (.int tot)) (h0 : 0 < tot) (h1 : tot < 1000000000) : EvN K m w 1 (tCall (sp__law_take K ca) [] E (tCons (tVar k) (tCons te tNil))) σ G dI (fun i => 0 ≤ i ∧ i < tot) := fun n G1 H1 l d Q q =>
  ⟨.ref m, hv, ht G1 H1 l d.i _ fun v G2 H2 u2 r2 => by
    rw [rp_int r2]
    refine ⟨G2, m, w, n, tot, rfl, d.up u2, h0, h1, fun v H3 a1 a2 u3 d3 => q _ v G2 H3 (UpM.trans (d.up u2) (.of u2) u3) d3 ⟨a1, a2⟩ (.int _)⟩⟩
theorem en_op {α β γ : Type} {DA : α → PyData} {DB : β → PyData} {DC : γ → PyData} {PA : α → Prop} {PB : β → Prop} {r : R2} {f : α → β → γ} (ha : EvN K m w b ta σ G DA PA) (hb : EvN K m w b' tb σ G DB PB) (hr : ∀ x y, PA x → PB y → OpV K r (DA x) (DB y) (DC (f x y))) : EvN K m w (b' + b) (tOp r ta tb) σ G DC (fun c => ∃ x y, PA x ∧ PB y ∧ c = f x y) := fun n G1 H1 l d Q q =>
  ha (n + b') G1 H1 l (by rw [Nat.add_assoc]; exact d) _ fun v x G2 H2 u2 d2 p2 r2 => hb n G2 H2 (l.trans u2.g) d2 _ fun v' y G3 H3 u3 d3 p3 r3 =>
    hr x y p2 p3 G3 H3 v v' d3.i (r2.mono u3.g) r3 Q fun z G4 H4 u4 r4 => q z _ G4 H4 (UpM.trans d3 (UpM.trans d2 u2 u3) (.of u4)) (d3.up u4) ⟨x, y, p2, p3, rfl⟩ r4
theorem ean_nil : EaN K m w 0 tNil σ G (fun ds => ds = []) := fun n G1 H1 l d Q q => q [] [] G1 H1 (.refl d.i) d rfl .nil
theorem ean_cons {α : Type} {DA : α → PyData} {PA : α → Prop} {tr : TA} {P : List PyData → Prop} (ha : EvN K m w b ta σ G DA PA) (hr : EaN K m w b' tr σ G P) : EaN K m w (b' + b) (tCons ta tr) σ G (fun ds => ∃ a r, ds = DA a :: r ∧ PA a ∧ P r) := fun n G1 H1 l d Q q =>
  ha (n + b') G1 H1 l (by rw [Nat.add_assoc]; exact d) _ fun v x G2 H2 u2 d2 p2 r2 => hr n G2 H2 (l.trans u2.g) d2 _ fun vs ds G3 H3 u3 d3 p3 r3 =>
    q (v :: vs) (DA x :: ds) G3 H3 (UpM.trans d2 u2 u3) d3 ⟨x, ds, rfl, p2, p3⟩ (.cons (r2.mono u3.g) r3)
/-- a shuffled list -/
theorem en_shuffled {α : Type} [DecidableEq α] {DD : α → PyData} {ok : α → Prop} {dn : Nat} {xs : List α} {k : Nat} (hv : σ[k]? = some (some (.ref m))) (ht : Ev K te σ G (dL DD xs)) (eq : Eqt DD ok dn) (hdn : dn < 64) (hok : ∀ x ∈ xs, ok x) (hl : xs.length ≤ 100000) :
    EvN K m w xs.length (tCall (sp__law_shuffled K ca) [] E (tCons (tVar k) (tCons te tNil))) σ G (dL DD) (fun ys => List.Perm ys xs) := fun n G1 H1 l d Q q =>
  ⟨.ref m, hv, ht G1 H1 l d.i _ fun v G2 H2 u2 r2 => by
    refine ⟨α, inferInstance, DD, ok, dn, G2, m, w, n, v, xs, eq, hdn, hok, rfl, d.up u2, r2, hl, fun v ys G3 H3 pm u3 d3 r3 => q _ ys G3 H3 (UpM.trans (d.up u2) (.of u2) u3) d3 pm r3⟩⟩
theorem en_slL {α : Type} {DD : α → PyData} {P : List α → Prop} {tl th : TO} {lo hi : Option Int} (h : EvN K m w b te σ G (dL DD) P) (hl : ∀ G1, Le G G1 → EvO tl σ G1 lo) (hh : ∀ G1, Le G G1 → EvO th σ G1 hi) : EvN K m w b (tSl (rSlL K) te tl th) σ G (dL DD) (fun ys => ∃ xs, P xs ∧ ys = cutL xs lo hi) := fun n G1 H1 l d Q q =>
  h n G1 H1 l d _ fun v xs G2 H2 u2 d2 p2 r2 => by
    have e : Ev K (fun _ H Q => Q v H) σ G2 (dL DD xs) := fun G3 H3 l3 i3 Q q => q v G3 H3 (Up.refl i3) (r2.mono l3)
    exact ev_slLT e (hl G2 (l.trans u2.g)) (hh G2 (l.trans u2.g)) G2 H2 (Le.refl _) d2.i Q fun z G3 H3 u3 r3 => q z _ G3 H3 (UpM.trans d2 u2 (.of u3)) (d2.up u3) ⟨xs, p2, rfl⟩ r3
/-! statements that draw -/
theorem sn_set {α : Type} {DD : α → PyData} {P : α → Prop} {i : Nat} (h : EvN K m w b te σ G DD P) (d : DOk m w (n + b) G H) (k : ∀ v a G2 H2, UpM m w G H G2 H2 → DOk m w n G2 H2 → P a → Rp K G2 v (DD a) → D.nx (σ.set i (some v)) H2) : tAsg te (gName i) D σ H := h n G H (Le.refl _) d _ k
theorem sn_tup3 {tr : TA} {P : List PyData → Prop} {i j l : Nat} (h : EaN K m w b tr σ G P) (d : DOk m w (n + b) G H) (hP : ∀ ds, P ds → ds.length = 3) (k : ∀ v1 v2 v3 d1 d2 d3 G2 H2, UpM m w G H G2 H2 → DOk m w n G2 H2 → P [d1, d2, d3] → Rp K G2 v1 d1 → Rp K G2 v2 d2 → Rp K G2 v3 d3 → D.nx (((σ.set i (some v1)).set j (some v2)).set l (some v3)) H2) : tAsg (tTup tr) (gTup K 3 (gCons (gName i) (gCons (gName j) (gCons (gName l) gNil)))) D σ H :=
  h n G H (Le.refl _) d _ fun vs ds G2 H2 u2 d2 p2 r2 => by
    have h3 := hP ds p2
    match ds, h3, p2, r2 with
    | [e1, e2, e3], _, p2, r2 =>
      obtain ⟨v1, ws, rfl, q1, r2⟩ := rpa_cons r2
      obtain ⟨v2, ws, rfl, q2, r2⟩ := rpa_cons r2
      obtain ⟨v3, ws, rfl, q3, r2⟩ := rpa_cons r2
      obtain rfl := rpa_nil r2
      refine ⟨by show 3 ≤ sizeLine; decide, fun p hp => ⟨p, _, rfl, .inl (.inl upd_same), rfl, _, _, rfl, _, _, rfl, _, _, rfl, rfl, ?_⟩⟩
      have u3 := Up.hid (o := .tup [v1, v2, v3]) d2.i hp
      exact k v1 v2 v3 e1 e2 e3 G2 _ (UpM.trans d2 u2 (.of u3)) (d2.up u3) p2 q1 q2 q3
theorem sn_list2 {α : Type} {DD : α → PyData} {P : List α → Prop} {i j : Nat} (h : EvN K m w b te σ G (dL DD) P) (d : DOk m w (n + b) G H) (hP : ∀ ds, P ds → ds.length = 2) (k : ∀ v1 v2 a1 a2 G2 H2, UpM m w G H G2 H2 → DOk m w n G2 H2 → P [a1, a2] → Rp K G2 v1 (DD a1) → Rp K G2 v2 (DD a2) → D.nx ((σ.set i (some v1)).set j (some v2)) H2) : tAsg te (gUnl K 2 (gCons (gName i) (gCons (gName j) gNil))) D σ H :=
  h n G H (Le.refl _) d _ fun v ds G2 H2 u2 d2 p2 r2 => by
    have h3 := hP ds p2
    match ds, h3, p2, r2 with
    | [e1, e2], _, p2, r2 =>
      obtain ⟨p, xs, rfl, h1, r2⟩ := rp_ref r2
      have r2 : RpA K G2 xs [DD e1, DD e2] := r2
      obtain ⟨v1, ws, rfl, q1, r2⟩ := rpa_cons r2
      obtain ⟨v2, ws, rfl, q2, r2⟩ := rpa_cons r2
      obtain rfl := rpa_nil r2
      exact ⟨p, _, rfl, .inl (.inl (d2.i.ex h1 rfl)), rfl, _, _, rfl, _, _, rfl, rfl, k v1 v2 e1 e2 G2 H2 u2 d2 p2 q1 q2⟩
/-- a for whose turns draw: Sl is kept of the slots -/
theorem sn_for {α : Type} {DD : α → PyData} {xs : List α} {k : Nat} {tb : TS} (Sl : L2.St → Prop) (hi : EvI K wi σ G (xs.map DD)) (d : DOk m w (n + b * xs.length) G H) (h0 : Sl σ)
    (body : ∀ z ∈ xs, ∀ σ1 G1 H1 x r, Sl σ1 → Le G G1 → DOk m w (r + b) G1 H1 → Rp K G1 x (DD z) → ∀ D2 : Ends, (∀ σ2 G2 H2, Sl σ2 → Le G1 G2 → DOk m w r G2 H2 → D2.nx σ2 H2) → tb D2 (σ1.set k (some x)) H1)
    (hn : ∀ σ2 G2 H2, Sl σ2 → Le G G2 → DOk m w n G2 H2 → D.nx σ2 H2) : tFor wi (gName k) tb D σ H := by
  refine s_for hi d.i fun G0 H0 u0 => ⟨fun i σ1 G1 H1 => Sl σ1 ∧ Le G G1 ∧ Le G0 G1 ∧ DOk m w (n + b * (xs.length - i)) G1 H1, ⟨h0, u0.g, Le.refl _, d.up u0⟩, fun i σ1 G1 H1 h => ⟨h.2.2.1, h.2.2.2.i⟩, ?_, ?_⟩
  · rintro i e x σ1 G1 H1 G2 H2 hd ⟨h1, h2, h3, h4⟩ u2 r2
    rw [List.getElem?_map] at hd
    cases hz : xs[i]? with
    | none => rw [hz] at hd; cases hd
    | some z =>
      rw [hz] at hd
      cases hd
      have hlt : i < xs.length := (List.getElem?_eq_some_iff.mp hz).1
      show tb _ (σ1.set k (some x)) H2
      refine body z (List.mem_of_getElem? hz) σ1 G2 H2 x (n + b * (xs.length - (i + 1))) h1 (h2.trans u2.g) ?_ r2 _ (fun σ2 G3 H3 s3 l3 d3 => ⟨G3, s3, h2.trans (u2.g.trans l3), h3.trans (u2.g.trans l3), d3⟩)
      have e : n + b * (xs.length - (i + 1)) + b = n + b * (xs.length - i) := by
        have : xs.length - i = (xs.length - (i + 1)) + 1 := by omega
        rw [this, Nat.mul_add, Nat.mul_one, Nat.add_assoc]
      rw [e]
      exact h4.up u2
  · rintro σ1 G1 H1 ⟨h1, h2, _, h4⟩
    rw [List.length_map, Nat.sub_self, Nat.mul_zero, Nat.add_zero] at h4
    exact hn σ1 G1 H1 h1 h2 h4
end
end Z

namespace Z
open PySem PySem.Spec PyProof.Rows L2
section
variable {K : PySem.W.Frag} {σ : L2.St} {G H : Hp} {ta tb te tk tv : TE} {tt : TT} {wi : TI} {D : Ends}
/-! ### dict displays -/
def EvPs (K : PySem.W.Frag) (trs : List (TE × TE)) (σ : L2.St) (G : Hp) (es : List (Key × PyData)) : Prop :=
  ∀ G1 H1, Le G G1 → In G1 H1 → ∀ Q : List (V × V) → Hp → Prop, (∀ kvs G2 H2, Up G1 H1 G2 H2 → RpE K G2 kvs es → Q (kvs.map fun e => (kV e.1, e.2)) H2) → tPairs trs σ H1 Q
theorem ep_nil : EvPs K [] σ G [] := fun G1 H1 l i Q q => q [] G1 H1 (Up.refl i) .nil
theorem rp_key {v : V} {k : Key} (h : Rp K G v (kD k)) : v = kV k := by
  cases k with
  | inl i => exact rp_int h
  | inr x => exact rp_str h
theorem ep_cons {k : Key} {d : PyData} {trs : List (TE × TE)} {es : List (Key × PyData)} (ha : Ev K tk σ G (kD k)) (hb : Ev K tv σ G d) (hr : EvPs K trs σ G es) : EvPs K ((tk, tv) :: trs) σ G ((k, d) :: es) := fun G1 H1 l i Q q =>
  ha G1 H1 l i _ fun x G2 H2 u2 p2 => hb G2 H2 (l.trans u2.g) u2.i _ fun y G3 H3 u3 p3 => hr G3 H3 (l.trans (u2.g.trans u3.g)) u3.i _ fun kvs G4 H4 u4 r4 => by
    rw [rp_key p2]
    exact q ((k, y) :: kvs) G4 H4 ((u2.trans u3).trans u4) (.cons (p3.mono u4.g) r4)
theorem rpe_merge : ∀ {kvs : List (Key × V)} {es : List (Key × PyData)}, RpE K G kvs es → ∀ {k0 : List (Key × V)} {e0 : List (Key × PyData)}, RpE K G k0 e0 → RpE K G (kvs.foldl (fun acc kv => putK acc kv.1 kv.2) k0) (es.foldl (fun acc e => putE acc e.1 e.2) e0)
  | _, _, .nil, _, _, h => h
  | _, _, .cons p a, _, _, h => rpe_merge a (RpE.put h p)
theorem mrgE_map {α β : Type} (f : α → β) (es : List (Key × α)) : mrgE (es.map fun e => (e.1, f e.2)) = (mrgE es).map fun e => (e.1, f e.2) := by
  have put : ∀ (a : List (Key × α)) k v, putE (a.map fun e => (e.1, f e.2)) k (f v) = (putE a k v).map fun e => (e.1, f e.2) := by
    intro a k v
    unfold putE
    rw [List.any_map]
    have e : (fun e : Key × α => decide (e.1 = k)) = ((fun e : Key × β => decide (e.1 = k)) ∘ fun e : Key × α => (e.1, f e.2)) := rfl
    rw [← e]
    cases a.any fun e => decide (e.1 = k) with
    | true =>
      simp only [if_true, List.map_map]
      refine List.map_congr_left fun x _ => ?_
      simp only [Function.comp]
      split <;> rfl
    | false => simp
  have go : ∀ (es a : List (Key × α)), (es.map fun e => (e.1, f e.2)).foldl (fun acc e => putE acc e.1 e.2) (a.map fun e => (e.1, f e.2)) = (es.foldl (fun acc e => putE acc e.1 e.2) a).map fun e => (e.1, f e.2) := by
    intro es
    induction es with
    | nil => intro a; rfl
    | cons e es ih => intro a; simp only [List.map_cons, List.foldl_cons, put, ih]
  exact go es []
theorem ev_disp {α : Type} {DE : α → PyData} {trs : List (TE × TE)} {es : List (Key × α)} (h : EvPs K trs σ G (es.map fun e => (e.1, DE e.2))) (hl : es.length ≤ 15) : Ev K (tDisp trs) σ G (dM DE (mrgE es)) := fun G1 H1 l i Q q => fun p hp => by
  have i1 : In G1 (upd H1 p (.dK [])) := i.mut (i.no hp)
  refine h G1 _ l i1 _ fun kvs G2 H2 u2 r2 => ?_
  have hp2 : H2 p = some (.dK []) := u2.h _ _ upd_same
  have gp2 : G2 p = none := u2.hide (by rw [upd_same]; intro z; cases z) (i.no hp)
  refine ⟨hp2, kvs, rfl, by rw [r2.len, List.length_map]; exact hl, ?_⟩
  have lg : Le G2 (upd G2 p (.dK (mergeK [] kvs))) := fun b o e => by
    rw [upd_ne (fun z => by rw [z, gp2] at e; cases e)]; exact e
  refine q _ (upd G2 p (.dK (mergeK [] kvs))) _ ⟨fun b o e => lg b o (u2.g b o e), fun b o e => ?_, fun b o e => ?_, fun b o e => ?_⟩ ?_
  · by_cases hb : b = p
    · subst hb; rw [upd_same] at e ⊢; exact .inl e
    · rw [upd_ne hb] at e ⊢; exact u2.i b o e
  · have nb : b ≠ p := fun z => by rw [z, hp] at e; cases e
    rw [upd_ne nb]
    exact u2.h b o (by rw [upd_ne nb]; exact e)
  · by_cases hb : b = p
    · subst hb; exact .inr hp
    · rw [upd_ne hb] at e
      rcases u2.n b o e with z | z
      · exact .inl z
      · rw [upd_ne hb] at z; exact .inr z
  · have r3 : RpE K G2 (mergeK [] kvs) (mrgE (es.map fun e => (e.1, DE e.2))) := rpe_merge r2 .nil
    rw [mrgE_map] at r3
    exact .dic upd_same (rpe_to (r3.mono lg))
/-! ### `!=` of things that are the same -/
theorem opv_neSe {a b : W} (h : a = b) : OpV K rNe (dS a) (dS b) (.bool false) := by
  subst h; have := opv_neS (K := K) (a := a) (b := a); simpa using this
theorem opv_neIe {a b : Int} (h : a = b) : OpV K rNe (dI a) (dI b) (.bool false) := by
  subst h; have := opv_neI (K := K) (i := a) (j := a); simpa using this
theorem opv_neBe {a b : Bool} (h : a = b) : OpV K rNe (dB a) (dB b) (.bool false) := by
  subst h; have := opv_neB (K := K) (i := a) (j := a); simpa using this
theorem opv_neTe {α : Type} [DecidableEq α] {DD : α → PyData} {ok : α → Prop} {n : Nat} (e : Eqt DD ok n) {a b : α} (h : a = b) (hb : ok b) (hn : n ≤ 64) : OpV K (rNeD K) (DD a) (DD b) (.bool false) := by
  subst h; have := opv_neT (K := K) e (a := a) (b := a) ⟨hb, hb, hn⟩; simpa using this
theorem opv_neMI {a b : List (Key × Int)} (h : a = b) (hv : ∀ e ∈ b, valK b e.1 = some e.2) : OpV K rNeDic (dM dI a) (dM dI b) (.bool false) := by
  subst h
  refine opv_neDic rfl fun k d hm => ?_
  obtain ⟨e, he, eq⟩ := List.mem_map.mp hm
  obtain ⟨rfl, rfl⟩ := Prod.mk.inj eq
  have := hv e he
  refine ⟨?_, rfl⟩
  unfold valK at this ⊢
  rw [List.find?_map]
  cases q : a.find? (fun x => decide (x.1 = e.1)) with
  | none => rw [q] at this; cases this
  | some x =>
    rw [q] at this
    have e2 : (fun e_1 : Key × PyData => decide (e_1.1 = e.1)) ∘ (fun e : Key × Int => (e.1, dI e.2)) = fun x => decide (x.1 = e.1) := rfl
    rw [e2, q]
    simp only [Option.map_some, Option.some.injEq] at this ⊢
    rw [this]
/-! ### the script -/
theorem ev_lenScr {k : Nat} {a : Addr} {ns : List Int} (hv : σ[k]? = some (some (.ref a))) (h : SqL K G a (ns.map .int)) : Ev K (tCB (rLenU K) (tCons (tVar k) tNil)) σ G (.int (ns.length : Int)) := fun G1 H1 l i Q q =>
  ⟨.ref a, hv, .ref a, ns.length, rfl, .inl ⟨_, sql_in (sql_le h l) i, by rw [List.length_map]⟩, q _ G1 H1 (Up.refl i) (.int _)⟩
theorem and_dec {p : Prop} {b : Bool} [Decidable p] (h : (decide p && b) = true) : p ∧ b = true := by
  rw [Bool.and_eq_true] at h
  exact ⟨of_decide_eq_true h.1, h.2⟩
end
end Z

namespace Z
open PySem PySem.Spec PyProof.Rows L2
theorem walkW {l : PySem.W.OpenLaw} {n k : Nat} {q : Program} {loose : List Str} {XP : (Str → Option Value) → Heap → Prop} {YP : World → Heap → Prop} {d : DefRec} {CX : World → CXT} {x : Str}
    (hn : l.most = some n) (hn2 : n ≤ sizeLine) (hdf : d.params.defaults = []) (hr : Room k callerA)
    (F : ∀ (w : World) (mg : Str → Option Value) (fa : Addr) (h : Heap), YP w h → h.Ns mainGlobals mg → mg d.name = some (.ref fa) →
      ∃ (K : PySem.W.Frag) (fd : FuncData) (sp : Sp), K.In h ∧ (∀ (s : Shared) (u : Value), BindsTo s fd ⟨[u], []⟩ [(x, u)]) ∧
        (∀ (H : Hp) (a : Addr) (ns : List Int), ns.length ≤ n → Only H → SqL K H a (ns.map V.int) → sp [.ref a] H (fun v _ => v = .bl true) fun _ _ _ => False) ∧
        ∀ base : Heap, K.In base → base.Ns mainGlobals mg → FnOk l.prog w K mg base (CX w) k fa fd [x] sp)
    (hX : ∀ (w : World) (H : Hp) (s : Shared) (e : Value) (s' : Shared), CX w [] H s (fun _ _ _ => False) e s' → False) :
    PySem.W.WalkO q loose XP YP l.row.toRowW d [] (fun f vs => PySem.call f vs) := by
  refine Att.attach_call hn hdf fun w t0 t1 mg mb fa o pm cd doc a vs ns G Y ho hd hcd hmg hob hin hle hgn => ?_
  obtain ⟨K, fd, sp, KX, hb, hsp, hF⟩ := F w mg fa _ Y G.T.g hmg
  exact law_call KX G.T.g G.T.b G.T.builtins G.T.nolimit hgn hob hin (Nat.le_trans hle hn2) hr hF hb (fun H hO hS => hsp H a ns hle hO hS) fun H e s' => hX w H t1 e s'
end Z

namespace Z
open PySem PySem.Spec PyProof.Rows L2
section
variable {K : PySem.W.Frag} {ca : Str → Addr} {E : XK} {σ : L2.St} {G H : Hp} {ta tb te tx : TE} {tt : TT} {wi : TI} {D : Ends} {m w : Addr} {b b' n : Nat} {Q : VK}
/-! opening a reading: what is done first -/
theorem ev_at {d : PyData} (h : Ev K te σ G d) (hi : In G H) (k : ∀ v G2 H2, Up G H G2 H2 → Rp K G2 v d → Q v H2) : te σ H Q := h G H (Le.refl _) hi Q k
theorem o_op {r : R2} (h : ta σ H fun x H1 => tb σ H1 fun y H2 => r x y H2 Q) : tOp r ta tb σ H Q := h
theorem o_call {sp : Sp} {t : TA} (h : t σ H fun vs H1 => sp vs H1 Q E) : tCall sp [] E t σ H Q := by
  show t σ H fun vs H1 => sp (vs ++ []) H1 Q E
  have e : (fun vs H1 => sp (vs ++ []) H1 Q E) = fun vs H1 => sp vs H1 Q E := by
    funext vs H1; rw [List.append_nil]
  rw [e]; exact h
theorem o_cons {t : TA} {Q' : List V → Hp → Prop} (h : ta σ H fun v H1 => t σ H1 fun vs H2 => Q' (v :: vs) H2) : tCons ta t σ H Q' := h
theorem o_nil {Q' : List V → Hp → Prop} (h : Q' [] H) : tNil σ H Q' := h
theorem o_var {k : Nat} {v : V} (hv : σ[k]? = some (some v)) (h : Q v H) : tVar k σ H Q := ⟨v, hv, h⟩
theorem o_cb {r : List V → Hp → VK → Prop} {t : TA} (h : t σ H fun vs H1 => r vs H1 Q) : tCB r t σ H Q := h
theorem o_lst {t : TA} (h : t σ H fun vs H1 => vs.length ≤ sizeLine ∧ ∀ p, H1 p = none → Q (.ref p) (upd H1 p (.lst vs))) : tLst t σ H Q := h
theorem o_tup {t : TA} (h : t σ H fun vs H1 => vs.length ≤ sizeLine ∧ ∀ p, H1 p = none → Q (.ref p) (upd H1 p (.tup vs))) : tTup t σ H Q := h
theorem o_ret (h : te σ H D.rt) : tRet te D σ H := h
theorem o_asg {g : TG} (h : te σ H fun x H1 => g x σ H1 D.nx) : tAsg te g D σ H := h
theorem o_set {k : Nat} (h : te σ H fun x H1 => D.nx (σ.set k (some x)) H1) : tAsg te (gName k) D σ H := h
theorem o_drop (h : te σ H fun _ H1 => D.nx σ H1) : tDrop te D σ H := h
theorem o_seq {a c : TS} (h : a { D with nx := fun σ H => c D σ H } σ H) : tSeq a c D σ H := h
theorem o_ifS {c : TT} {t u : TS} (h : c σ H fun b H1 => if b = true then t D σ H1 else u D σ H1) : tIfS c t u D σ H := h
theorem o_par {i j : Nat} {t : TA} (h : t σ H fun vs H1 => ∃ v v', vs = [v, v'] ∧ D.nx ((σ.set i (some v)).set j (some v')) H1) : tPar i j t D σ H := h
theorem o_test {Q' : Bool → Hp → Prop} (h : te σ H fun v H1 => ∃ b, v = .bl b ∧ Q' b H1) : tTest te σ H Q' := h
theorem o_sl {r : V → Option Int → Option Int → Hp → VK → Prop} {tl th : TO} (h : te σ H fun x H1 => tl σ H1 fun lo H2 => th σ H2 fun hi H3 => r x lo hi H3 Q) : tSl r te tl th σ H Q := h
theorem o_noPart {Q' : Option Int → Hp → Prop} (h : Q' none H) : tNoPart σ H Q' := h
theorem o_part {Q' : Option Int → Hp → Prop} (h : te σ H fun v H1 => ∃ i, v = .int i ∧ Q' (some i) H1) : tPart te σ H Q' := h
theorem o_m1 {r : V → List V → Hp → VK → Prop} (h : ta σ H fun x H1 => (∃ a, x = .str a) ∧ tb σ H1 fun y H2 => r x [y] H2 Q) : tM1 r ta tb σ H Q := h
theorem o_next (h : D.nx σ H) : tNext D σ H := h
theorem o_sSet {k : Nat} {c : TS} (h : te σ H fun x H1 => c D (σ.set k (some x)) H1) : tSeq (tAsg te (gName k)) c D σ H := h
theorem o_sAsg {g : TG} {c : TS} (h : te σ H fun x H1 => g x σ H1 fun σ2 H2 => c D σ2 H2) : tSeq (tAsg te g) c D σ H := h
theorem o_sPar {i j : Nat} {t : TA} {c : TS} (h : t σ H fun vs H1 => ∃ v v', vs = [v, v'] ∧ c D ((σ.set i (some v)).set j (some v')) H1) : tSeq (tPar i j t) c D σ H := h
theorem o_sDrop {c : TS} (h : te σ H fun _ H1 => c D σ H1) : tSeq (tDrop te) c D σ H := h
theorem o_sIf {t : TT} {a c : TS} (h : t σ H fun b H1 => if b = true then a { D with nx := fun σ H => c D σ H } σ H1 else c D σ H1) : tSeq (tIfS t a tNext) c D σ H := h
theorem o_c {v : V} (h : Q v H) : tC v σ H Q := h
/-- a list comprehension whose turns draw -/
theorem lcN {α β : Type} {DD : α → PyData} {DE : β → PyData} {xs : List α} {P : α → β → Prop} {k : Nat} (hi : EvI K wi σ G (xs.map DD))
    (body : ∀ z ∈ xs, ∀ G1 H1 x r, Le G G1 → DOk m w (r + b) G1 H1 → Rp K G1 x (DD z) → ∀ Q : VK, (∀ v a G2 H2, UpM m w G1 H1 G2 H2 → DOk m w r G2 H2 → P z a → Rp K G2 v (DE a) → Q v H2) → te (σ.set k (some x)) H1 Q)
    (hl : xs.length ≤ 100000) (d : DOk m w (n + b * xs.length) G H)
    (q : ∀ v as G2 H2, as.length = xs.length → (∀ (i : Nat) z a, xs[i]? = some z → as[i]? = some a → P z a) → UpM m w G H G2 H2 → DOk m w n G2 H2 → Rp K G2 v (dL DE as) → Q v H2) : tLc wi (gName k) tYes te [k] σ H Q := hi G H (Le.refl _) d.i _ fun J G2 H2 u2 wk => by
  intro D' hD
  have d2 := d.up u2
  have nm : D' ≠ m := fun e => d2.hm (by rw [← e]; exact hD)
  have nw : D' ≠ w := fun e => d2.hw (by rw [← e]; exact hD)
  have g2D : G2 D' = none := u2.i.no hD
  refine ⟨fun i mm H' => mm = xs.length - i ∧ i ≤ xs.length ∧ ∃ (G3 : Hp) (as : List β) (acc : List V), G3 D' = none ∧ DOk m w (n + b * (xs.length - i)) G3 H' ∧ Le G2 G3 ∧ (∀ a, a ≠ m → a ≠ w → a ≠ D' → ∀ o, H2 a = some o → H' a = some o) ∧ (∀ a o, G3 a = some o → G2 a = some o ∨ H2 a = none) ∧ H' D' = some (.lst acc) ∧ RpA K G3 acc (as.map DE) ∧ as.length = i ∧ (∀ (i : Nat) z a, xs[i]? = some z → as[i]? = some a → P z a),
    ⟨xs.length, rfl, Nat.zero_le _, G2, [], [], g2D, d2.up (Up.hid u2.i hD), Le.refl _, fun a _ _ n3 o e => by rw [upd_ne n3]; exact e, fun _ _ e => .inl e, upd_same, .nil, rfl, fun i z a _ e => by simp at e⟩, ?_⟩
  rintro j mm H' ⟨rfl, hj, G3, as, acc, g3, d3, l3, hk, hn, hacc, racc, hlen, hP⟩
  obtain ⟨wstop, wgo⟩ := wk G3 H' l3 d3.i
  by_cases hlt : j < xs.length
  · have hz : xs[j]? = some xs[j] := List.getElem?_eq_getElem hlt
    obtain ⟨go, yl⟩ := wgo j (DD xs[j]) (by rw [List.getElem?_map, hz]; rfl)
    refine .inr ⟨go, fun H' => j + 1 ≤ xs.length ∧ ∃ (G3 : Hp) (as : List β) (acc : List V), G3 D' = none ∧ DOk m w (n + b * (xs.length - (j + 1))) G3 H' ∧ Le G2 G3 ∧ (∀ a, a ≠ m → a ≠ w → a ≠ D' → ∀ o, H2 a = some o → H' a = some o) ∧ (∀ a o, G3 a = some o → G2 a = some o ∨ H2 a = none) ∧ H' D' = some (.lst acc) ∧ RpA K G3 acc (as.map DE) ∧ as.length = j + 1 ∧ (∀ (i : Nat) z a, xs[i]? = some z → as[i]? = some a → P z a), fun H' x => ⟨xs.length - (j + 1), by omega, rfl, x.1, x.2⟩, fun x H4 y => ?_⟩
    obtain ⟨G4, u4, r4⟩ := yl x H4 y
    have d4 := d3.up u4
    have hD4 : H4 D' = some (.lst acc) := u4.h _ _ hacc
    have hG4 : G4 D' = none := u4.hide (by rw [hacc]; intro z; cases z) g3
    refine ⟨wipe1, ?_⟩
    have eb : n + b * (xs.length - j) = n + b * (xs.length - (j + 1)) + b := by
      have : xs.length - j = (xs.length - (j + 1)) + 1 := by omega
      rw [this, Nat.mul_add, Nat.mul_one, Nat.add_assoc]
    show te ((wipe σ [k]).set k (some x)) H4 _
    rw [wipe1s]
    refine body _ (List.getElem_mem hlt) G4 H4 x _ (u2.g.trans (l3.trans u4.g)) (by rw [← eb]; exact d4) r4 _ fun v a G5 H5 u5 d5 p5 r5 => ?_
    have hD5 : H5 D' = some (.lst acc) := u5.h _ nm nw _ hD4
    have hG5 : G5 D' = none := by
      cases q5 : G5 D' with
      | none => rfl
      | some o =>
        rcases u5.n _ _ q5 with z | z
        · rw [hG4] at z; cases z
        · rw [hD4] at z; cases z
    have hal : acc.length = j := by rw [racc.len, List.length_map, hlen]
    refine ⟨acc, hD5, Nat.lt_of_le_of_lt (show acc.length ≤ 100000 by omega) (by decide), hlt, G5, as ++ [a], acc ++ [v], hG5, ?_, l3.trans (u4.g.trans u5.g), fun c n1 n2 n3 o e => ?_, fun c o e => ?_, upd_same, ?_, by rw [List.length_append, hlen]; rfl, ?_⟩
    · obtain ⟨c, ws, cs, r, t, e1, e2, e3, e4⟩ := d5.d
      exact ⟨d5.i.mut hG5, d5.gm, d5.gw, c, ws, cs, r, t, by rw [upd_ne nm.symm]; exact e1, by rw [upd_ne nw.symm]; exact e2, e3, e4⟩
    · rw [upd_ne n3]
      exact u5.h c n1 n2 o (u4.h c o (hk c n1 n2 n3 o e))
    · rcases u5.n c o e with z | z
      · rcases u4.n c o z with z | z
        · exact hn c o z
        · refine .inr ?_
          cases h2 : H2 c with
          | none => rfl
          | some o2 =>
            by_cases c1 : c = m
            · subst c1; exact absurd z d3.hm
            · by_cases c2 : c = w
              · subst c2; exact absurd z d3.hw
              · by_cases c3 : c = D'
                · subst c3; rw [hD] at h2; cases h2
                · rw [hk c c1 c2 c3 o2 h2] at z; cases z
      · refine .inr ?_
        cases h2 : H2 c with
        | none => rfl
        | some o2 =>
          by_cases c1 : c = m
          · subst c1; exact absurd z d4.hm
          · by_cases c2 : c = w
            · subst c2; exact absurd z d4.hw
            · by_cases c3 : c = D'
              · subst c3; rw [hD] at h2; cases h2
              · rw [u4.h c o2 (hk c c1 c2 c3 o2 h2)] at z; cases z
    · rw [List.map_append]
      exact rpa_app (racc.mono (u4.g.trans u5.g)) (.cons r5 .nil)
    · intro i z a' hz' ha'
      by_cases hij : i < as.length
      · rw [List.getElem?_append_left hij] at ha'
        exact hP i z a' hz' ha'
      · have e : i = as.length := by
          have := (List.getElem?_eq_some_iff.mp ha').1
          rw [List.length_append] at this
          simp at this
          omega
        rw [e, List.getElem?_append_right (Nat.le_refl _)] at ha'
        simp at ha'
        subst ha'
        rw [e, hlen, hz] at hz'
        cases hz'
        exact p5
  · have e : j = xs.length := by omega
    subst e
    refine .inl ⟨by simpa using wstop, ?_⟩
    rw [Nat.sub_self, Nat.mul_zero, Nat.add_zero] at d3
    have lg : Le G3 (upd G3 D' (.lst acc)) := fun c o e => by
      rw [upd_ne (fun z => by rw [z, g3] at e; cases e)]; exact e
    have ig : In (upd G3 D' (.lst acc)) H' := fun c o e => by
      by_cases hc : c = D'
      · subst hc; rw [upd_same] at e; cases e; exact .inl hacc
      · rw [upd_ne hc] at e; exact d3.i c o e
    refine q _ as _ H' hlen hP ⟨u2.g.trans (l3.trans lg), ig, fun c n1 n2 o e => ?_, fun c o e => ?_⟩ ⟨ig, by rw [upd_ne nm.symm]; exact d3.gm, by rw [upd_ne nw.symm]; exact d3.gw, d3.d.up lg (Le.refl _)⟩ (.lst upd_same (racc.mono lg))
    · have h2 := u2.h c o e
      exact hk c n1 n2 (fun z => by rw [z, hD] at h2; cases h2) o h2
    · by_cases hc : c = D'
      · subst hc; exact .inr (u2.h.no hD)
      · rw [upd_ne hc] at e
        rcases hn c o e with z | z
        · exact u2.n c o z
        · exact .inr (u2.h.no z)
end
section
variable {K : PySem.W.Frag} {σ : L2.St} {G H : Hp} {wi : TI} {D : Ends} {m w : Addr} {b n : Nat}
/-- a for whose turns draw: Sl is kept of the slots, turn by turn -/
theorem sn_forI {α : Type} {DD : α → PyData} {xs : List α} {k : Nat} {tb : TS} (Sl : Nat → L2.St → Prop) (hi : EvI K wi σ G (xs.map DD)) (d : DOk m w (n + b * xs.length) G H) (h0 : Sl 0 σ)
    (body : ∀ (i : Nat) z, xs[i]? = some z → ∀ σ1 G1 H1 x r, Sl i σ1 → Le G G1 → DOk m w (r + b) G1 H1 → Rp K G1 x (DD z) → ∀ D2 : Ends, (∀ σ2 G2 H2, Sl (i + 1) σ2 → UpM m w G1 H1 G2 H2 → DOk m w r G2 H2 → D2.nx σ2 H2) → tb D2 (σ1.set k (some x)) H1)
    (hn : ∀ σ2 G2 H2, Sl xs.length σ2 → UpM m w G H G2 H2 → DOk m w n G2 H2 → D.nx σ2 H2) : tFor wi (gName k) tb D σ H := by
  refine s_for hi d.i fun G0 H0 u0 => ⟨fun i σ1 G1 H1 => Sl i σ1 ∧ UpM m w G H G1 H1 ∧ Le G0 G1 ∧ DOk m w (n + b * (xs.length - i)) G1 H1, ⟨h0, .of u0, Le.refl _, d.up u0⟩, fun i σ1 G1 H1 h => ⟨h.2.2.1, h.2.2.2.i⟩, ?_, ?_⟩
  · rintro i e x σ1 G1 H1 G2 H2 hd ⟨h1, h2, h3, h4⟩ u2 r2
    rw [List.getElem?_map] at hd
    cases hz : xs[i]? with
    | none => rw [hz] at hd; cases hd
    | some z =>
      rw [hz] at hd
      cases hd
      have hlt : i < xs.length := (List.getElem?_eq_some_iff.mp hz).1
      have e : n + b * (xs.length - (i + 1)) + b = n + b * (xs.length - i) := by
        have : xs.length - i = (xs.length - (i + 1)) + 1 := by omega
        rw [this, Nat.mul_add, Nat.mul_one, Nat.add_assoc]
      show tb _ (σ1.set k (some x)) H2
      have d2 := h4.up u2
      refine body i z hz σ1 G2 H2 x (n + b * (xs.length - (i + 1))) h1 (h2.g.trans u2.g) (by rw [e]; exact d2) r2 _ (fun σ2 G3 H3 s3 u3 d3 => ⟨G3, s3, UpM.trans d2 (UpM.trans h4 h2 (.of u2)) u3, h3.trans (u2.g.trans u3.g), d3⟩)
  · rintro σ1 G1 H1 ⟨h1, h2, _, h4⟩
    rw [List.length_map] at h1
    rw [List.length_map, Nat.sub_self, Nat.mul_zero, Nat.add_zero] at h4
    exact hn σ1 G1 H1 h1 h2 h4
end
/-! ### one of them -/
def itemsD : PyData → List PyData
  | .list ds => ds
  | .str x => x.cps.toList.map fun c => .str (S [c])
  | _ => []
def sp__law_pick (K : PySem.W.Frag) (ca : Str → Addr) : Sp := fun vs H Q E => ∃ (G : Hp) (m w : Addr) (n : Nat) (v : V) (d : PyData), vs = [.ref m, v] ∧ DOk m w (n + 1) G H ∧ Rp K G v d ∧ itemsD d ≠ [] ∧ (itemsD d).length ≤ 100000 ∧
  ∀ u e G2 H2, e ∈ itemsD d → UpM m w G H G2 H2 → DOk m w n G2 H2 → Rp K G2 u e → Q u H2
def t__law_pick (K : PySem.W.Frag) (ca : Str → Addr) (E : XK) : TS := (tRet ((tOp (rIx K) ((tVar 1)) ((tCall (sp__law_take K ca) [] E ((tCons ((tVar 0)) ((tCons ((tCB (rLenU K) ((tCons ((tVar 1)) (tNil))))) (tNil))))))))))
theorem pure__law_pick {K : PySem.W.Frag} {ca : Str → Addr} (vs : List V) (H : Hp) (Q : VK) (E : XK) (h : sp__law_pick K ca vs H Q E) : vs.length = 2 ∧ t__law_pick K ca E { nx := fun _ H2 => Q .non H2, rt := Q } (start ["_law_draw", "_law_some"] vs) H := by
  obtain ⟨G, m, w, n, v, d, rfl, dk, rv, hne, hl, k⟩ := h
  refine ⟨rfl, ?_⟩
  have hp : 0 < (itemsD d).length := List.length_pos_iff.mpr hne
  have hlen : LenV K v H (itemsD d).length := by
    cases d with
    | list ds =>
      obtain ⟨p, xs, rfl, h1, h2⟩ := rp_ref rv
      exact .inl ⟨xs, .inl (.inl (dk.i.ex h1 rfl)), h2.len.symm⟩
    | str x =>
      rw [rp_str rv]
      refine ⟨Nat.le_trans ?_ (show 100000 ≤ sizeLine by decide), ?_⟩
      · have e : (itemsD (.str x)).length = x.length := by show (x.cps.toList.map _).length = x.cps.size; simp
        omega
      · show (x.cps.toList.map _).length = x.cps.size
        simp
    | _ => exact absurd rfl hne
  refine ⟨v, rfl, .ref m, rfl, v, rfl, v, _, rfl, hlen, G, m, w, n, ((itemsD d).length : Int), rfl, dk, by omega, by omega, fun i H2 i0 i1 u2 d2 => ?_⟩
  obtain ⟨j, rfl⟩ : ∃ j : Nat, i = (j : Int) := ⟨i.toNat, by omega⟩
  have hj : j < (itemsD d).length := by omega
  have fin : OpV K (rIx K) d (.int (j : Int)) (itemsD d)[j] := by
    cases d with
    | list ds =>
      refine opv_ixL ?_
      have hj' : j < ds.length := hj
      unfold atI ixN
      rw [if_pos (by omega), if_pos (by omega)]
      simp [itemsD, hj']
    | str x =>
      have hj' : j < x.cps.toList.length := by simpa [itemsD] using hj
      have e : (itemsD (.str x))[j] = .str (S [x.cps.toList[j]]) := by simp [itemsD]
      rw [e]
      have ex : x = S x.cps.toList := (S_eta x).symm
      have hz : x.cps.toList.length ≤ 10000000 := by
        have : x.cps.toList.length ≤ 100000 := by simpa [itemsD] using hl
        omega
      have := opv_ixS (K := K) (l := x.cps.toList) (i := (j : Int)) (c := x.cps.toList[j]) hz (by
        unfold atI ixN
        rw [if_pos (by omega), if_pos (by omega)]
        simp)
      rw [← ex] at this
      exact this
    | _ => exact absurd rfl hne
  exact fin G H2 v (.int j) d2.i rv (.int _) Q fun u G3 H3 u3 r3 => k u _ G3 H3 (List.getElem_mem hj) (UpM.trans d2 u2 (.of u3)) (d2.up u3) r3
section
variable {K : PySem.W.Frag} {ca : Str → Addr} {E : XK} {G H : Hp} {m w : Addr} {n : Nat} {v : V} {Q : VK}
theorem spv_pick {α : Type} {DD : α → PyData} {xs : List α} (d : DOk m w (n + 1) G H) (r : Rp K G v (dL DD xs)) (h : xs ≠ []) (hl : xs.length ≤ 100000) (k : ∀ u a G2 H2, a ∈ xs → UpM m w G H G2 H2 → DOk m w n G2 H2 → Rp K G2 u (DD a) → Q u H2) : sp__law_pick K ca [.ref m, v] H Q E :=
  ⟨G, m, w, n, v, _, rfl, d, r, by simpa [itemsD, dL] using h, by simpa [itemsD, dL] using hl, fun u e G2 H2 he u2 d2 r2 => by
    obtain ⟨a, ha, rfl⟩ := List.mem_map.mp (show e ∈ xs.map DD from he)
    exact k u a G2 H2 ha u2 d2 r2⟩
theorem spv_pickS {l : W} (d : DOk m w (n + 1) G H) (r : Rp K G v (dS l)) (h : l ≠ []) (hl : l.length ≤ 100000) (k : ∀ u a G2 H2, a ∈ l → UpM m w G H G2 H2 → DOk m w n G2 H2 → Rp K G2 u (dC a) → Q u H2) : sp__law_pick K ca [.ref m, v] H Q E :=
  ⟨G, m, w, n, v, _, rfl, d, r, by simpa [itemsD, dS, S_cps] using h, by simpa [itemsD, dS, S_cps] using hl, fun u e G2 H2 he u2 d2 r2 => by
    have he : e ∈ (S l).cps.toList.map fun c => PyData.str (S [c]) := he
    rw [S_cps] at he
    obtain ⟨a, ha, rfl⟩ := List.mem_map.mp he
    exact k u a G2 H2 ha u2 d2 r2⟩
end
/-! ### signs, letters, a text -/
def signs : List W := [[97], [97, 99], [97, 103], [99, 116], [97, 97, 99], [97, 99, 103], [97, 99, 103, 116], [97, 99, 103, 116], [103, 116], [97, 97, 97, 99, 116]]
def sp__law_signs (K : PySem.W.Frag) (ca : Str → Addr) : Sp := fun vs H Q E => ∃ (G : Hp) (m w : Addr) (n : Nat), vs = [.ref m] ∧ DOk m w (n + 1) G H ∧ ∀ l G2 H2, l ∈ signs → UpM m w G H G2 H2 → DOk m w n G2 H2 → Q (.str (S l)) H2
def t__law_signs (K : PySem.W.Frag) (ca : Str → Addr) (E : XK) : TS := (tRet ((tCall (sp__law_pick K ca) [] E ((tCons ((tVar 0)) ((tCons ((tLst ((tCons (tC (.str "a")) ((tCons (tC (.str "ac")) ((tCons (tC (.str "ag")) ((tCons (tC (.str "ct")) ((tCons (tC (.str "aac")) ((tCons (tC (.str "acg")) ((tCons (tC (.str "acgt")) ((tCons (tC (.str "acgt")) ((tCons (tC (.str "gt")) ((tCons (tC (.str "aaact")) (tNil))))))))))))))))))))))) (tNil))))))))
theorem pure__law_signs {K : PySem.W.Frag} {ca : Str → Addr} (vs : List V) (H : Hp) (Q : VK) (E : XK) (h : sp__law_signs K ca vs H Q E) : vs.length = 1 ∧ t__law_signs K ca E { nx := fun _ H2 => Q .non H2, rt := Q } (start ["_law_draw"] vs) H := by
  obtain ⟨G, m, w, n, rfl, dk, k⟩ := h
  refine ⟨rfl, ?_⟩
  have e : Ev K (tLst (tCons (tC (.str "a")) (tCons (tC (.str "ac")) (tCons (tC (.str "ag")) (tCons (tC (.str "ct")) (tCons (tC (.str "aac")) (tCons (tC (.str "acg")) (tCons (tC (.str "acgt")) (tCons (tC (.str "acgt")) (tCons (tC (.str "gt")) (tCons (tC (.str "aaact")) tNil))))))))))) (start ["_law_draw"] [.ref m]) G (dL dS signs) :=
    ev_lst (ea_cons (ev_lit (by decide +kernel)) (ea_cons (ev_lit (by decide +kernel)) (ea_cons (ev_lit (by decide +kernel)) (ea_cons (ev_lit (by decide +kernel)) (ea_cons (ev_lit (by decide +kernel)) (ea_cons (ev_lit (by decide +kernel)) (ea_cons (ev_lit (by decide +kernel)) (ea_cons (ev_lit (by decide +kernel)) (ea_cons (ev_lit (by decide +kernel)) (ea_cons (ev_lit (by decide +kernel)) ea_nil)))))))))) (by decide)
  refine ⟨.ref m, rfl, e.at dk.i fun v G2 H2 u2 r2 => ?_⟩
  show sp__law_pick K ca [.ref m, v] H2 Q E
  refine spv_pick (dk.up u2) r2 (by decide) (by decide) fun u a G3 H3 ha u3 d3 r3 => ?_
  rw [rp_str r3]
  exact k a G3 H3 ha (UpM.trans (dk.up u2) (.of u2) u3) d3
def sp__law_letters (K : PySem.W.Frag) (ca : Str → Addr) : Sp := fun vs H Q E => ∃ (G : Hp) (m w : Addr) (n : Nat) (l : W) (many : Int), vs = [.ref m, .str (S l), .int many] ∧ DOk m w (n + many.toNat) G H ∧ l ≠ [] ∧ l.length ≤ 1000 ∧ -1000 ≤ many ∧ many ≤ 1000 ∧
  ∀ t G2 H2, t.length = many.toNat → (∀ c ∈ t, c ∈ l) → UpM m w G H G2 H2 → DOk m w n G2 H2 → Q (.str (S t)) H2
def t__law_letters (K : PySem.W.Frag) (ca : Str → Addr) (E : XK) : TS := (tRet ((tM1 (rJoin K) (tC (.str "")) ((tLc ((iRng1 ((tCons ((tVar 2)) (tNil))))) ((gName 3)) (tYes) ((tCall (sp__law_pick K ca) [] E0 ((tCons ((tVar 0)) ((tCons ((tVar 1)) (tNil))))))) [3])))))
theorem pure__law_letters {K : PySem.W.Frag} {ca : Str → Addr} (vs : List V) (H : Hp) (Q : VK) (E : XK) (h : sp__law_letters K ca vs H Q E) : vs.length = 3 ∧ t__law_letters K ca E { nx := fun _ H2 => Q .non H2, rt := Q } (start ["_law_draw", "_law_signs_here", "_law_many", "_law_lap"] vs) H := by
  obtain ⟨G, m, w, n, l, many, rfl, dk, hne, hl, hm0, hm, k⟩ := h
  refine ⟨rfl, ?_⟩
  have hlr : (rng 0 many.toNat).length = many.toNat := rng_len _ _
  unfold t__law_letters
  refine o_ret (o_m1 (o_c ⟨⟨_, rfl⟩, ?_⟩))
  refine lcN (K := K) (σ := start ["_law_draw", "_law_signs_here", "_law_many", "_law_lap"] [.ref m, .str (S l), .int many]) (m := m) (w := w) (b := 1) (n := n) (DD := dI) (DE := dC) (xs := rng 0 many.toNat) (P := fun _ c => c ∈ l) (ei_rng1 (ea_cons (ev_var (i := 2) rfl (.int many)) ea_nil) (by omega) (by omega)) (fun z hz G1 H1 x r l1 d1 rx Q q => ?_) (by omega) (by rw [hlr, Nat.one_mul]; exact dk) fun v as G2 H2 hal hP u2 d2 r2 => ?_
  · refine o_call (o_cons (o_var (k := 0) rfl (o_cons (o_var (k := 1) rfl (o_nil ?_)))))
    exact spv_pickS d1 (.str _) hne (by omega) fun u a G2 H2 ha u2 d2 r2 => q u a G2 H2 u2 d2 ha r2
  · have e : Ev K (fun _ H Q => Q v H) [] G2 (dL dC as) := fun G3 H3 l3 i3 Q q => q v G3 H3 (Up.refl i3) (r2.mono l3)
    have hlen : as.length ≤ 1000 := by omega
    have ej := ev_joinC (K := K) (σ := []) (G := G2) (ta := tC (.str "")) (te := fun _ H Q => Q v H) (l := as) (ev_lit (by decide +kernel)) e (by omega)
    refine (ej G2 H2 (Le.refl _) d2.i Q fun u G3 H3 u3 r3 => ?_).2
    rw [rp_str r3]
    refine k as G3 H3 (by omega) (fun c hc => ?_) (UpM.trans d2 u2 (.of u3)) (d2.up u3)
    obtain ⟨i, hi, rfl⟩ := List.getElem_of_mem hc
    have hi' : i < (rng 0 many.toNat).length := by omega
    exact hP i _ _ (List.getElem?_eq_getElem hi') (List.getElem?_eq_getElem hi)
end Z

namespace Z
open PySem PySem.Spec PyProof.Rows L2
def Rse (G H : Hp) (E : XK) (C : Addr) : Prop := ∀ G2 H2, Up G H G2 H2 → E (.ref C) none H2
def tyD : PyData → String
  | .none => "NoneType"
  | .bool _ => "bool"
  | .int _ => "int"
  | .str _ => "str"
  | .list _ => "list"
  | .tuple _ => "tuple"
  | .dict _ => "dict"
section
variable {K : PySem.W.Frag} {σ : L2.St} {G H : Hp} {te ta tb : TE}
theorem ty_of {x : V} {d : PyData} (hi : In G H) (p : Rp K G x d) : TyX K H x (.type (tyD d)) := by
  cases p with
  | non => exact .base .non
  | bl b => exact .base (.bl b)
  | int i => exact .base (.int i)
  | str s => exact .base (.str s)
  | lst h _ => exact .base (.lst (hi.ex h rfl))
  | tup h _ =>
    rcases h with q | q
    · rcases q with q | ⟨o, q⟩
      · exact .base (.tup (hi.ex q rfl))
      · exact .fTuple (hi.ex q rfl)
    · obtain ⟨o, its, n, h1, h2, _⟩ := q
      exact .kTuple h1 h2
  | dic h _ =>
    rcases hi _ _ h with q | ⟨_, o, q⟩
    · exact .base (.dK q)
    · exact .fDict q
theorem ev_isi {d : PyData} {c : String} {b : Bool} (h : Ev K te σ G d) (hk : kitB (tyD d) c = some b) : Ev K (tCB (rIsi K) (tCons te (tCons (tC (.ty c)) tNil))) σ G (.bool b) := fun G1 H1 l i Q q =>
  h G1 H1 l i _ fun v G2 H2 u2 p2 => ⟨v, .ty c, .type (tyD d), .type c, b, rfl, by constructor, ty_of u2.i p2, kit_ty hk, q _ G2 H2 u2 (.bl _)⟩
def isiB (d : PyData) (c : String) : Bool := (kitB (tyD d) c).getD false
theorem ev_isiB {d : PyData} {c : String} (h : Ev K te σ G d) (hk : (kitB (tyD d) c).isSome = true) : Ev K (tCB (rIsi K) (tCons te (tCons (tC (.ty c)) tNil))) σ G (.bool (isiB d c)) := by
  obtain ⟨b, hb⟩ := Option.isSome_iff_exists.mp hk
  unfold isiB
  rw [hb]
  exact ev_isi h hb
theorem kitB_some (d : PyData) {c : String} (hc : c = "int" ∨ c = "str" ∨ c = "bool" ∨ c = "list" ∨ c = "tuple" ∨ c = "dict") : (kitB (tyD d) c).isSome = true := by
  rcases hc with rfl | rfl | rfl | rfl | rfl | rfl <;> cases d <;> simp only [tyD] <;> decide +kernel
end
/-! ### words.py -/
def acgt : W := [97, 99, 103, 116]
def m_is_integer : PyData → Bool
  | .int _ => true
  | _ => false
def m_is_between (d : PyData) (lo hi : Int) : Bool := match d with
  | .int i => decide (lo ≤ i) && decide (i ≤ hi)
  | _ => false
def lineB (l : W) : Bool := l.all fun c => decide (c ∈ acgt)
def m_is_line : PyData → Bool
  | .str s => lineB s.cps.toList
  | _ => false
def wordB (l : W) : Bool := lineB l && decide (0 < l.length)
def m_is_word : PyData → Bool
  | .str s => wordB s.cps.toList
  | _ => false
/-- texts are not too long -/
def okD : PyData → Prop
  | .str s => s.cps.toList.length ≤ 100000
  | _ => True
def sp_is_integer (K : PySem.W.Frag) (ca : Str → Addr) : Sp := fun vs H Q E => ∃ (G : Hp) (d : PyData), In G H ∧ RpA K G vs [d] ∧ Ret K G H Q (.bool (m_is_integer d))
def sp_is_between (K : PySem.W.Frag) (ca : Str → Addr) : Sp := fun vs H Q E => ∃ (G : Hp) (d : PyData) (lo hi : Int), In G H ∧ RpA K G vs [d, .int lo, .int hi] ∧ Ret K G H Q (.bool (m_is_between d lo hi))
def sp_is_line (K : PySem.W.Frag) (ca : Str → Addr) : Sp := fun vs H Q E => ∃ (G : Hp) (d : PyData), In G H ∧ RpA K G vs [d] ∧ okD d ∧ Ret K G H Q (.bool (m_is_line d))
def sp_is_word (K : PySem.W.Frag) (ca : Str → Addr) : Sp := fun vs H Q E => ∃ (G : Hp) (d : PyData), In G H ∧ RpA K G vs [d] ∧ okD d ∧ Ret K G H Q (.bool (m_is_word d))
def sp_need_word (K : PySem.W.Frag) (ca : Str → Addr) : Sp := fun vs H Q E => ∃ (G : Hp) (d : PyData), In G H ∧ RpA K G vs [d] ∧ okD d ∧ (m_is_word d = true → Ret K G H Q .none) ∧ (m_is_word d = false → Rse G H E (ca "BadWord"))
def sp_need_length (K : PySem.W.Frag) (ca : Str → Addr) : Sp := fun vs H Q E => ∃ (G : Hp) (d : PyData), In G H ∧ RpA K G vs [d] ∧ (m_is_between d 1 120 = true → Ret K G H Q .none) ∧ (m_is_between d 1 120 = false → Rse G H E (ca "BadLength"))
section
variable {K : PySem.W.Frag} {ca : Str → Addr} {E : XK}
theorem c_is_integer (d : PyData) : SpV K (sp_is_integer K ca) E [d] (.bool (m_is_integer d)) := fun G H vs hi pv Q q => ⟨G, d, hi, pv, q⟩
theorem c_is_between (d : PyData) (lo hi : Int) : SpV K (sp_is_between K ca) E [d, .int lo, .int hi] (.bool (m_is_between d lo hi)) := fun G H vs i pv Q q => ⟨G, d, lo, hi, i, pv, q⟩
theorem c_is_line (d : PyData) (h : okD d) : SpV K (sp_is_line K ca) E [d] (.bool (m_is_line d)) := fun G H vs hi pv Q q => ⟨G, d, hi, pv, h, q⟩
theorem c_is_word (d : PyData) (h : okD d) : SpV K (sp_is_word K ca) E [d] (.bool (m_is_word d)) := fun G H vs hi pv Q q => ⟨G, d, hi, pv, h, q⟩
theorem c_need_word' (d : PyData) (h : okD d) (hw : m_is_word d = true) : SpV K (sp_need_word K ca) E [d] .none := fun G H vs hi pv Q q => ⟨G, d, hi, pv, h, fun _ => q, fun e => by rw [hw] at e; cases e⟩
theorem c_need_length' (d : PyData) (hw : m_is_between d 1 120 = true) : SpV K (sp_need_length K ca) E [d] .none := fun G H vs hi pv Q q => ⟨G, d, hi, pv, fun _ => q, fun e => by rw [hw] at e; cases e⟩
end
def t_is_integer (K : PySem.W.Frag) (ca : Str → Addr) (E : XK) : TS := (tRet ((tAndV ((tCB (rIsi K) ((tCons ((tVar 0)) ((tCons (tC (.ty "int")) (tNil))))))) ((tNotV ((tCB (rIsi K) ((tCons ((tVar 0)) ((tCons (tC (.ty "bool")) (tNil))))))))))))
def t_is_between (K : PySem.W.Frag) (ca : Str → Addr) (E : XK) : TS := (tRet ((tAndV ((tCall (sp_is_integer K ca) [] E ((tCons ((tVar 0)) (tNil))))) ((tChain (rI0 fun i j => .bl (decide (i ≤ j))) (rI0 fun i j => .bl (decide (i ≤ j))) ((tVar 1)) ((tVar 0)) ((tVar 2)))))))
def t_is_line (K : PySem.W.Frag) (ca : Str → Addr) (E : XK) : TS := (tRet ((tAndV ((tCB (rIsi K) ((tCons ((tVar 0)) ((tCons (tC (.ty "str")) (tNil))))))) ((tCB (rAll K) ((tCons ((tLc ((iStr ((tVar 0)))) ((gName 1)) (tYes) ((tOp (rInC) ((tVar 1)) (tC (.str "acgt")))) [1])) (tNil))))))))
def t_is_word (K : PySem.W.Frag) (ca : Str → Addr) (E : XK) : TS := (tRet ((tAndV ((tCall (sp_is_line K ca) [] E ((tCons ((tVar 0)) (tNil))))) ((tOp (rI0 fun i j => .bl (decide (j < i))) ((tCB (rLenU K) ((tCons ((tVar 0)) (tNil))))) (tC (.int 0)))))))
def t_need_word (K : PySem.W.Frag) (ca : Str → Addr) (E : XK) : TS := (tIfS ((tNot ((tB ((tCall (sp_is_word K ca) [] E ((tCons ((tVar 0)) (tNil))))))))) ((tRaise (fun cls d _ H => E cls d H) (fun _ H Q => Q (.ref (ca "BadWord")) none H))) (tNext))
def t_need_length (K : PySem.W.Frag) (ca : Str → Addr) (E : XK) : TS := (tIfS ((tNot ((tB ((tCall (sp_is_between K ca) [] E ((tCons ((tVar 0)) ((tCons (tC (.int 1)) ((tCons (tC (.int 120)) (tNil))))))))))))) ((tRaise (fun cls d _ H => E cls d H) (fun _ H Q => Q (.ref (ca "BadLength")) none H))) (tNext))
section
variable {K : PySem.W.Frag} {ca : Str → Addr}
theorem pure_is_integer (vs : List V) (H : Hp) (Q : VK) (E : XK) (h : sp_is_integer K ca vs H Q E) : vs.length = 1 ∧ t_is_integer K ca E { nx := fun _ H2 => Q .non H2, rt := Q } (start ["value"] vs) H := by
  obtain ⟨G, d, hin, pv, k⟩ := h
  obtain ⟨v, ws, rfl, h0, pv⟩ := rpa_cons pv
  obtain rfl := rpa_nil pv
  refine ⟨rfl, ?_⟩
  have e : m_is_integer d = (isiB d "int" && !isiB d "bool") := by cases d <;> simp only [m_is_integer, isiB, tyD] <;> decide +kernel
  rw [e] at k
  exact s_ret (ev_andB (ev_isiB (ev_var rfl h0) (kitB_some d (by simp))) (fun _ => ev_notB (ev_isiB (ev_var rfl h0) (kitB_some d (by simp))))) hin k
theorem pure_is_between (vs : List V) (H : Hp) (Q : VK) (E : XK) (h : sp_is_between K ca vs H Q E) : vs.length = 3 ∧ t_is_between K ca E { nx := fun _ H2 => Q .non H2, rt := Q } (start ["value", "least", "most"] vs) H := by
  obtain ⟨G, d, lo, hi, hin, pv, k⟩ := h
  obtain ⟨v, ws, rfl, h0, pv⟩ := rpa_cons pv
  obtain ⟨v1, ws, rfl, h1, pv⟩ := rpa_cons pv
  obtain ⟨v2, ws, rfl, h2, pv⟩ := rpa_cons pv
  obtain rfl := rpa_nil pv
  refine ⟨rfl, ?_⟩
  refine s_ret (ev_and (ev_call (ea_cons (ev_var rfl h0) ea_nil) (c_is_integer d)) (b := .bool (m_is_between d lo hi)) (fun e => ?_) (fun e => ?_)) hin k
  · cases d with
    | int i => exact ev_chain (ev_var rfl h1) (ev_var rfl h0) (fun _ => ev_var rfl h2) opv_le (fun _ => opv_le)
    | _ => cases e
  · cases d with
    | int i => cases e
    | _ => rfl
theorem pure_is_line (vs : List V) (H : Hp) (Q : VK) (E : XK) (h : sp_is_line K ca vs H Q E) : vs.length = 1 ∧ t_is_line K ca E { nx := fun _ H2 => Q .non H2, rt := Q } (start ["value", "sign"] vs) H := by
  obtain ⟨G, d, hin, pv, hd, k⟩ := h
  obtain ⟨v, ws, rfl, h0, pv⟩ := rpa_cons pv
  obtain rfl := rpa_nil pv
  refine ⟨rfl, ?_⟩
  refine s_ret (ev_and (ev_isiB (ev_var rfl h0) (kitB_some d (by simp))) (b := .bool (m_is_line d)) (fun e => ?_) (fun e => ?_)) hin k
  · cases d with
    | str s =>
      have hs : s.cps.toList.length ≤ 100000 := hd
      have h0' : Rp K G v (dS s.cps.toList) := by rw [dS, S_eta]; exact h0
      have := ev_cb (ea_cons (ev_lcM (k := 1) (DE := dB) (M := fun c => decide (c ∈ acgt)) (ei_str (ev_var (i := 0) (σ := start ["value", "sign"] [v]) rfl h0')) (fun c _ G1 x l hx => ev_op (ev_var (i := 1) rfl hx) (ev_lit (l := acgt) (z := "acgt") (by decide +kernel)) opv_inC) hs) ea_nil) cav_all
      have e2 : List.all (List.map (fun c => decide (c ∈ acgt)) s.cps.toList) id = m_is_line (.str s) := by
        show _ = lineB s.cps.toList
        unfold lineB
        rw [List.all_map]
        rfl
      rw [e2] at this
      exact this
    | _ => exact absurd e (by simp only [isiB, tyD]; decide +kernel)
  · cases d with
    | str s => exact absurd e (by simp only [isiB, tyD]; decide +kernel)
    | _ => rfl
theorem pure_is_word (vs : List V) (H : Hp) (Q : VK) (E : XK) (h : sp_is_word K ca vs H Q E) : vs.length = 1 ∧ t_is_word K ca E { nx := fun _ H2 => Q .non H2, rt := Q } (start ["value"] vs) H := by
  obtain ⟨G, d, hin, pv, hd, k⟩ := h
  obtain ⟨v, ws, rfl, h0, pv⟩ := rpa_cons pv
  obtain rfl := rpa_nil pv
  refine ⟨rfl, ?_⟩
  refine s_ret (ev_and (ev_call (ea_cons (ev_var rfl h0) ea_nil) (c_is_line d hd)) (b := .bool (m_is_word d)) (fun e => ?_) (fun e => ?_)) hin k
  · cases d with
    | str s =>
      have hs : s.cps.toList.length ≤ 100000 := hd
      have h0' : Rp K G v (dS s.cps.toList) := by rw [dS, S_eta]; exact h0
      have := ev_op (ev_cb (ea_cons (ev_var (i := 0) (σ := start ["value"] [v]) rfl h0') ea_nil) (cav_lenS (by omega))) (ev_int (i := 0)) opv_gt
      have e2 : decide ((0 : Int) < (s.cps.toList.length : Int)) = m_is_word (.str s) := by
        show _ = wordB s.cps.toList
        unfold wordB
        have e' : lineB s.cps.toList = true := e
        rw [e', Bool.true_and]
        simp only [decide_eq_decide]
        omega
      rw [e2] at this
      exact this
    | _ => cases e
  · cases d with
    | str s =>
      have e' : lineB s.cps.toList = false := e
      show PyData.bool (wordB s.cps.toList) = _
      unfold wordB
      rw [e', Bool.false_and]
    | _ => rfl
theorem pure_need_word (vs : List V) (H : Hp) (Q : VK) (E : XK) (h : sp_need_word K ca vs H Q E) : vs.length = 1 ∧ t_need_word K ca E { nx := fun _ H2 => Q .non H2, rt := Q } (start ["word"] vs) H := by
  obtain ⟨G, d, hin, pv, hd, k1, k2⟩ := h
  obtain ⟨v, ws, rfl, h0, pv⟩ := rpa_cons pv
  obtain rfl := rpa_nil pv
  refine ⟨rfl, ?_⟩
  refine s_if (et_not (et_B (ev_call (ea_cons (ev_var rfl h0) ea_nil) (c_is_word d hd)))) hin (fun e G2 H2 u => ?_) (fun e G2 H2 u => ?_)
  · exact k2 (by simpa using e) G2 H2 u
  · exact k1 (by simpa using e) .non G2 H2 u .non
theorem pure_need_length (vs : List V) (H : Hp) (Q : VK) (E : XK) (h : sp_need_length K ca vs H Q E) : vs.length = 1 ∧ t_need_length K ca E { nx := fun _ H2 => Q .non H2, rt := Q } (start ["length"] vs) H := by
  obtain ⟨G, d, hin, pv, k1, k2⟩ := h
  obtain ⟨v, ws, rfl, h0, pv⟩ := rpa_cons pv
  obtain rfl := rpa_nil pv
  refine ⟨rfl, ?_⟩
  refine s_if (et_not (et_B (ev_call (ea_cons (ev_var rfl h0) (ea_cons ev_int (ea_cons ev_int ea_nil))) (c_is_between d 1 120)))) hin (fun e G2 H2 u => ?_) (fun e G2 H2 u => ?_)
  · exact k2 (by simpa using e) G2 H2 u
  · exact k1 (by simpa using e) .non G2 H2 u .non
end
end Z

namespace Z
open PySem PySem.Spec PyProof.Rows L2
section
variable {K : PySem.W.Frag} {ca : Str → Addr} {E : XK} {G H : Hp} {m w : Addr} {n : Nat} {v : V} {Q : VK}
theorem spv_take {tot : Int} (d : DOk m w (n + 1) G H) (h0 : 0 < tot) (h1 : tot < 1000000000) (k : ∀ i H2, 0 ≤ i → i < tot → UpM m w G H G H2 → DOk m w n G H2 → Q (.int i) H2) : sp__law_take K ca [.ref m, .int tot] H Q E := ⟨G, m, w, n, tot, rfl, d, h0, h1, k⟩
theorem spv_letters {l : W} {many : Int} (d : DOk m w (n + many.toNat) G H) (h1 : l ≠ []) (h2 : l.length ≤ 1000) (h3 : -1000 ≤ many) (h4 : many ≤ 1000) (k : ∀ t G2 H2, t.length = many.toNat → (∀ c ∈ t, c ∈ l) → UpM m w G H G2 H2 → DOk m w n G2 H2 → Q (.str (S t)) H2) : sp__law_letters K ca [.ref m, .str (S l), .int many] H Q E := ⟨G, m, w, n, l, many, rfl, d, h1, h2, h3, h4, k⟩
end
theorem signs_ok : ∀ l ∈ signs, l ≠ [] ∧ l.length ≤ 1000 ∧ ∀ c ∈ l, c ∈ [97, 99, 103, 116] := by decide
def sp__law_text (K : PySem.W.Frag) (ca : Str → Addr) : Sp := fun vs H Q E => ∃ (G : Hp) (m w : Addr) (n : Nat) (most : Int), vs = [.ref m, .int most] ∧ DOk m w (n + 2000) G H ∧ 1 ≤ most ∧ most ≤ 900 ∧
  ∀ t G2 H2, wordB t = true → (t.length : Int) ≤ most → UpM m w G H G2 H2 → DOk m w n G2 H2 → Q (.str (S t)) H2
theorem wordB_of {t : W} (h : t ≠ []) (h2 : ∀ c ∈ t, c ∈ [97, 99, 103, 116]) : wordB t = true := by
  unfold wordB
  rw [Bool.and_eq_true]
  refine ⟨List.all_eq_true.mpr fun c hc => ?_, ?_⟩
  · exact decide_eq_true (h2 c hc)
  · have := List.length_pos_iff.mpr h
    exact decide_eq_true this
theorem cut_to {α : Type} {t : List α} {i : Int} (h : 0 ≤ i) : cutL t none (some i) = t.take i.toNat := by
  unfold cutL
  have e0 : HT.sIx t.length 0 none = 0 := rfl
  rw [e0, List.drop_zero, Nat.sub_zero]
  have : HT.sIx t.length t.length (some i) = min i.toNat t.length := by
    unfold HT.sIx
    simp
    omega
  rw [this, List.take_eq_take_iff]
  omega
def t__law_text (K : PySem.W.Frag) (ca : Str → Addr) (E : XK) : TS := (tSeq ((tAsg ((tTup ((tCons ((tCall (sp__law_signs K ca) [] E ((tCons ((tVar 0)) (tNil))))) ((tCons ((tOp (rI0 fun i j => .int (i + j)) (tC (.int 1)) ((tCall (sp__law_take K ca) [] E ((tCons ((tVar 0)) ((tCons ((tVar 1)) (tNil))))))))) (tNil))))))) (gTup K 2 (gCons (gName 2) (gCons (gName 3) gNil))))) ((tSeq ((tIfS ((tTest (tOp (rI0 fun i j => .bl (decide (j < i))) ((tCall (sp__law_take K ca) [] E ((tCons ((tVar 0)) ((tCons (tC (.int 3)) (tNil))))))) (tC (.int 0))))) ((tRet ((tCall (sp__law_letters K ca) [] E ((tCons ((tVar 0)) ((tCons ((tVar 2)) ((tCons ((tVar 3)) (tNil))))))))))) (tNext))) ((tSeq ((tPar 4 5 ((tCons ((tLc ((iRng1 ((tCons (tC (.int 2)) (tNil))))) ((gName 6)) (tYes) ((tCall (sp__law_letters K ca) [] E0 ((tCons ((tVar 0)) ((tCons ((tVar 2)) ((tCons ((tOp (rI0 fun i j => .int (i + j)) (tC (.int 1)) ((tCall (sp__law_take K ca) [] E0 ((tCons ((tVar 0)) ((tCons (tC (.int 4)) (tNil))))))))) (tNil))))))))) [6])) ((tCons (tC (.str "")) (tNil))))))) ((tSeq ((tFor ((iRng1 ((tCons ((tVar 3)) (tNil))))) ((gName 6)) ((tAsg ((tOp (rAddS) ((tVar 5)) ((tCall (sp__law_pick K ca) [] E ((tCons ((tVar 0)) ((tCons ((tVar 4)) (tNil))))))))) (gName 5))))) ((tRet ((tSl (rSlS) ((tVar 5)) (tNoPart) ((tPart ((tVar 3)))))))))))))))
theorem pure__law_text {K : PySem.W.Frag} {ca : Str → Addr} (vs : List V) (H : Hp) (Q : VK) (E : XK) (h : sp__law_text K ca vs H Q E) : vs.length = 2 ∧ t__law_text K ca E { nx := fun _ H2 => Q .non H2, rt := Q } (start ["_law_draw", "_law_most", "_law_signs_here", "_law_many", "_law_some", "_law_found", "_law_lap"] vs) H := by
  obtain ⟨G, m, w, n, most, rfl, dk, hm1, hm9, k⟩ := h
  refine ⟨rfl, ?_⟩
  unfold t__law_text
  -- signs, many
  refine o_sAsg (o_tup (o_cons (o_call (o_cons (o_var (k := 0) rfl (o_nil ?_))))))
  refine ⟨G, m, w, n + 1999, rfl, dk, fun l G1 H1 hl u1 d1 => ?_⟩
  refine o_cons (o_op (o_c (o_call (o_cons (o_var (k := 0) rfl (o_cons (o_var (k := 1) rfl (o_nil ?_))))))))
  refine spv_take (n := n + 1998) d1 (by omega) (by omega) fun i H2 i0 i1 u2 d2 => ?_
  refine ⟨1, i, rfl, rfl, ?_⟩
  refine o_nil ⟨by show 2 ≤ sizeLine; decide, fun p hp => ⟨p, _, rfl, .inl (.inl upd_same), rfl, _, _, rfl, _, _, rfl, rfl, ?_⟩⟩
  have u3 := Up.hid (o := .tup [.str (S l), .int (1 + i)]) d2.i hp
  have d3 := d2.up u3
  have um3 := UpM.trans d2 (UpM.trans d1 u1 u2) (.of u3)
  obtain ⟨hl1, hl2, hl3⟩ := signs_ok l hl
  -- a plain one
  refine o_sIf (o_test (o_op (o_call (o_cons (o_var (k := 0) rfl (o_cons (o_c (o_nil ?_))))))))
  refine spv_take (n := n + 1997) d3 (by decide) (by decide) fun j H4 j0 j1 u4 d4 => ?_
  have um4 := UpM.trans d3 um3 u4
  refine o_c ⟨j, 0, rfl, rfl, _, rfl, ?_⟩
  by_cases hj : 0 < j
  · rw [if_pos (by simp [hj])]
    refine o_ret (o_call (o_cons (o_var (k := 0) rfl (o_cons (o_var (k := 2) rfl (o_cons (o_var (k := 3) rfl (o_nil ?_))))))))
    refine spv_letters (n := n) (d4.mono (by omega)) hl1 hl2 (by omega) (by omega) fun t G5 H5 ht hc u5 d5 => ?_
    refine k t G5 H5 (wordB_of ?_ (fun c h => hl3 c (hc c h))) (by omega) (UpM.trans d4 um4 u5) d5
    intro e; rw [e] at ht; simp at ht; omega
  · rw [if_neg (by simp [hj])]
    -- of pieces
    refine o_sPar (o_cons ?_)
    refine lcN (K := K) (m := m) (w := w) (b := 5) (n := n + 1900) (DD := dI) (DE := dS) (xs := rng 0 (2 : Int).toNat) (P := fun _ t => (t ≠ [] ∧ t.length ≤ 4) ∧ ∀ c ∈ t, c ∈ [97, 99, 103, 116]) (ei_rng1 (ea_cons ev_int ea_nil) (by omega) (by omega)) (fun z hz G5 H5 x r l5 d5 rx Q q => ?_) (by decide) (d4.mono (by rw [rng_len]; omega)) fun v as G5 H5 hal hP u5 d5 r5 => ?_
    · refine o_call (o_cons (o_var (k := 0) rfl (o_cons (o_var (k := 2) rfl (o_cons (o_op (o_c (o_call (o_cons (o_var (k := 0) rfl (o_cons (o_c (o_nil ?_)))))))))))))
      refine spv_take (n := r + 4) d5 (by decide) (by decide) fun a H6 a0 a1 u6 d6 => ?_
      refine ⟨1, a, rfl, rfl, o_nil ?_⟩
      refine spv_letters (n := r) (d6.mono (by omega)) hl1 hl2 (by omega) (by omega) fun t G7 H7 ht hc u7 d7 => ?_
      refine q _ t G7 H7 (UpM.trans d6 u6 u7) d7 ⟨⟨?_, by omega⟩, fun c h => hl3 c (hc c h)⟩ (.str _)
      intro e; rw [e] at ht; simp at ht; omega
    · have um5 := UpM.trans d4 um4 u5
      have ha2 : as.length = 2 := by rw [hal, rng_len]; rfl
      have hP' : ∀ a ∈ as, (a ≠ [] ∧ a.length ≤ 4) ∧ (∀ c ∈ a, c ∈ [97, 99, 103, 116]) := fun a ha => by
        obtain ⟨i', hi', rfl⟩ := List.getElem_of_mem ha
        have hi2 : i' < (rng 0 (2 : Int).toNat).length := by omega
        exact hP i' _ _ (List.getElem?_eq_getElem hi2) (List.getElem?_eq_getElem hi')
      refine o_cons (o_c (o_nil ⟨_, _, rfl, ?_⟩))
      have hlr : (rng 0 (1 + i).toNat).length = (1 + i).toNat := rng_len _ _
      refine o_seq (sn_forI (K := K) (b := 1) (n := n) (DD := dI) (xs := rng 0 (1 + i).toNat) (fun a σ => ∃ (t : W) (y6 : Option V), σ = [some (.ref m), some (.int most), some (.str (S l)), some (.int (1 + i)), some v, some (.str (S t)), y6] ∧ a ≤ t.length ∧ t.length ≤ a * 5 ∧ ∀ c ∈ t, c ∈ [97, 99, 103, 116]) (ei_rng1 (ea_cons (ev_var (i := 3) rfl (.int (1 + i))) ea_nil) (by omega) (by omega)) (d5.mono (by rw [hlr]; omega)) ⟨[], none, rfl, by simp, by simp, by simp⟩ ?_ ?_)
      · rintro a z hz σ1 G6 H6 x r ⟨t, y6, rfl, h1, h2, h3⟩ l6 d6 rx D2 kn
        refine o_set (o_op (o_var (k := 5) rfl (o_call (o_cons (o_var (k := 0) rfl (o_cons (o_var (k := 4) rfl (o_nil ?_))))))))
        refine spv_pick (n := r) d6 (r5.mono l6) (by intro e; rw [e] at ha2; cases ha2) (by omega) fun u q G7 H7 hq u7 d7 r7 => ?_
        have ha : a < (rng 0 (1 + i).toNat).length := (List.getElem?_eq_some_iff.mp hz).1
        rw [hlr] at ha
        rw [rp_str r7]
        obtain ⟨⟨q1, q2⟩, q3⟩ := hP' q hq
        have ql : 0 < q.length := List.length_pos_iff.mpr q1
        refine (opv_addS (K := K) (a := t) (b := q) (by omega)) G7 H7 _ _ d7.i (.str _) (.str _) _ fun u' G8 H8 u8 r8 => ?_
        rw [rp_str r8]
        refine kn _ G8 H8 ⟨t ++ q, _, rfl, by rw [List.length_append]; omega, by rw [List.length_append]; omega, fun c hc => ?_⟩ (UpM.trans d7 u7 (.of u8)) (d7.up u8)
        rcases List.mem_append.mp hc with z | z
        · exact h3 c z
        · exact q3 c z
      · rintro σ2 G6 H6 ⟨t, y6, rfl, h1, h2, h3⟩ u6 d6
        rw [hlr] at h1 h2
        have um6 := UpM.trans d5 um5 u6
        refine (ev_slS (K := K) (l := t) (ev_var (i := 5) rfl (.str _)) eo_none (eo_some (K := K) (i := 1 + i) (ev_var (i := 3) rfl (.int _))) (by omega)) G6 H6 (Le.refl _) d6.i Q fun u G7 H7 u7 r7 => ?_
        rw [rp_str r7]
        have hcut : cutL t none (some (1 + i)) = t.take (1 + i).toNat := cut_to (by omega)
        rw [hcut]
        have hlt : (t.take (1 + i).toNat).length = (1 + i).toNat := by rw [List.length_take]; omega
        refine k _ G7 H7 (wordB_of ?_ (fun c hc => h3 c (List.mem_of_mem_take hc))) (by omega) (UpM.trans d6 um6 (.of u7)) (d6.up u7)
        intro e; rw [e] at hlt; simp at hlt; omega
/-! ### odd things -/
theorem ev_dnew {K : PySem.W.Frag} {σ : L2.St} {G : Hp} : Ev K tDNewK σ G (.dict []) := fun G1 H1 l i Q q => fun p hp => by
  have u := Up.new (o := .dK []) i hp
  exact q _ _ _ u (.dic upd_same .nil)
def odds : List PyData := [.none, .bool true, .bool false, .int (-1), .int (10 ^ 30 - 1), dS [], dS [65], dS [97, 99, 103, 117], dS [97, 32, 99], dS [32, 97], dS [97, 99, 10], .tuple [], .list [], .dict [], .tuple [dS [97]], .list [dS [97]]] ++ [dM dI [((Sum.inr (S [97]) : Key), (1 : Int))], .tuple [.none], dS [49], .tuple [dS [97], dS [99]], .list [.list [dS [97]]], dS [110]]
def sp__law_odd (K : PySem.W.Frag) (ca : Str → Addr) : Sp := fun vs H Q E => ∃ (G : Hp) (m w : Addr) (n : Nat), vs = [.ref m] ∧ DOk m w (n + 1) G H ∧ ∀ u d G2 H2, d ∈ odds → UpM m w G H G2 H2 → DOk m w n G2 H2 → Rp K G2 u d → Q u H2
def t__law_odd (K : PySem.W.Frag) (ca : Str → Addr) (E : XK) : TS := (tSeq ((tAsg ((tLst ((tCons (tC .non) ((tCons (tC (.bl true)) ((tCons (tC (.bl false)) ((tCons ((tUn (rU fun i => .int (-i)) (tC (.int 1)))) ((tCons ((tOp (rI0 fun i j => .int (i - j)) ((tOp (rI CPow fun i j => .int (i ^ j.toNat)) (tC (.int 10)) (tC (.int 30)))) (tC (.int 1)))) ((tCons (tC (.str "")) ((tCons (tC (.str "A")) ((tCons (tC (.str "acgu")) ((tCons (tC (.str "a c")) ((tCons (tC (.str " a")) ((tCons (tC (.str "ac\n")) ((tCons ((tTup (tNil))) ((tCons ((tLst (tNil))) ((tCons (tDNewK) ((tCons ((tTup ((tCons (tC (.str "a")) (tNil))))) ((tCons ((tLst ((tCons (tC (.str "a")) (tNil))))) (tNil))))))))))))))))))))))))))))))))))) (gName 1))) ((tRet ((tCall (sp__law_pick K ca) [] E ((tCons ((tVar 0)) ((tCons ((tOp (rCat) ((tVar 1)) ((tLst ((tCons ((tDisp [(tC (.str "a"), tC (.int 1))])) ((tCons ((tTup ((tCons (tC .non) (tNil))))) ((tCons (tC (.str "1")) ((tCons ((tTup ((tCons (tC (.str "a")) ((tCons (tC (.str "c")) (tNil))))))) ((tCons ((tLst ((tCons ((tLst ((tCons (tC (.str "a")) (tNil))))) (tNil))))) ((tCons (tC (.str "n")) (tNil))))))))))))))))) (tNil))))))))))
theorem pure__law_odd {K : PySem.W.Frag} {ca : Str → Addr} (vs : List V) (H : Hp) (Q : VK) (E : XK) (h : sp__law_odd K ca vs H Q E) : vs.length = 1 ∧ t__law_odd K ca E { nx := fun _ H2 => Q .non H2, rt := Q } (start ["_law_draw", "_law_some"] vs) H := by
  obtain ⟨G, m, w, n, rfl, dk, k⟩ := h
  refine ⟨rfl, ?_⟩
  unfold t__law_odd
  refine o_sSet (ev_at (K := K) (ev_lst (ea_cons ev_non (ea_cons ev_bl (ea_cons ev_bl (ea_cons (ev_un ev_int unv_neg) (ea_cons (ev_op (ev_op ev_int ev_int (opv_pow ⟨by decide, by decide, by decide⟩)) ev_int opv_sub) (ea_cons (ev_lit (l := []) (by decide +kernel)) (ea_cons (ev_lit (l := [65]) (by decide +kernel)) (ea_cons (ev_lit (l := [97, 99, 103, 117]) (by decide +kernel)) (ea_cons (ev_lit (l := [97, 32, 99]) (by decide +kernel)) (ea_cons (ev_lit (l := [32, 97]) (by decide +kernel)) (ea_cons (ev_lit (l := [97, 99, 10]) (by decide +kernel)) (ea_cons (ev_tup ea_nil (by decide)) (ea_cons (ev_lst ea_nil (by decide)) (ea_cons ev_dnew (ea_cons (ev_tup (ea_cons (ev_lit (l := [97]) (by decide +kernel)) ea_nil) (by decide)) (ea_cons (ev_lst (ea_cons (ev_lit (l := [97]) (by decide +kernel)) ea_nil) (by decide)) ea_nil)))))))))))))))) (by decide)) dk.i fun v G1 H1 u1 r1 => ?_)
  refine o_ret (o_call (o_cons (o_var (k := 0) rfl (o_cons (ev_at (K := K) (ev_op (ev_var (i := 1) rfl r1) (ev_lst (ea_cons (ev_disp (DE := dI) (es := [((Sum.inr (S [97]) : Key), (1 : Int))]) (ep_cons (ev_lit (l := [97]) (by decide +kernel)) ev_int ep_nil) (by decide)) (ea_cons (ev_tup (ea_cons ev_non ea_nil) (by decide)) (ea_cons (ev_lit (l := [49]) (by decide +kernel)) (ea_cons (ev_tup (ea_cons (ev_lit (l := [97]) (by decide +kernel)) (ea_cons (ev_lit (l := [99]) (by decide +kernel)) ea_nil)) (by decide)) (ea_cons (ev_lst (ea_cons (ev_lst (ea_cons (ev_lit (l := [97]) (by decide +kernel)) ea_nil) (by decide)) ea_nil) (by decide)) (ea_cons (ev_lit (l := [110]) (by decide +kernel)) ea_nil)))))) (by decide)) (opv_cat (by decide))) u1.i fun v2 G2 H2 u2 r2 => ?_)))))
  have d2 := dk.up (u1.trans u2)
  refine o_nil ⟨G2, m, w, n, v2, _, rfl, d2, r2, by simp [itemsD], by simp [itemsD], fun u e G3 H3 he u3 d3 r3 => k u e G3 H3 ?_ (UpM.trans d2 (.of (u1.trans u2)) u3) d3 r3⟩
  exact he
end Z

namespace Z
open PySem PySem.Spec PyProof.Rows L2
/-! ### calls with keywords -/
/-- the arguments in the parameters' order: is tells, for each parameter, its place among the written values -/
def perm (is : List Nat) {α : Type} (us ws : List α) : List α := is.filterMap fun i => (us ++ ws)[i]?
theorem vals_get {vs : List V} {us : List Value} (r : Vals vs us) : ∀ i : Nat, (vs[i]? = none ∧ us[i]? = none) ∨ ∃ v u, vs[i]? = some v ∧ us[i]? = some u ∧ RelV v u := by
  induction r with
  | nil => intro i; exact .inl ⟨by simp, by simp⟩
  | cons h _ ih =>
    intro i
    cases i with
    | zero => exact .inr ⟨_, _, rfl, rfl, h⟩
    | succ i => simpa using ih i
theorem perm_rel (is : List Nat) {vs zs : List V} {us ws : List Value} (r : Vals vs us) (rz : Vals zs ws) : Vals (perm is vs zs) (perm is us ws) := by
  have ra := r.append rz
  unfold perm
  induction is with
  | nil => exact .nil
  | cons i is ih =>
    rcases vals_get ra i with ⟨e1, e2⟩ | ⟨v, u, e1, e2, h⟩
    · rw [List.filterMap_cons_none e1, List.filterMap_cons_none e2]; exact ih
    · rw [List.filterMap_cons_some e1, List.filterMap_cons_some e2]; exact .cons h ih
/-- a def called with n positional values and the keywords ks -/
def FnKw (P : Program) (w : World) (K : PySem.W.Frag) (mg : Str → Option Value) (base : Heap) (k : Nat) (x : Str) (ps : List Str) (sp : Sp) (n : Nat) (ks : List Str) (is : List Nat) : Prop :=
  ∃ f fd, FnOk P w K mg base (L2.CX P w) k f fd ps sp ∧ mg x = some (.ref f) ∧ PySem.W.keepIn K (.ref f) = true ∧ KBn K fd ps n ks (perm is) (perm is)
theorem kb_of {K : PySem.W.Frag} {x qual : Str} {params : Arguments} {body : List Stmt} {scope : Scope} {f : Addr} {fd : FuncData} {ps : List Str} (F : FunD K x qual params body scope [] [] f fd) (n : Nat) (ks : List Str) (is : List Nat)
    (h : ∀ (kV doc pm : Value) (an : Option Addr) (cdv ct : Value) (us ws : List Value), us.length = n → ws.length = ks.length → bindArgs (PySem.W.fnOf x qual params body scope .none kV doc pm an cdv ct) ⟨us, ks.zip ws⟩ = pure (ps.zip (perm is us ws))) : KBn K fd ps n ks (perm is) (perm is) := by
  obtain ⟨oc, od, dV, kV, doc, pm, an, cdv, ct, osl, rfl, lk, hcd, hD, hK⟩ := F.ex
  rcases hD with ⟨_, rfl⟩ | ⟨e, _⟩
  · exact ⟨fun s us ws _ l1 l2 => .of_eq (h kV doc pm an cdv ct us ws l1 l2), fun r rz => perm_rel is r rz⟩
  · exact absurd rfl e
section
variable {X : Cx} {k n : Nat} {x : Str} {ps ks : List Str} {is : List Nat} {sp : Sp} {E : XK} {e : Expr} {es : List Expr} {kws : List Keyword} {t tk : TA} {p pos : Pos}
theorem pe_fnK0 (F : FnKw X.prog X.w X.K X.mg X.base k x ps sp 0 ks is) (hr : Room k X.A) (hg : Gl X x) (hx : Passes (L2.CX X.prog X.w) X E) (hkw : PK X kws tk)
    (hall : (backToKw pos (keywordEach kws X.env)).all (·.1.isSome) = true := by rfl) (hks : (backToKw pos (keywordEach kws X.env)).filterMap (·.1) = ks := by rfl)
    (hdb : (x == ("__debug__" : Str)) = false := by decide) (hpl : ((backTo pos (starEach [] X.env)).any (·.1) || (backToKw pos (keywordEach kws X.env)).any (·.1.isNone)) = false := by rfl) :
    PE X (.Call (.Name x p) [] kws pos) (tCallN 0 ks.length sp (perm is) E tNil tk) := by
  obtain ⟨f, fd, G, hm, hk, hb⟩ := F
  refine ⟨fun pins s σ H Q I h => ?_⟩
  refine wpAny_Call_Name_kw (ld_glob I hg hm ?_ hdb)
  refine PySem.W.callWith_KW0 (h₀ := X.base) I.ok.mod.kin hk hall (thn (hkw.run pos pins s σ H _ I h) fun ws s2 ⟨zs, H2, I2, rz, l1, l2, q2⟩ => ⟨I2.kIn, ?_⟩) hpl
  rw [hks]
  exact run_fnN (us := []) (vs := []) G hr hb hx I2 .nil rz l1 l2 q2
theorem pe_fnK (F : FnKw X.prog X.w X.K X.mg X.base k x ps sp n ks is) (hr : Room k X.A) (hg : Gl X x) (hx : Passes (L2.CX X.prog X.w) X E) (ha : PA X (e :: es) t) (hkw : PK X kws tk)
    (hall : (backToKw pos (keywordEach kws X.env)).all (·.1.isSome) = true := by rfl) (hks : (backToKw pos (keywordEach kws X.env)).filterMap (·.1) = ks := by rfl)
    (hdb : (x == ("__debug__" : Str)) = false := by decide) (he : starEach (e :: es) X.env = (false, eval e X.env) :: starEach es X.env := by rfl)
    (hpl : ((backTo pos (starEach (e :: es) X.env)).any (·.1) || (backToKw pos (keywordEach kws X.env)).any (·.1.isNone)) = false := by rfl) :
    PE X (.Call (.Name x p) (e :: es) kws pos) (tCallN n ks.length sp (perm is) E t tk) := by
  obtain ⟨f, fd, G, hm, hk, hb⟩ := F
  exact pe_callN G hr hg hm hk hb hx ha hkw hall hks hdb he hpl
end
section
variable {K : PySem.W.Frag} {σ : L2.St} {G : Hp}
/-- what a keyword call gives -/
theorem ev_callN {sp : Sp} {E : XK} {t tk : TA} {n m : Nat} {is : List Nat} {as bs ds : List PyData} {d : PyData} (ha : EvA K t σ G as) (hk : EvA K tk σ G bs) (h1 : as.length = n) (h2 : bs.length = m) (hp : perm is as bs = ds) (hr : SpV K sp E ds d) : Ev K (tCallN n m sp (perm is) E t tk) σ G d := fun G1 H1 l i Q q =>
  ha G1 H1 l i _ fun vs G2 H2 u2 p2 => hk G2 H2 (l.trans u2.g) u2.i _ fun zs G3 H3 u3 p3 => by
    refine ⟨p2.len.trans h1, p3.len.trans h2, hr G3 H3 _ u3.i ?_ Q fun v G4 H4 u4 p4 => q v G4 H4 ((u2.trans u3).trans u4) p4⟩
    rw [← hp]
    have ra := rpa_app (p2.mono u3.g) p3
    unfold perm
    clear hp hr
    induction is with
    | nil => exact .nil
    | cons i is ih =>
      cases hd : (as ++ bs)[i]? with
      | none =>
        have hv : (vs ++ zs)[i]? = none := by
          rw [List.getElem?_eq_none_iff] at hd ⊢
          rw [ra.len]; exact hd
        rw [List.filterMap_cons_none hd, List.filterMap_cons_none hv]; exact ih
      | some e =>
        obtain ⟨v, hv, r⟩ := ra.get hd
        rw [List.filterMap_cons_some hd, List.filterMap_cons_some hv]; exact .cons r ih
end
end Z

namespace Z
open PySem PySem.Spec PyProof.Rows L2
/-! ### repr -/
def rRepr (K : PySem.W.Frag) : List V → Hp → VK → Prop := fun xs H Q => ∃ x d, xs = [x] ∧ Dp K H x d ∧ d.showable = true ∧ d.hasDict = false ∧ d.depth ≤ 60 ∧ d.shown.length ≤ sizeLine ∧ Q (.str d.shown) H
theorem cr_repr {X : Cx} (hg : X.A.guards = some []) (hu : X.A.units + 64 < cLine) : CallR X (.builtin "repr") (rRepr X.K) := by
  intro pins s σ H xs us Q I r h
  obtain ⟨x, d, rfl, hd, hs, hn, hp, hz, q⟩ := h
  obtain ⟨u, rfl, ru⟩ := vals1 r
  cases hd with
  | non =>
    cases ru
    exact PySem.P.repr_of_none ⟨.str _, H, I.tok _, ⟨_, rfl⟩, q⟩
  | bl b =>
    cases ru
    exact PySem.P.repr_of_bool ⟨.str _, H, I.tok _, ⟨_, by cases b <;> rfl⟩, q⟩
  | int i =>
    obtain ⟨t, rfl⟩ := ru
    exact PySem.P.repr_of_int (by simpa [PyData.showable] using hs) ⟨.str _, H, I.tok _, ⟨_, rfl⟩, q⟩
  | str y =>
    obtain ⟨t, rfl⟩ := ru
    exact PySem.P.repr_of_str ⟨.str _, H, I.tok _, ⟨_, rfl⟩, q⟩ hz
  | lst h1 h2 =>
    rename_i a xs ds
    obtain rfl : u = Value.ref a := ru
    obtain ⟨as, hr⟩ := Dp.reads I _ _ _ (Dp.lst h1 h2) rfl
    exact repr_of_reads' hr hs (fun z => by rw [hn] at z; cases z) hg (by omega) (fun _ _ e => e) (fun h' u' tk hk => ⟨.str _, H, I.kept hk, ⟨_, rfl⟩, q⟩) hz
  | tup h1 h2 =>
    rename_i a xs ds
    obtain rfl : u = Value.ref a := ru
    obtain ⟨as, hr⟩ := Dp.reads I _ _ _ (Dp.tup h1 h2) rfl
    exact repr_of_reads' hr hs (fun z => by rw [hn] at z; cases z) hg (by omega) (fun _ _ e => e) (fun h' u' tk hk => ⟨.str _, H, I.kept hk, ⟨_, rfl⟩, q⟩) hz
end Z

namespace Z
open PySem PySem.Spec PyProof.Rows L2 LamX
/-! ### defs that run where no repr is under way -/
structure FnG (P : Program) (w : World) (K : PySem.W.Frag) (mg : Str → Option Value) (base : Heap) (C : CXT) (k : Nat) (f : Addr) (fd : FuncData) (ps : List Str) (sp : Sp) : Prop where
  len : ∀ vs H Q E, sp vs H Q E → vs.length = ps.length
  run : ∀ (A : Around) (outer : List Env) (s : Shared) (H : Hp) (args : Args) (us : List Value) (vs : List V) (Q : VK) (E : XK), A.guards = some [] → Room k A → Env0 P w K mg base A outer s H → BindsTo s fd args (ps.zip us) → Vals vs us → sp vs H Q E →
    codeAny (model P w) A (.call (.ref f) args) (CR C outer P w H s Q E) s
theorem FnG.of {P : Program} {w : World} {K : PySem.W.Frag} {mg : Str → Option Value} {base : Heap} {C : CXT} {k : Nat} {f : Addr} {fd : FuncData} {ps : List Str} {sp : Sp} (F : FnOk P w K mg base C k f fd ps sp) : FnG P w K mg base C k f fd ps sp :=
  ⟨F.len, fun A outer s H args us vs Q E _ => F.run A outer s H args us vs Q E⟩
/-- the rule for such a def: its body may ask for the guards -/
theorem okG {P : Program} {w : World} {K : PySem.W.Frag} {mg : Str → Option Value} {base : Heap} {x qual : Str} {params : Arguments} {body : List Stmt} {scope : Scope} {dvs : List V} {kws : List (Str × V)} {f : Addr} {fd : FuncData} {C : CXT} {N ps : List Str} {k : Nat} {sp : Sp}
    (F : FunD K x qual params body scope dvs kws f fd) (S : FnScope N ps scope) (len : ∀ vs H Q E, sp vs H Q E → vs.length = ps.length)
    (hb : ∀ (cdv : Value) (A : Around) (outer : List Env) (s : Shared) (H : Hp) (vs : List V) (Q : VK) (E : XK), fd.code = cdv → A.guards = some [] → Room k (A.deeper (envOfC qual scope s.heap.objs.size f cdv)) → sp vs H Q E →
      ∃ t, PSs (cxOf C P w K mg base N qual scope f cdv A outer s H E) body t ∧ t { nx := fun _ H' => Q .non H', rt := Q } (start N vs) H) : FnG P w K mg base C (k + 1) f fd ps sp := by
  refine ⟨len, fun A outer s H args us vs Q E hg hr e0 hbd r hsp => ?_⟩
  obtain ⟨oc, od, dV, kV, doc, pm, an, cdv, ct, osl, rfl, lk, hcd, _, _⟩ := F.ex
  have KS : K.In s.heap := e0.mod.kin.keeps fun b o e => (e0.bs b o e).1
  have LS : s.heap.NoLimit := e0.mod.nolimit.keeps fun b o e => (e0.bs b o e).1
  have hn : ∀ y ∈ ps.zip us, scope.names.lookup y.1 = some .local ∨ (scope.names.lookup y.1 = some .cell ∧ ((cellsFrom (s.heap.objs.size + 1) scope.names []).lookup y.1).isSome = true) := by
    rintro ⟨n, v⟩ hy
    rcases S.par n (List.of_mem_zip hy).1 with q | q
    · left; exact q
    · right; exact ⟨q, PySem.W.cellsFrom_some _ _ _ (.inl q)⟩
  refine codeAny_call_function hr.depth (KS _ _ lk) rfl S.co S.gen rfl (PySem.W.codeRec_of KS hcd) (hbd _ _ _ _ ?_)
  refine wpAny_newFunctionEnv_cells S.kind hn fun env he s1 y => ?_
  subst he
  refine ⟨LS.keeps y.toInCall.keep, codeAny_func ?_⟩
  obtain ⟨t, ht, hq⟩ := hb cdv A outer s H vs Q E rfl hg (hr.deeper _) hsp
  have I0 : Inv (cxOf C P w K mg base N qual scope f cdv A outer s H E) [] (start N vs) H s1 := inv_start S hr.hd e0 (len _ _ _ _ hsp) r y
  refine wpAny_mono (ht.run [] s1 (start N vs) H _ I0 hq) (fun fl s' hs => ?_) fun e s' hs => hs
  cases fl with
  | ret u =>
    obtain ⟨v, σ1, H1, J, rv, q⟩ := hs
    exact ⟨v, H1, J.os, J.bare, J.base, J.hok, rv, q⟩
  | next =>
    obtain ⟨σ1, H1, J, q⟩ := hs
    exact ⟨V.non, H1, J.os, J.bare, J.base, J.hok, rfl, q⟩
  | brk =>
    obtain ⟨_, _, _, q⟩ := hs
    exact q.elim
  | cont =>
    obtain ⟨_, _, _, q⟩ := hs
    exact q.elim
/-- the def x of the module, called where no repr is under way -/
def FnGs (P : Program) (w : World) (K : PySem.W.Frag) (mg : Str → Option Value) (base : Heap) (k : Nat) (x : Str) (ps : List Str) (sp : Sp) : Prop :=
  ∃ f fd, FnG P w K mg base (L2.CX P w) k f fd ps sp ∧ mg x = some (.ref f) ∧ PySem.W.keepIn K (.ref f) = true ∧ Binds K fd ps []
theorem pe_fnG {X : Cx} {k : Nat} {x : Str} {ps : List Str} {sp : Sp} {E : XK} {e : Expr} {es : List Expr} {t : TA} {p pos : Pos} (F : FnGs X.prog X.w X.K X.mg X.base k x ps sp) (hgd : X.A.guards = some []) (hr : Room k X.A) (hg : Gl X x) (hx : Passes (L2.CX X.prog X.w) X E) (ha : PA X (e :: es) t) (hdb : (x == ("__debug__" : Str)) = false := by decide)
    (he : starEach (e :: es) X.env = (false, eval e X.env) :: starEach es X.env := by rfl) (hpl : (backTo pos (starEach es X.env)).any (·.1) = false := by rfl) :
    PE X (.Call (.Name x p) (e :: es) [] pos) (tCall sp [] E t) := by
  obtain ⟨f, fd, F, hm, hk, hb⟩ := F
  refine ⟨fun pins s σ H Q I h => ?_⟩
  refine wpAny_Call_Name_kw (ld_glob I hg hm ?_ hdb)
  refine PySem.W.callWith_K (h₀ := X.base) I.ok.mod.kin hk (thn (ha.run pos pins s σ H _ I h) fun us s1 ⟨vs, H1, I1, r, q⟩ => ⟨I1.kIn, ?_⟩) he hpl
  have r2 : Vals (vs ++ []) (us ++ []) := r.append .nil
  have q : sp (vs ++ []) H1 Q E := q
  have hl : (us ++ []).length = ps.length := by rw [← r2.length]; exact F.len _ _ _ _ q
  refine wpAny_call (codeAny_mono (F.run X.A X.stack s1 H1 ⟨us, []⟩ (us ++ []) (vs ++ []) Q E hgd hr I1.env0 (hb s1 us I1.kIn hl) r2 q) fun r' s' hq => ?_)
  match r', hq with
  | .error e, hq => exact hx pins σ H1 s1 e s' I1 hq
  | .ok (.ret u), hq => exact I1.after hq
  | .ok .next, hq => exact False.elim hq
  | .ok .brk, hq => exact False.elim hq
  | .ok .cont, hq => exact False.elim hq
end Z

namespace Z
open PySem PySem.Spec PyProof.Rows L2 LamX
/-- the law's call where the law's def is of FnG; cs: code objects with their tables -/
theorem lawCallG {P : Program} {w : World} {K : PySem.W.Frag} {mg mb : Str → Option Value} {C : CXT} {k : Nat} {fa a : Addr} {cs : List (Addr × Addr)} {fd : FuncData} {x : Str} {sp : Sp} {t1 : Shared} {vs : List Value} {ns : List Int}
    (KX : K.In t1.heap) (gN : t1.heap.Ns mainGlobals mg) (bN : t1.heap.Ns builtinsNs mb) (bB : ∀ x : Str, x ≠ "__name__" → mb x = bootBuiltins x) (lim : t1.heap.NoLimit) (gen0 : t1.gens = #[])
    (hT : ∀ p ∈ cs, t1.heap.get? p.2 = some { cls := .none, data := .fields #[] }) (nT : ∀ p ∈ cs, K.lookup p.2 = none) (hC : ∀ p ∈ cs, PySem.W.CodeHd t1.heap p.1 p.2)
    (bmn : ∃ (bm : Addr) (ob : Obj), mg "__builtins__" = some (.ref bm) ∧ bm ≠ builtinsNs ∧ t1.heap.get? bm = some ob ∧ ob.cls = .type "module" ∧ ob.dict = some builtinsNs ∧ ob.data = .plain)
    (hA : t1.heap.get? a = some { cls := .type "list", data := .seq vs.toArray }) (hI : IntsAre vs ns) (hL : ns.length ≤ sizeLine) (hR : Room k callerA)
    (F : ∀ base : Heap, K.In base → base.Ns mainGlobals mg → (∀ p ∈ cs, TabB base mg p.1 p.2) → FnG P w K mg base C k fa fd [x] sp) (hB : ∀ (s : Shared) (u : Value), BindsTo s fd ⟨[u], []⟩ [(x, u)])
    (hsp : ∀ H : Hp, (∀ p ∈ cs, H p.2 = some (.tbl #[])) → SqL K H a (ns.map V.int) → sp [.ref a] H (fun v _ => v = .bl true) fun _ _ _ => False)
    (hX : ∀ H e s', C [] H t1 (fun _ _ _ => False) e s' → False) :
    codeAny (model P w) callerA (.call (.ref fa) ⟨[.ref a], []⟩) (fun r s' => r = .ok (.ret (.bool true)) ∧ OldK t1.heap s'.heap ∧ s'.os = t1.os ∧ AllBare s'.gens) t1 := by
  have rv := vals_ints hI
  have T0 : ∀ b, b ∈ cs.map (·.2) → t1.heap.get? b = some { cls := .none, data := .fields #[] } := by
    intro b hb
    obtain ⟨p, hp, rfl⟩ := List.mem_map.mp hb
    exact hT p hp
  have inT : ∀ p ∈ cs, p.2 ∈ cs.map (·.2) := fun p hp => List.mem_map_of_mem hp
  have aT : ¬ a ∈ cs.map (·.2) := by
    intro z
    have q := T0 a z
    rw [hA] at q
    have z' : Data.seq vs.toArray _ = Data.fields #[] := congrArg Obj.data (Option.some.inj q)
    cases z'
  -- what is tracked: the tables, and the script unless the module knows it
  let so : HO := .frz { cls := .type "list", data := .seq vs.toArray } (.lst (ns.map V.int))
  let H : Hp := fun b => if b ∈ cs.map (·.2) then some (.tbl #[]) else if b = a ∧ K.lookup a = none then some so else none
  have HT : ∀ b, b ∈ cs.map (·.2) → H b = some (.tbl #[]) := fun b hb => if_pos hb
  have Hs : ∀ b o, H b = some o → (b ∈ cs.map (·.2) ∧ o = .tbl #[]) ∨ (b = a ∧ K.lookup a = none ∧ o = so) := by
    intro b o e
    by_cases hb : b ∈ cs.map (·.2)
    · left; rw [HT b hb] at e; cases e; exact ⟨hb, rfl⟩
    · right
      have e : (if b = a ∧ K.lookup a = none then some so else none) = some o := (if_neg hb).symm.trans e
      by_cases h2 : b = a ∧ K.lookup a = none
      · rw [if_pos h2] at e; cases e; exact ⟨h2.1, h2.2, rfl⟩
      · rw [if_neg h2] at e; cases e
  have Sq : SqL K H a (ns.map V.int) := by
    cases hk : K.lookup a with
    | some o =>
      have e := KX a o hk
      rw [hA] at e; cases e
      exact .inr ⟨_, vs.toArray, _, hk, rfl, rfl, rfl, by rw [List.size_toArray, hI.length]; exact hL, by simpa using rv⟩
    | none =>
      refine .inl (.inr ⟨{ cls := .type "list", data := .seq vs.toArray }, ?_⟩)
      show (if a ∈ cs.map (·.2) then _ else _) = _
      rw [if_neg aT, if_pos ⟨rfl, hk⟩]
  have hok : HOk P w H t1.heap := by
    intro b o e
    rcases Hs b o e with ⟨hb, rfl⟩ | ⟨rfl, _, rfl⟩
    · exact T0 b hb
    · exact ⟨hA, by rw [List.length_map]; exact hL, vs, _, rv, hA⟩
  have free : ∀ {b : Addr} {o : Obj}, t1.heap.get? b = some o → (∀ us n, o.data ≠ .seq us n) → o.data ≠ .fields #[] → H b = none := by
    intro b o e h1 h2
    cases q : H b with
    | none => rfl
    | some u =>
      rcases Hs b u q with ⟨hb, _⟩ | ⟨rfl, _, _⟩
      · rw [T0 b hb] at e; cases e; exact (h2 rfl).elim
      · rw [hA] at e; cases e; exact (h1 _ _ rfl).elim
  have dfree : ∀ {b : Addr} {o : Obj} {es : Array DictEntry} {n : Nat}, t1.heap.get? b = some o → o.data = .dict es n → H b = none := by
    intro b o es n e d
    refine free e (fun us m z => ?_) (fun z => ?_) <;> rw [d] at z <;> cases z
  have NsK : ∀ {b : Addr} {f : Str → Option Value}, t1.heap.Ns b f → (hidT t1.heap H).Ns b f := by
    rintro b f ⟨o, es, n, e, d, r⟩
    exact ⟨o, es, n, hidT_get e (dfree e d), d, r⟩
  have KB : K.In (hidT t1.heap H) := by
    intro b o e
    refine hidT_get (KX b o e) ?_
    cases q : H b with
    | none => rfl
    | some u =>
      rcases Hs b u q with ⟨hb, _⟩ | ⟨rfl, hk, _⟩
      · obtain ⟨p, hp, rfl⟩ := List.mem_map.mp hb
        rw [nT p hp] at e; cases e
      · rw [hk] at e; cases e
  obtain ⟨mc, l1, l2⟩ := lim
  have M0 : L2.Mod K mg (hidT t1.heap H) := { kin := KB, glob := NsK gN, blt := ⟨mb, NsK bN, bB⟩, nolimit := ⟨mc, NsK l1, l2⟩ }
  have TB : ∀ p ∈ cs, TabB (hidT t1.heap H) mg p.1 p.2 := by
    intro p hp
    have hTp := hT p hp
    constructor
    · obtain ⟨o, us, file, tf, flags, tg, inF, text, tt, e1, r1, r2, r3, rr⟩ := hC p hp
      refine ⟨o, us, file, tf, flags, tg, inF, text, tt, hidT_get e1 (free e1 (fun us n z => ?_) (fun z => ?_)), r1, r2, r3, rr⟩
      · rw [r2] at z; cases z
      · rw [r2] at z; cases z; simp at r3
    · obtain ⟨bm, ob, b1, b2, b3, b4, b5, b6⟩ := bmn
      refine ⟨bm, ob, b1, b2, fun q => ?_, fun q => ?_, hidT_get b3 (free b3 (fun us n z => ?_) (fun z => ?_)), b4, b5, b6⟩
      · obtain ⟨o, es, n, e, d, _⟩ := gN
        rw [q, e] at b3; cases b3; rw [d] at b6; cases b6
      · rw [q, hTp] at b3; cases b3; cases b6
      · rw [b6] at z; cases z
      · rw [b6] at z; cases z
    · intro z
      obtain ⟨o, es, n, e, d, _⟩ := gN
      rw [z, hTp] at e; cases e; cases d
  have E0' : Env0 P w K mg (hidT t1.heap H) callerA [] t1 H := by
    refine ⟨rfl, M0, fun b o e => of_hidT e, Nat.le_of_eq (hidT_size _ _), trivial, fun b hb => ?_, hok, .of_eq gen0⟩
    exact absurd (show b ∈ ([] : List Addr) from hb) (by simp)
  refine codeAny_mono ((F _ KB (NsK gN) TB).run callerA [] t1 H ⟨[.ref a], []⟩ [.ref a] [.ref a] _ _ rfl hR E0' (hB t1 (.ref a)) (.cons rfl .nil) (hsp H (fun p hp => HT _ (inT p hp)) Sq)) fun r s' h => ?_
  match r, h with
  | .error e, h => exact (hX H e s' h).elim
  | .ok .next, h => exact h.elim
  | .ok .brk, h => exact h.elim
  | .ok .cont, h => exact h.elim
  | .ok (.ret u), h =>
    obtain ⟨v, H', os, bare, un, hok', r', q⟩ := h
    have q : v = .bl true := q
    subst q
    obtain rfl : u = Value.bool true := r'
    have old : ∀ b o, ¬ b ∈ cs.map (·.2) → t1.heap.get? b = some o → s'.heap.get? b = some o := by
      intro b o nb e
      cases q : H b with
      | none => exact un.keep b o e q (fun z => absurd (show b ∈ ([] : List Addr) from z) (by simp)) (by simp)
      | some u =>
        rcases Hs b u q with ⟨hb, _⟩ | ⟨rfl, _, rfl⟩
        · exact absurd hb nb
        · obtain ⟨e1, _⟩ := hok b _ q
          obtain ⟨e2, _⟩ := hok' b _ (un.frzs b _ _ q)
          rw [e] at e1; cases e1
          exact e2
    have grew : ∀ p ∈ cs, ∃ more : Array Value, s'.heap.get? p.2 = some { cls := .none, data := .fields more } := by
      intro p hp
      obtain ⟨more, z⟩ := un.tbls p.2 #[] (HT _ (inT p hp))
      exact ⟨_, hok' p.2 _ z⟩
    refine ⟨rfl, ⟨fun b o e => ?_, fun b o e => ?_⟩, os, bare⟩
    · by_cases hb : b ∈ cs.map (·.2)
      · obtain ⟨p, hp, rfl⟩ := List.mem_map.mp hb
        obtain ⟨more, hm⟩ := grew p hp
        rw [hT p hp] at e
        cases e
        exact .inr (.inl ⟨((hC p hp).tab (hT p hp)).isCodeTable, rfl, #[], more, rfl, by rw [Array.empty_append]; exact hm⟩)
      · exact .inl (old b o hb e)
    · by_cases hb : b ∈ cs.map (·.2)
      · obtain ⟨p, hp, rfl⟩ := List.mem_map.mp hb
        obtain ⟨more, hm⟩ := grew p hp
        exact ⟨_, hm⟩
      · exact ⟨o, old b o hb e⟩
/-- the walk of a law whose def is of FnG -/
theorem walkG {l : PySem.W.OpenLaw} {n k : Nat} {q : Program} {loose : List Str} {XP : (Str → Option Value) → Heap → Prop} {YP : World → Heap → Prop} {d : DefRec} {C : World → CXT} {x : Str}
    (hn : l.most = some n) (hn2 : n ≤ sizeLine) (hdf : d.params.defaults = []) (hR : Room k callerA)
    (F : ∀ (w : World) (mg : Str → Option Value) (fa : Addr) (h : Heap), YP w h → h.Ns mainGlobals mg → mg d.name = some (.ref fa) →
      ∃ (K : PySem.W.Frag) (fd : FuncData) (cs : List (Addr × Addr)) (sp : Sp), K.In h ∧ (∀ p ∈ cs, h.get? p.2 = some { cls := .none, data := .fields #[] }) ∧ (∀ p ∈ cs, K.lookup p.2 = none) ∧ (∀ p ∈ cs, PySem.W.CodeHd h p.1 p.2) ∧ (∀ (s : Shared) (u : Value), BindsTo s fd ⟨[u], []⟩ [(x, u)]) ∧
        (∀ (H : Hp) (a : Addr) (ns : List Int), ns.length ≤ n → (∀ p ∈ cs, H p.2 = some (.tbl #[])) → SqL K H a (ns.map V.int) → sp [.ref a] H (fun v _ => v = .bl true) fun _ _ _ => False) ∧
        ∀ base : Heap, K.In base → base.Ns mainGlobals mg → (∀ p ∈ cs, TabB base mg p.1 p.2) → FnG l.prog w K mg base (C w) k fa fd [x] sp)
    (hX : ∀ (w : World) (H : Hp) (s : Shared) (e : Value) (s' : Shared), C w [] H s (fun _ _ _ => False) e s' → False) :
    PySem.W.WalkO q loose XP YP l.row.toRowW d [] (fun f vs => PySem.call f vs) := by
  refine Att.attach_callB hn hdf fun w t0 t1 mg mb fa o pm cd doc a vs ns G Y ho hd hcd hmg hob hin hle hbi hgn => ?_
  obtain ⟨K, fd, cs, sp, KX, h1, h2, h3, hb, hsp, hF⟩ := F w mg fa _ Y G.T.g hmg
  exact lawCallG KX G.T.g G.T.b G.T.builtins G.T.nolimit hgn h1 h2 h3 G.T.bmain hob hin (Nat.le_trans hle hn2) hR hF hb (fun H hH hS => hsp H a ns hle hH hS) fun H e s' => hX w H t1 e s'
end Z

namespace Z
open PySem PySem.Spec PyProof.Rows L2
/-! ### an exception that is caught and kept -/
/-- a caught exception of the class cls at a -/
def ExV (cls : Value) (d : Option Addr) (a : Addr) : HO := .ext fun h => ∃ (oe : Obj) (vs : Array Value), h.get? a = some oe ∧ Zc cls d oe ∧ oe.data = .fields vs
section
variable {X : Cx} {pins : List (Addr × Obj)} {σ : L2.St} {H : Hp} {s : Shared}
/-- an object of ours that nothing knows may be tracked -/
theorem track {a : Addr} {o : HO} {oe : Obj} (I : Inv X pins σ H s) (e : s.heap.get? a = some oe) (hc : ∀ v, oe.data ≠ .cell v) (n0 : X.s_0.heap.get? a = none) (hn : H a = none) (nL : a ≠ X.env.locals) (hp : ∀ p ∈ X.pn ++ pins, p.1 ≠ a) (new : ObjOk X.prog X.w (upd H a o) s.heap a o) : Inv X pins σ (upd H a o) s := by
  have ne0 : ∀ b u, X.s_0.heap.get? b = some u → b ≠ a := fun b u q z => by rw [z, n0] at q; cases q
  have neH : ∀ b u, H b = some u → b ≠ a := fun b u q z => by rw [z, hn] at q; cases q
  refine ⟨I.ok, I.os, I.bare, ⟨I.base.keep, I.base.slot, fun b u q n hx => ?_, I.base.there, fun b xs q => ?_, fun b u w q => ?_, fun b ps q => ?_⟩, I.loc, I.cell, ?_, fun x c q => ?_, fun p hq => ?_, fun b u q => ?_, I.len⟩
  · rw [upd_ne (ne0 b u q)]; exact I.base.free b u q n hx
  · have z := I.base.tups b xs q
    rw [upd_ne (neH _ _ z)]; exact z
  · have z := I.base.frzs b u w q
    rw [upd_ne (neH _ _ z)]; exact z
  · obtain ⟨more, z⟩ := I.base.tbls b ps q
    exact ⟨more, by rw [upd_ne (neH _ _ z)]; exact z⟩
  · rw [upd_ne nL.symm]; exact I.free
  · have nc : c ≠ a := fun z => by
      obtain ⟨v, oc, e1, e2⟩ := I.cell x c q
      rw [z, e] at e1; cases e1
      exact hc v e2
    rw [upd_ne nc]; exact I.freeC x c q
  · obtain ⟨e1, e2, e3, e4, e5⟩ := I.pin p hq
    exact ⟨e1, by rw [upd_ne (hp p hq)]; exact e2, e3, e4, e5⟩
  · by_cases hb : b = a
    · subst hb; rw [upd_same] at q; cases q; exact new
    · rw [upd_ne hb] at q
      refine (I.hok b u q).stay (fun c v _ z => z) (fun c z => ?_) fun c xs z => ?_
      · rw [upd_ne (neH _ _ z)]; exact z
      · rw [upd_ne (neH _ _ z)]; exact z
end
/-- what 'except x as n' wishes of the body's exception: it is kept behind the suite -/
def wAsK (K : PySem.W.Frag) (c : Value) (i : Nat) (ts : Addr → Value → Option Addr → TS) (Wout : WX) (D : Ends) : WX := fun cls d σ H =>
  ∃ b, PySem.W.exmOne K cls c = some b ∧ (b = true → ∀ a, H a = none → ts a cls d { nx := fun σ' H' => H' = H ∧ D.nx (σ'.set i none) (upd H a (ExV cls d a)), rt := fun _ _ => False } (σ.set i (some (.ref a))) H) ∧ (b = false → Wout cls d σ H)
section
variable {X : Cx} {x n : Str} {c : Value} {i : Nat} {body suite : List Stmt} {b₀ : Stmt} {np pos pos' : Pos} {tb : WX → TS} {ts : Addr → Value → Option Addr → TS} {Wout : WX}
theorem ps_try_asK (hx0 : X.ex = []) (hs : X.stack = X.env :: X.outer) (hf : X.env.frame = some X.env.locals) (hN : X.N.Nodup) (hi : X.N[i]? = some n) (hln : X.env.kindOf n = some .local) (hc : Names X x c) (tk : Takes X Wout)
    (hb : ∀ (W : WX) (pn : List (Addr × Obj)) (xe : Value → Shared → Prop), Takes (X.tr pn xe) W → PassesOwn (model X.prog X.w) X.A X.env xe → PSs (X.tr pn xe) body (tb W))
    (hsu : ∀ (a : Addr) (oe : Obj) (cls : Value) (d : Option Addr) (pn : List (Addr × Obj)), Zc cls d oe → (∃ vs, oe.data = .fields vs) → PSs (X.suite a ((a, oe) :: pn)) (b₀ :: suite) (ts a cls d)) :
    PS X (.Try body [.ExceptHandler (some (.Name x np)) (some n) (b₀ :: suite) pos'] [] [] pos) (fun D σ H => tb (wAsK X.K c i ts Wout D) D σ H) := by
  refine ⟨fun pins s σ H D I h => ?_⟩
  have ok := I.ok
  have fr : X.A.frames = some (X.env :: X.outer) := by rw [ok.frames, hs]
  refine wpAny_Try_except ?_
  refine wpAny_mono ((hb (wAsK X.K c i ts Wout D) (X.pn ++ pins) (fun e s₁ => wpAny (model X.prog X.w) X.A (noteFrame e X.env) (fun _ s₂ => wpAny (model X.prog X.w) X.A (setFlight e none) (fun _ s₃ =>
    wpAny (model X.prog X.w) X.A (handleBy e X.env [.ExceptHandler (some (.Name x np)) (some n) (b₀ :: suite) pos']) (SP X pins D) X.xe s₃) X.xe s₂) X.xe s₁) (fun u s' y => ?_) PassesOwn.looking).run [] s σ H D (I.toTry _) h) (fun f s1 q => ?_) (fun e s1 he => he)
  · obtain ⟨a, B, sI, pins', σ1, H1, cls, d, rfl, J0, nb, up, sky, na, os, ag, b, hb1, hyes, hno⟩ := y
    have J : Inv X pins σ1 H1 sI := J0.ofTry ok
    have sky1 : Sky B (X.env :: X.outer) a (Zc cls d) X.env.locals s'.heap := by rw [← hs]; exact sky
    show wpAny (model X.prog X.w) X.A (noteFrame (.ref a) X.env) _ _ _
    refine Sky.land Zc.steady fr hf sky1 fun h3 fl3 up3 => ?_
    have J3 : Inv X pins σ1 H1 { s' with heap := h3 } := J.landed nb fl3.1 (up.trans up3) os ag
    obtain ⟨o3, v3, e3, z3, d3⟩ := fl3.there
    have nfr : a ∉ frs (X.env :: X.outer) := by
      intro hm
      obtain ⟨_, o1, q1, hnf⟩ := fl3.2.2.1.mem hm
      rw [e3] at q1; cases q1
      exact hnf _ d3
    have nL : a ≠ X.env.locals := fun z => nfr (List.mem_filterMap.mpr ⟨X.env, List.mem_cons_self, by rw [hf, z]⟩)
    have nF : a ∉ X.fs := fun hm => by
      obtain ⟨e, he, q⟩ := List.mem_filterMap.mp hm
      exact nfr (List.mem_filterMap.mpr ⟨e, List.mem_cons_of_mem _ he, q⟩)
    have Ba : B.get? a = none := fl3.2.1
    have nI : sI.heap.get? a = none := by
      cases q : sI.heap.get? a with
      | none => rfl
      | some o =>
        have := nb a o q (by rw [hs]; exact nfr)
        rw [Ba] at this; cases this
    have n0 : X.s_0.heap.get? a = none := by
      cases q : X.s_0.heap.get? a with
      | none => rfl
      | some o =>
        obtain ⟨o1, q1⟩ := J.base.there a o q (by rw [hx0]; exact fun z => nomatch z)
        rw [nI] at q1; cases q1
    have S3 := J3.suite e3 d3 na nL nF
    refine wpAny_handleBy_cons (codeAny_handlers_test ?_) (by intro q; cases q)
    have LT : PySem.W.Looks (model X.prog X.w) h3 (typeOf (.ref a)) cls := fun A Q E s k q => wpAny_typeOf_ref (k _ _ e3) (by rw [z3.1]; exact q)
    have LM := PySem.W.exm_one (M := model X.prog X.w) (J3.kIn) LT hb1
    have tst : ∀ {Q : Value → Shared → Prop} {E : Value → Shared → Prop}, Q c { s' with heap := h3 } → wpAny (model X.prog X.w) (X.A.mark (some (.ref a))) (eval (.Name x np) X.env) Q E { s' with heap := h3 } := by
      intro Q E q
      obtain ⟨hg, hdb, hm | ⟨hm, hv, hnn⟩⟩ := hc
      · exact ld_glob (X := X.suite a ((a, o3) :: (X.pn ++ pins))) S3 hg hm q hdb
      · exact ld_blt (X := X.suite a ((a, o3) :: (X.pn ++ pins))) S3 hg hm hv q hnn hdb
    refine tst (LM.here ?_)
    cases b with
    | true =>
      refine codeAny_handlers_suite_as ?_
      refine HandSPX.lands_againZ fl3 fun h4 fl4 up4 => ?_
      have J4 : Inv X pins σ1 H1 { s' with heap := h4 } := J.landed nb fl4.1 ((up.trans up3).trans up4) os ag
      obtain ⟨o4, v4, e4, z4, d4⟩ := fl4.there
      have S4 := J4.suite e4 d4 na nL nF
      refine store_ok (X := X.suite a ((a, o4) :: (X.pn ++ pins))) (v := .ref a) S4 hN hi (.inl hln) rfl (fun s5 S5 => ?_) (.inr hln)
      refine wpAny_mono ((hsu a o4 cls d (X.pn ++ pins) z4 ⟨_, d4⟩).run [] s5 _ H1 _ S5 (hyes rfl a na)) (fun f s6 q => ?_) (fun _ _ z => False.elim z)
      cases f with
      | next =>
        obtain ⟨σ6, H6, S6, eH, q6⟩ := q
        subst eH
        have P6 := S6.pin (a, o4) (List.mem_append_left _ List.mem_cons_self)
        have J6 : Inv X pins σ6 H6 s6 := S6.unsuite ok
        have K6 : Inv X ((a, o4) :: pins) σ6 H6 s6 := ⟨J6.ok, J6.os, J6.bare, J6.base, J6.loc, J6.cell, J6.free, J6.freeC, fun p hp => by
          rcases List.mem_append.mp hp with z | z
          · exact J6.pin p (List.mem_append_left _ z)
          · rcases List.mem_cons.mp z with z | z
            · rw [z]; exact P6
            · exact J6.pin p (List.mem_append_right _ z), J6.hok, J6.len⟩
        show wpAny (model X.prog X.w) X.A (do bindName X.env n .none; unbindBehindTheSuite X.env n pos') _ X.xe s6
        refine gone_ok K6 hN hi hln fun s7 K7 => ?_
        have P7 := K7.pin (a, o4) (List.mem_append_right _ List.mem_cons_self)
        have J7 : Inv X pins (σ6.set i none) H6 s7 := K7.pins_of fun p hp => K7.pin p (List.mem_append_right _ (List.mem_cons_of_mem _ hp))
        have new : ObjOk X.prog X.w (upd H6 a (ExV cls d a)) s7.heap a (ExV cls d a) := ⟨⟨o4, v4, P7.1, z4, d4⟩, ⟨o4, P7.1⟩, fun _ _ ⟨o, v, q, r⟩ k => ⟨o, v, k o q, r⟩⟩
        refine ⟨_, upd H6 a (ExV cls d a), track J7 P7.1 P7.2.2.2.2 n0 na nL (fun p hp z => ?_) new, q6⟩
        have := (J.pin p hp).1
        rw [z, nI] at this; cases this
      | brk => obtain ⟨σ6, H6, S6, q6⟩ := q; exact q6.elim
      | cont => obtain ⟨σ6, H6, S6, q6⟩ := q; exact q6.elim
      | ret u => obtain ⟨v6, σ6, H6, S6, r6, q6⟩ := q; exact q6.elim
    | false =>
      show wpAny _ X.A (handleBy (.ref a) X.env []) _ _ _
      refine wpAny_handleBy_nil ?_
      obtain ⟨k1, k2, k3, oe, vs, T, oT, ts', he, hz, hd, h1, hr⟩ := id fl3
      unfold PySem.passOn
      refine wpAny_bind (wpAny_field he hd h1 ?_)
      rw [if_neg (show ¬ ((Value.ref T == Value.none) = true) from by simp)]
      have fin : wpAny (model X.prog X.w) X.A (setFlight (.ref a) X.env.frame) (fun _ s4 => wpAny (model X.prog X.w) X.A (throw (.ref a) : Sem Flow) (SP X pins D) X.xe s4) X.xe { s' with heap := h3 } := by
        rw [hf]
        refine HandSPX.setFlight_upZ fl3 fun h4 hh4 up4 => wpAny_throw (tk _ _ ?_)
        exact ⟨a, B, sI, pins, σ1, H1, cls, d, rfl, J, nb, (up.trans up3).trans up4, .inr (.inr (by rw [hs]; exact hh4)), na, os, ag, hno rfl⟩
      first
        | exact wpAny_bind (wpAny_pure (wpAny_bind fin))
        | exact wpAny_bind fin
  · cases f with
    | next =>
      obtain ⟨σ1, H1, J1, q⟩ := q
      exact wpAny_execs_nil ⟨σ1, H1, J1.ofTry ok, q⟩
    | brk =>
      obtain ⟨σ1, H1, J1, q⟩ := q
      exact ⟨σ1, H1, J1.ofTry ok, q⟩
    | cont =>
      obtain ⟨σ1, H1, J1, q⟩ := q
      exact ⟨σ1, H1, J1.ofTry ok, q⟩
    | ret u =>
      obtain ⟨v, σ1, H1, J1, r, q⟩ := q
      exact ⟨v, σ1, H1, J1.ofTry ok, r, q⟩
end
end Z

namespace Z
open PySem PySem.Spec PyProof.Rows L2 LamX
/-! ### isinstance of a caught exception -/
def rIsX (K : PySem.W.Frag) : List V → Hp → VK → Prop := fun xs H Q => ∃ (a D : Addr) (c : V) (cv : Value) (b : Bool), xs = [.ref a, c] ∧ H a = some (ExV (.ref D) none a) ∧ ExcC K D ∧ (∀ u, RelV c u → u = cv) ∧ PySem.W.kitOne K (.ref D) cv = some b ∧ Q (.bl b) H
theorem call_isX {X : Cx} : CallR X (.builtin "isinstance") (rIsX X.K) := by
  intro pins s σ H xs us Q I r h
  obtain ⟨a, D, c, cv, b, rfl, ha, C, hcv, e, q⟩ := h
  obtain ⟨u1, u2, rfl, r1, r2⟩ := vals2 r
  obtain rfl : u1 = Value.ref a := r1
  obtain rfl := hcv _ r2
  obtain ⟨⟨oe, vs, hget, hz, hv⟩, _⟩ := I.hok a _ ha
  have J : PySem.W.InstAt s.heap a oe D none := by
    obtain ⟨oc, od, oda, osl⟩ := oe
    obtain ⟨h1, h2⟩ := hz
    dsimp only at h1 h2 hv
    subst h1 h2 hv
    exact ⟨hget, rfl, rfl, trivial⟩
  exact PySem.W.kia_one (PySem.W.handS_kitx_exc C.hg C.hk C.hs C.hd C.ha C.hn C.ht C.hm) I.kIn J e (fun z => nomatch z) fun tk => ⟨.bl b, H, I.kept (t' := tk) fun _ _ z => z, rfl, q⟩
/-- isinstance of anything -/
def rIsA (K : PySem.W.Frag) : List V → Hp → VK → Prop := fun xs H Q => rIsi K xs H Q ∨ rIsX K xs H Q
theorem call_isA {X : Cx} : CallR X (.builtin "isinstance") (rIsA X.K) := by
  intro pins s σ H xs us Q I r h
  rcases h with h | h
  · exact call_isi pins s σ H xs us Q I r h
  · exact call_isX pins s σ H xs us Q I r h
/-! ### x(lambda: ..), x catches -/
/-- found = None / try: job() / except e as n: found = n / return found -/
def TCaught (K : PySem.W.Frag) (CS : Addr) : (XK → Hp → VK → Prop) → Hp → VK → Prop := fun tl H Q => ∀ Q' : VK, (∀ v H', Q .non H' → Q' v H') →
  tl (fun cls d H' => ∃ b, PySem.W.exmOne K cls (.ref CS) = some b ∧ (b = true → ∀ a, H' a = none → Q (.ref a) (upd H' a (ExV cls d a))) ∧ (b = false → False)) H Q'
section
variable {X : Cx}
theorem caught_gives {x a y n e q : Str} {sg : Scope} {g CS : Addr} {cdg : Value} {j : Nat} {p0 p1 p2 p3 p4 p5 p6 p7 p8 p9 p10 p11 p12 p13 : Pos} (hge : sg.names.lookup e = some .globalImplicit) (hme : X.mg e = some (.ref CS)) (hde : (e == ("__debug__" : Str)) = false)
    (hya : [a, y, n].Nodup) (hy : sg.names.lookup y = some .local) (hn : sg.names.lookup n = some .local) (hdy : (y == ("__debug__" : Str)) = false) (hcy : (y == ("__classdict__" : Str)) = false) (hdn : (n == ("__debug__" : Str)) = false) (hcn : (n == ("__classdict__" : Str)) = false) :
    GivesTo X [a, y, n] x sg g cdg [.Assign [.Name y p0] (.Constant .none j p9) p10, .Try [.Expr (.Call (.Name a p1) [] [] p2) p3] [.ExceptHandler (some (.Name e p4)) (some n) [.Assign [.Name y p5] (.Name n p6) p7] p8] [] [] p11, .Return (some (.Name y p12)) p13] a q (TCaught X.K CS) := by
  intro f c' s H Q tl act hc h
  have hgl : Gl (cxOf C8.CX0 X.prog X.w X.K X.mg X.base [a, y, n] x sg g cdg X.A X.stack s H C8.E0).nox e := hge
  refine ⟨_, pss_cons (ps_set (i := 1) hya rfl (.inl hy) pe_non) (pss_cons (ps_try_asK (X := (cxOf C8.CX0 X.prog X.w X.K X.mg X.base [a, y, n] x sg g cdg X.A X.stack s H C8.E0).nox) (c := .ref CS) (i := 2) (n := n)
      (tb := fun W D σ H => ∃ Ech : XK, (∀ cls d σ1 H1, σ1.length = 3 → Ech cls d H1 → W cls d σ1 H1) ∧ σ[0]? = some (some (.ref f)) ∧ H c' = some (CodeO c' q) ∧ tl Ech H fun _ H1 => D.nx σ H1)
      rfl rfl rfl hya rfl hn ⟨hgl, hde, .inl hme⟩ LamX.takes0 (fun W pn xe tk _ => ?_) (fun a oe cls d pn _ _ => pss_one (ps_set (i := 1) hya rfl (.inl hy) (pe_var (i := 2) rfl (.inl hn) hdn hcn)))) (pss_one (ps_ret (pe_var (i := 1) rfl (.inl hy) hdy hcy)))), ?_⟩
  · refine ⟨fun pins s1 σ H1 D I hD => ?_⟩
    obtain ⟨Ech, hW, h1, h2, h3⟩ := hD
    have tk' : Takes ((cxOf C8.CX0 X.prog X.w X.K X.mg X.base [a, y, n] x sg g cdg X.A X.stack s H C8.E0).tr pn xe) (fun cls d σ1 H1 => σ1.length = 3 → W cls d σ1 H1) := fun u s2 ⟨b, B, sI, pi, σ2, H2, cls, d, e1, I2, nb, up, sky, na, os, ag, w⟩ =>
      tk u s2 ⟨b, B, sI, pi, σ2, H2, cls, d, e1, I2, nb, up, sky, na, os, ag, w I2.len⟩
    have hp := act (fun cls d σ1 H1 => σ1.length = 3 → W cls d σ1 H1) pn xe Ech p1 p2 tk' fun cls d σ1 H1 hE hl => hW cls d σ1 H1 hl hE
    have hq := pss_one (ps_expr (pos := p3) hp)
    exact hq.run pins s1 σ H1 D I ⟨h1, h2, h3⟩
  · refine ⟨_, ?_, rfl, hc, h _ fun v H1 hq => ⟨.non, rfl, hq⟩⟩
    rintro cls d σ1 H1 hl ⟨b, e1, e2, e3⟩
    refine ⟨b, e1, fun hb a' ha' => ?_, fun hb => (e3 hb).elim⟩
    match σ1, hl with
    | [v0, v1, v2], _ => exact ⟨_, rfl, rfl, _, rfl, e2 hb a' ha'⟩
end
end Z

namespace Y
open PySem PySem.Spec PyProof.Rows L2 Z
/-! ### data, runs -/
abbrev Ky := Sum Int (List Nat)
def kk : Ky → Key
  | .inl i => .inl i
  | .inr w => .inr (S w)
theorem kk_inj {a b : Ky} (h : kk a = kk b) : a = b := by
  cases a <;> cases b <;> simp [kk] at h
  · rw [h]
  · rw [S_inj h]
inductive D where
  | non | bl (b : Bool) | int (i : Int) | str (w : List Nat)
  | lst (xs : List D) | tup (xs : List D) | dic (kvs : List (Ky × D))
  | ty (n : String) | glo (x : Str) | ins (C : Str) (fs : List (Str × D)) | exc (C : Str) (fs : List (Str × D)) | drw (q : Addr × Addr × Addr) | scr (ns : List Int)
/-- draws: the dict, the wide numbers, the cells -/
abbrev Tk := Addr × Addr × Addr
abbrev Dr := List Tk
structure Ex where
  C : Str
  fs : List (Str × D)
inductive M (α : Type) where
  | ok (a : α) | raise (x : Ex) | bad | take (q : Tk) (tot : Int) (k : Int → M α) | beg (k : Tk → M α)
def M.bind {α β : Type} : M α → (α → M β) → M β
  | .ok a, f => f a
  | .raise x, _ => .raise x
  | .bad, _ => .bad
  | .take q t k, f => .take q t fun i => (k i).bind f
  | .beg k, f => .beg fun q => (k q).bind f
/-- a raise is bad -/
def M.nox {α : Type} : M α → M α
  | .ok a => .ok a
  | .raise _ => .bad
  | .bad => .bad
  | .take q t k => .take q t fun i => (k i).nox
  | .beg k => .beg fun q => (k q).nox
/-- both ends -/
def M.all {α β : Type} : M α → (α → M β) → (Ex → M β) → M β
  | .ok a, f, _ => f a
  | .raise x, _, g => g x
  | .bad, _, _ => .bad
  | .take q t k, f, g => .take q t fun i => (k i).all f g
  | .beg k, f, g => .beg fun q => (k q).all f g
def M.of {α : Type} : Option α → M α
  | some a => .ok a
  | none => .bad
section
variable {α β γ : Type}
@[simp] theorem ok_bind (a : α) (f : α → M β) : (M.ok a).bind f = f a := rfl
@[simp] theorem raise_bind (x : Ex) (f : α → M β) : (M.raise x : M α).bind f = .raise x := rfl
@[simp] theorem bad_bind (f : α → M β) : (M.bad : M α).bind f = .bad := rfl
@[simp] theorem take_bind (q : Tk) (t : Int) (k : Int → M α) (f : α → M β) : (M.take q t k).bind f = .take q t fun i => (k i).bind f := rfl
@[simp] theorem beg_bind (k : Tk → M α) (f : α → M β) : (M.beg k).bind f = .beg fun q => (k q).bind f := rfl
@[simp] theorem ok_nox (a : α) : (M.ok a).nox = .ok a := rfl
@[simp] theorem of_some (a : α) : M.of (some a) = .ok a := rfl
@[simp] theorem of_none : M.of (none : Option α) = .bad := rfl
@[simp] theorem ok_all (a : α) (f : α → M β) (g : Ex → M β) : (M.ok a).all f g = f a := rfl
@[simp] theorem raise_all (x : Ex) (f : α → M β) (g : Ex → M β) : (M.raise x : M α).all f g = g x := rfl
@[simp] theorem bind_bind (m : M α) (f : α → M β) (g : β → M γ) : (m.bind f).bind g = m.bind fun a => (f a).bind g := by
  induction m with
  | ok a => rfl
  | raise x => rfl
  | bad => rfl
  | take q t k ih => simp only [M.bind]; congr 1; funext i; exact ih i
  | beg k ih => simp only [M.bind]; congr 1; funext i; exact ih i
theorem bind_ok (m : M α) : m.bind M.ok = m := by
  induction m with
  | ok a => rfl
  | raise x => rfl
  | bad => rfl
  | take q t k ih => simp only [M.bind]; congr 1; funext i; exact ih i
  | beg k ih => simp only [M.bind]; congr 1; funext i; exact ih i
end
/-- the draws that stand, n turns left: Q of each end, E of each error -/
def wp {α : Type} : Dr → Nat → M α → (Dr → Nat → α → Prop) → (Dr → Nat → Ex → Prop) → Prop
  | dr, n, .ok a, Q, _ => Q dr n a
  | dr, n, .raise x, _, E => E dr n x
  | _, _, .bad, _, _ => False
  | dr, n, .take q t k, Q, E => q ∈ dr ∧ 0 < t ∧ t < 1000000000 ∧ ∃ n', n = n' + 1 ∧ ∀ i, 0 ≤ i → i < t → wp dr n' (k i) Q E
  | dr, n, .beg k, Q, E => ∀ q, wp (q :: dr) n (k q) Q E
section
variable {α β : Type} {dr : Dr} {n : Nat} {m : M α} {Q Q' : Dr → Nat → α → Prop} {E E' : Dr → Nat → Ex → Prop}
theorem wp_mono (h : wp dr n m Q E) (hq : ∀ d n a, Q d n a → Q' d n a) (he : ∀ d n x, E d n x → E' d n x) : wp dr n m Q' E' := by
  induction m generalizing dr n with
  | ok a => exact hq _ _ _ h
  | raise x => exact he _ _ _ h
  | bad => exact h
  | take q t k ih =>
    obtain ⟨h0, h1, h2, n', e, h3⟩ := h
    exact ⟨h0, h1, h2, n', e, fun i a b => ih i (h3 i a b)⟩
  | beg k ih => exact fun q => ih q (h q)
theorem wp_bind {f : α → M β} {R : Dr → Nat → β → Prop} : wp dr n (m.bind f) R E ↔ wp dr n m (fun dr n a => wp dr n (f a) R E) E := by
  induction m generalizing dr n with
  | ok a => exact Iff.rfl
  | raise x => exact Iff.rfl
  | bad => exact Iff.rfl
  | take q t k ih =>
    constructor
    · rintro ⟨h0, h1, h2, n', e, h3⟩
      exact ⟨h0, h1, h2, n', e, fun i a b => (ih i).mp (h3 i a b)⟩
    · rintro ⟨h0, h1, h2, n', e, h3⟩
      exact ⟨h0, h1, h2, n', e, fun i a b => (ih i).mpr (h3 i a b)⟩
  | beg k ih => exact ⟨fun h q => (ih q).mp (h q), fun h q => (ih q).mpr (h q)⟩
theorem wp_all {f : α → M β} {g : Ex → M β} {R : Dr → Nat → β → Prop} : wp dr n (m.all f g) R E ↔ wp dr n m (fun dr n a => wp dr n (f a) R E) (fun dr n x => wp dr n (g x) R E) := by
  induction m generalizing dr n with
  | ok a => exact Iff.rfl
  | raise x => exact Iff.rfl
  | bad => exact Iff.rfl
  | take q t k ih =>
    constructor
    · rintro ⟨h0, h1, h2, n', e, h3⟩
      exact ⟨h0, h1, h2, n', e, fun i a b => (ih i).mp (h3 i a b)⟩
    · rintro ⟨h0, h1, h2, n', e, h3⟩
      exact ⟨h0, h1, h2, n', e, fun i a b => (ih i).mpr (h3 i a b)⟩
  | beg k ih => exact ⟨fun h q => (ih q).mp (h q), fun h q => (ih q).mpr (h q)⟩
theorem wp_nox  : wp dr n m.nox Q E ↔ wp dr n m Q (fun _ _ _ => False) := by
  induction m generalizing dr n with
  | ok a => exact Iff.rfl
  | raise x => exact Iff.rfl
  | bad => exact Iff.rfl
  | take q t k ih =>
    constructor
    · rintro ⟨h0, h1, h2, n', e, h3⟩
      exact ⟨h0, h1, h2, n', e, fun i a b => (ih i).mp (h3 i a b)⟩
    · rintro ⟨h0, h1, h2, n', e, h3⟩
      exact ⟨h0, h1, h2, n', e, fun i a b => (ih i).mpr (h3 i a b)⟩
  | beg k ih => exact ⟨fun h q => (ih q).mp (h q), fun h q => (ih q).mpr (h q)⟩
theorem wp_of {o : Option α} : wp dr n (M.of o) Q E ↔ ∃ a, o = some a ∧ Q dr n a := by
  cases o with
  | none => exact ⟨fun h => h.elim, fun ⟨a, e, _⟩ => by cases e⟩
  | some b => exact ⟨fun h => ⟨b, rfl, h⟩, fun ⟨a, e, h⟩ => by cases e; exact h⟩
end
/-! ### what is known of the program -/
structure Kx where
  K : PySem.W.Frag
  ca : Str → Addr
  T : List (Addr × Str)
mutual
inductive Rp (k : Kx) (G : Hp) : V → D → Prop
  | non : Rp k G .non .non
  | bl (b : Bool) : Rp k G (.bl b) (.bl b)
  | int (i : Int) : Rp k G (.int i) (.int i)
  | str (x : List Nat) : Rp k G (.str (S x)) (.str x)
  | lst {a : Addr} {xs : List V} {ds : List D} : G a = some (.lst xs) → RpA k G xs ds → Rp k G (.ref a) (.lst ds)
  | tup {a : Addr} {xs : List V} {ds : List D} : SqT k.K G a xs → RpA k G xs ds → Rp k G (.ref a) (.tup ds)
  | dic {a : Addr} {kvs : List (Key × V)} {ds : List (Ky × D)} : G a = some (.dK kvs) → RpD k G kvs ds → Rp k G (.ref a) (.dic ds)
  | ty (n : String) : Rp k G (.ty n) (.ty n)
  | glo (x : Str) : Rp k G (.ref (k.ca x)) (.glo x)
  | ins {a dx : Addr} {C : Str} {fs : List (Str × V)} {ds : List (Str × D)} : G a = some (.ins (k.ca C) dx fs) → G dx = some (.own a) → RpF k G fs ds → Rp k G (.ref a) (.ins C ds)
  | exc {a : Addr} {C : Str} : G a = some (ExV (.ref (k.ca C)) none a) → Rp k G (.ref a) (.exc C [])
  | excF {a b : Addr} {C : Str} {fs : List (Str × V)} {ds : List (Str × D)} : G a = some (ExV (.ref (k.ca C)) (some b) a) → G b = some (.xd fs) → RpF k G fs ds → ds ≠ [] → Rp k G (.ref a) (.exc C ds)
  | drw (q : Tk) : Rp k G (.ref q.1) (.drw q)
  | scr {a : Addr} {ns : List Int} : SqL k.K G a (ns.map .int) → Rp k G (.ref a) (.scr ns)
inductive RpA (k : Kx) (G : Hp) : List V → List D → Prop
  | nil : RpA k G [] []
  | cons {v : V} {vs : List V} {d : D} {ds : List D} : Rp k G v d → RpA k G vs ds → RpA k G (v :: vs) (d :: ds)
inductive RpD (k : Kx) (G : Hp) : List (Key × V) → List (Ky × D) → Prop
  | nil : RpD k G [] []
  | cons {q : Ky} {v : V} {vs : List (Key × V)} {d : D} {ds : List (Ky × D)} : Rp k G v d → RpD k G vs ds → RpD k G ((kk q, v) :: vs) ((q, d) :: ds)
inductive RpF (k : Kx) (G : Hp) : List (Str × V) → List (Str × D) → Prop
  | nil : RpF k G [] []
  | cons {q : Str} {v : V} {vs : List (Str × V)} {d : D} {ds : List (Str × D)} : Rp k G v d → RpF k G vs ds → RpF k G ((q, v) :: vs) ((q, d) :: ds)
end
section
variable {k : Kx} {G G' : Hp}
mutual
theorem Rp.mono (l : Le G G') : ∀ {v : V} {d : D}, Rp k G v d → Rp k G' v d
  | _, _, .non => .non
  | _, _, .bl b => .bl b
  | _, _, .int i => .int i
  | _, _, .str x => .str x
  | _, _, .lst h a => .lst (l _ _ h) (RpA.mono l a)
  | _, _, .tup h a => .tup (le_t l h) (RpA.mono l a)
  | _, _, .dic h a => .dic (l _ _ h) (RpD.mono l a)
  | _, _, .ty n => .ty n
  | _, _, .glo x => .glo x
  | _, _, .ins h g a => .ins (l _ _ h) (l _ _ g) (RpF.mono l a)
  | _, _, .exc h => .exc (l _ _ h)
  | _, _, .excF h g a n => .excF (l _ _ h) (l _ _ g) (RpF.mono l a) n
  | _, _, .drw q => .drw q
  | _, _, .scr h => .scr (sql_le h l)
theorem RpA.mono (l : Le G G') : ∀ {v : List V} {d : List D}, RpA k G v d → RpA k G' v d
  | _, _, .nil => .nil
  | _, _, .cons h a => .cons (Rp.mono l h) (RpA.mono l a)
theorem RpD.mono (l : Le G G') : ∀ {v : List (Key × V)} {d : List (Ky × D)}, RpD k G v d → RpD k G' v d
  | _, _, .nil => .nil
  | _, _, .cons h a => .cons (Rp.mono l h) (RpD.mono l a)
theorem RpF.mono (l : Le G G') : ∀ {v : List (Str × V)} {d : List (Str × D)}, RpF k G v d → RpF k G' v d
  | _, _, .nil => .nil
  | _, _, .cons h a => .cons (Rp.mono l h) (RpF.mono l a)
end
theorem RpA.len : ∀ {vs : List V} {ds : List D}, RpA k G vs ds → vs.length = ds.length
  | _, _, .nil => rfl
  | _, _, .cons _ a => by rw [List.length_cons, List.length_cons, RpA.len a]
theorem RpD.len : ∀ {vs : List (Key × V)} {ds : List (Ky × D)}, RpD k G vs ds → vs.length = ds.length
  | _, _, .nil => rfl
  | _, _, .cons _ a => by rw [List.length_cons, List.length_cons, RpD.len a]
theorem RpA.get : ∀ {vs : List V} {ds : List D} {i : Nat} {d : D}, RpA k G vs ds → ds[i]? = some d → ∃ v, vs[i]? = some v ∧ Rp k G v d
  | _, _, _, _, .nil, e => by simp at e
  | _, _, 0, _, .cons h _, e => by simp at e; subst e; exact ⟨_, rfl, h⟩
  | _, _, i + 1, _, .cons _ a, e => by
    obtain ⟨v, h1, h2⟩ := RpA.get (i := i) a (by simpa using e)
    exact ⟨v, by simpa using h1, h2⟩
theorem RpA.app : ∀ {v1 v2 : List V} {d1 d2 : List D}, RpA k G v1 d1 → RpA k G v2 d2 → RpA k G (v1 ++ v2) (d1 ++ d2)
  | _, _, _, _, .nil, h => h
  | _, _, _, _, .cons h a, h2 => .cons h (RpA.app a h2)
theorem RpA.drop : ∀ {n : Nat} {vs : List V} {ds : List D}, RpA k G vs ds → RpA k G (vs.drop n) (ds.drop n)
  | 0, _, _, h => h
  | _ + 1, _, _, .nil => .nil
  | n + 1, _, _, .cons _ a => RpA.drop (n := n) a
theorem RpA.take : ∀ {n : Nat} {vs : List V} {ds : List D}, RpA k G vs ds → RpA k G (vs.take n) (ds.take n)
  | 0, _, _, _ => .nil
  | _ + 1, _, _, .nil => .nil
  | n + 1, _, _, .cons h a => .cons h (RpA.take (n := n) a)
theorem RpA.set {v : V} {d : D} (h : Rp k G v d) : ∀ {vs : List V} {ds : List D} (i : Nat), RpA k G vs ds → RpA k G (vs.set i v) (ds.set i d)
  | _, _, _, .nil => .nil
  | _, _, 0, .cons _ a => .cons h a
  | _, _, i + 1, .cons q a => .cons q (RpA.set h i a)
theorem rp_lst {v : V} {ds : List D} (h : Rp k G v (.lst ds)) : ∃ p xs, v = .ref p ∧ G p = some (.lst xs) ∧ RpA k G xs ds := by
  cases h with | lst h a => exact ⟨_, _, rfl, h, a⟩
theorem rp_tup {v : V} {ds : List D} (h : Rp k G v (.tup ds)) : ∃ p xs, v = .ref p ∧ SqT k.K G p xs ∧ RpA k G xs ds := by
  cases h with | tup h a => exact ⟨_, _, rfl, h, a⟩
theorem rp_dic {v : V} {ds : List (Ky × D)} (h : Rp k G v (.dic ds)) : ∃ p xs, v = .ref p ∧ G p = some (.dK xs) ∧ RpD k G xs ds := by
  cases h with | dic h a => exact ⟨_, _, rfl, h, a⟩
theorem rp_int {v : V} {i : Int} (h : Rp k G v (.int i)) : v = .int i := by cases h; rfl
theorem rp_str {v : V} {i : List Nat} (h : Rp k G v (.str i)) : v = .str (S i) := by cases h; rfl
theorem rp_bl {v : V} {i : Bool} (h : Rp k G v (.bl i)) : v = .bl i := by cases h; rfl
theorem rp_non {v : V} (h : Rp k G v .non) : v = .non := by cases h; rfl
theorem rpa_nil {vs : List V} (h : RpA k G vs []) : vs = [] := by cases h; rfl
theorem rpa_cons {vs : List V} {d : D} {ds : List D} (h : RpA k G vs (d :: ds)) : ∃ v ws, vs = v :: ws ∧ Rp k G v d ∧ RpA k G ws ds := by
  cases h with | cons h a => exact ⟨_, _, rfl, h, a⟩
theorem rpa_one {vs : List V} {d : D} (h : RpA k G vs [d]) : ∃ v, vs = [v] ∧ Rp k G v d := by
  obtain ⟨v, ws, rfl, h1, h2⟩ := rpa_cons h
  rw [rpa_nil h2]; exact ⟨v, rfl, h1⟩
theorem rpa_two {vs : List V} {d e : D} (h : RpA k G vs [d, e]) : ∃ v w, vs = [v, w] ∧ Rp k G v d ∧ Rp k G w e := by
  obtain ⟨v, ws, rfl, h1, h2⟩ := rpa_cons h
  obtain ⟨w, rfl, h3⟩ := rpa_one h2
  exact ⟨v, w, rfl, h1, h3⟩
end
/-! ### plain data -/
mutual
def py : D → Option PyData
  | .non => some .none
  | .bl b => some (.bool b)
  | .int i => some (.int i)
  | .str w => some (.str (S w))
  | .lst xs => (pys xs).map .list
  | .tup xs => (pys xs).map .tuple
  | .dic kvs => (pyd kvs).map .dict
  | .ty _ => none
  | .glo _ => none
  | .ins _ _ => none
  | .exc _ _ => none
  | .drw _ => none
  | .scr _ => none
def pys : List D → Option (List PyData)
  | [] => some []
  | d :: ds => match py d, pys ds with
    | some p, some ps => some (p :: ps)
    | _, _ => none
def pyd : List (Ky × D) → Option (List (PyData × PyData))
  | [] => some []
  | (q, d) :: ds => match py d, pyd ds with
    | some p, some ps => some ((kD (kk q), p) :: ps)
    | _, _ => none
end
theorem pys_cons {d : D} {ds : List D} {ps : List PyData} (h : pys (d :: ds) = some ps) : ∃ p qs, py d = some p ∧ pys ds = some qs ∧ ps = p :: qs := by
  rw [pys] at h
  cases e : py d with
  | none => rw [e] at h; cases h
  | some p =>
    cases f : pys ds with
    | none => rw [e, f] at h; cases h
    | some qs => rw [e, f] at h; cases h; exact ⟨p, qs, rfl, rfl, rfl⟩
theorem pyd_cons {q : Ky} {d : D} {ds : List (Ky × D)} {ps : List (PyData × PyData)} (h : pyd ((q, d) :: ds) = some ps) : ∃ p qs, py d = some p ∧ pyd ds = some qs ∧ ps = (kD (kk q), p) :: qs := by
  rw [pyd] at h
  cases e : py d with
  | none => rw [e] at h; cases h
  | some p =>
    cases f : pyd ds with
    | none => rw [e, f] at h; cases h
    | some qs => rw [e, f] at h; cases h; exact ⟨p, qs, rfl, rfl, rfl⟩
section
variable {k : Kx} {G : Hp}
mutual
theorem Rp.z : ∀ {v : V} {d : D}, Rp k G v d → ∀ {p : PyData}, py d = some p → Z.Rp k.K G v p
  | _, _, .non, p, h => by simp only [py, Option.some.injEq] at h; subst h; exact .non
  | _, _, .bl b, p, h => by simp only [py, Option.some.injEq] at h; subst h; exact .bl b
  | _, _, .int b, p, h => by simp only [py, Option.some.injEq] at h; subst h; exact .int b
  | _, _, .str b, p, h => by simp only [py, Option.some.injEq] at h; subst h; exact .str _
  | _, _, .lst e a, p, h => by
    simp only [py, Option.map_eq_some_iff] at h
    obtain ⟨ps, h1, rfl⟩ := h
    exact .lst e (RpA.z a h1)
  | _, _, .tup e a, p, h => by
    simp only [py, Option.map_eq_some_iff] at h
    obtain ⟨ps, h1, rfl⟩ := h
    exact .tup e (RpA.z a h1)
  | _, _, .dic e a, p, h => by
    simp only [py, Option.map_eq_some_iff] at h
    obtain ⟨ps, h1, rfl⟩ := h
    exact .dic e (RpD.z a h1)
  | _, _, .ty n, p, h => by simp [py] at h
  | _, _, .glo n, p, h => by simp [py] at h
  | _, _, .ins .., p, h => by simp [py] at h
  | _, _, .exc .., p, h => by simp [py] at h
  | _, _, .excF .., p, h => by simp [py] at h
  | _, _, .drw .., p, h => by simp [py] at h
  | _, _, .scr .., p, h => by simp [py] at h
theorem RpA.z : ∀ {v : List V} {d : List D}, RpA k G v d → ∀ {p : List PyData}, pys d = some p → Z.RpA k.K G v p
  | _, _, .nil, p, h => by simp only [pys, Option.some.injEq] at h; subst h; exact .nil
  | _, _, .cons e a, p, h => by
    obtain ⟨q, qs, h1, h2, rfl⟩ := pys_cons h
    exact .cons (Rp.z e h1) (RpA.z a h2)
theorem RpD.z : ∀ {v : List (Key × V)} {d : List (Ky × D)}, RpD k G v d → ∀ {p : List (PyData × PyData)}, pyd d = some p → Z.RpD k.K G v p
  | _, _, .nil, p, h => by simp only [pyd, Option.some.injEq] at h; subst h; exact .nil
  | _, _, .cons e a, p, h => by
    obtain ⟨q, qs, h1, h2, rfl⟩ := pyd_cons h
    exact .cons (Rp.z e h1) (RpD.z a h2)
end
mutual
theorem of_z : ∀ (d : D) {v : V} {p : PyData}, py d = some p → Z.Rp k.K G v p → Rp k G v d
  | .non, v, p, h, r => by simp only [py, Option.some.injEq] at h; subst h; cases r; exact .non
  | .bl b, v, p, h, r => by simp only [py, Option.some.injEq] at h; subst h; cases r; exact .bl b
  | .int b, v, p, h, r => by simp only [py, Option.some.injEq] at h; subst h; cases r; exact .int b
  | .str b, v, p, h, r => by simp only [py, Option.some.injEq] at h; subst h; cases r; exact .str b
  | .lst ds, v, p, h, r => by
    simp only [py, Option.map_eq_some_iff] at h
    obtain ⟨ps, h1, rfl⟩ := h
    cases r with | lst e a => exact .lst e (ofs_z ds h1 a)
  | .tup ds, v, p, h, r => by
    simp only [py, Option.map_eq_some_iff] at h
    obtain ⟨ps, h1, rfl⟩ := h
    cases r with | tup e a => exact .tup e (ofs_z ds h1 a)
  | .dic ds, v, p, h, r => by
    simp only [py, Option.map_eq_some_iff] at h
    obtain ⟨ps, h1, rfl⟩ := h
    cases r with | dic e a => exact .dic e (ofd_z ds h1 a)
  | .ty n, v, p, h, r => by simp [py] at h
  | .glo n, v, p, h, r => by simp [py] at h
  | .ins _ _, v, p, h, r => by simp [py] at h
  | .exc _ _, v, p, h, r => by simp [py] at h
  | .drw _, v, p, h, r => by simp [py] at h
  | .scr _, v, p, h, r => by simp [py] at h
theorem ofs_z : ∀ (d : List D) {v : List V} {p : List PyData}, pys d = some p → Z.RpA k.K G v p → RpA k G v d
  | [], v, p, h, r => by simp only [pys, Option.some.injEq] at h; subst h; cases r; exact .nil
  | d :: ds, v, p, h, r => by
    obtain ⟨q, qs, h1, h2, rfl⟩ := pys_cons h
    cases r with | cons e a => exact .cons (of_z d h1 e) (ofs_z ds h2 a)
theorem ofd_z : ∀ (d : List (Ky × D)) {v : List (Key × V)} {p : List (PyData × PyData)}, pyd d = some p → Z.RpD k.K G v p → RpD k G v d
  | [], v, p, h, r => by simp only [pyd, Option.some.injEq] at h; subst h; cases r; exact .nil
  | (q, d) :: ds, v, p, h, r => by
    obtain ⟨q', qs, h1, h2, rfl⟩ := pyd_cons h
    generalize hz : (kD (kk q), q') = z at r
    cases r with
    | cons e a =>
      simp only [Prod.mk.injEq] at hz
      obtain ⟨e1, e2⟩ := hz
      have := kD_inj e1
      subst this e2
      exact .cons (of_z d h1 e) (ofd_z ds h2 a)
end
end
end Y

namespace Y
open PySem PySem.Spec PyProof.Rows L2 Z
/-! ### no tables -/
def NoT (G : Hp) : Prop := ∀ a ps, G a ≠ some (.tbl ps)
def clean (G : Hp) : Hp := fun a => match G a with
  | some (.tbl _) => none
  | x => x
theorem clean_some {G : Hp} {a : Addr} {o : HO} (h : G a = some o) (hn : ∀ ps, o ≠ .tbl ps) : clean G a = some o := by
  unfold clean
  rw [h]
  cases o with
  | tbl ps => exact absurd rfl (hn ps)
  | _ => rfl
theorem of_clean {G : Hp} {a : Addr} {o : HO} (h : clean G a = some o) : G a = some o ∧ ∀ ps, o ≠ .tbl ps := by
  unfold clean at h
  cases q : G a with
  | none => rw [q] at h; cases h
  | some u =>
    rw [q] at h
    cases u with
    | tbl ps => cases h
    | _ => cases h; exact ⟨rfl, fun ps z => by cases z⟩
theorem clean_noT (G : Hp) : NoT (clean G) := fun a ps h => (of_clean h).2 ps rfl
theorem clean_le (G : Hp) : Le (clean G) G := fun a o h => (of_clean h).1
theorem le_clean {G G2 : Hp} (l : Le G G2) (n : NoT G) : Le G (clean G2) := fun a o h => clean_some (l a o h) fun ps z => n a ps (by rw [h, z])
section
variable {k : Kx} {G : Hp}
theorem sqt_clean {K : PySem.W.Frag} {a : Addr} {xs : List V} (h : SqT K G a xs) : SqT K (clean G) a xs := by
  rcases h with q | q
  · rcases q with q | ⟨o, q⟩
    · exact .inl (.inl (clean_some q (by intro ps z; cases z)))
    · exact .inl (.inr ⟨o, clean_some q (by intro ps z; cases z)⟩)
  · exact .inr q
theorem sql_clean {K : PySem.W.Frag} {a : Addr} {xs : List V} (h : SqL K G a xs) : SqL K (clean G) a xs := by
  rcases h with q | q
  · rcases q with q | ⟨o, q⟩
    · exact .inl (.inl (clean_some q (by intro ps z; cases z)))
    · exact .inl (.inr ⟨o, clean_some q (by intro ps z; cases z)⟩)
  · exact .inr q
mutual
theorem Rp.clean : ∀ {v : V} {d : D}, Rp k G v d → Rp k (Y.clean G) v d
  | _, _, .non => .non
  | _, _, .bl b => .bl b
  | _, _, .int i => .int i
  | _, _, .str x => .str x
  | _, _, .lst h a => .lst (clean_some h (by intro ps z; cases z)) (RpA.clean a)
  | _, _, .tup h a => .tup (sqt_clean h) (RpA.clean a)
  | _, _, .dic h a => .dic (clean_some h (by intro ps z; cases z)) (RpD.clean a)
  | _, _, .ty n => .ty n
  | _, _, .glo x => .glo x
  | _, _, .ins h g a => .ins (clean_some h (by intro ps z; cases z)) (clean_some g (by intro ps z; cases z)) (RpF.clean a)
  | _, _, .exc h => .exc (clean_some h (by intro ps z; unfold ExV at z; cases z))
  | _, _, .excF h g a n => .excF (clean_some h (by intro ps z; unfold ExV at z; cases z)) (clean_some g (by intro ps z; cases z)) (RpF.clean a) n
  | _, _, .drw h => .drw h
  | _, _, .scr h => .scr (sql_clean h)
theorem RpA.clean : ∀ {v : List V} {d : List D}, RpA k G v d → RpA k (Y.clean G) v d
  | _, _, .nil => .nil
  | _, _, .cons h a => .cons (Rp.clean h) (RpA.clean a)
theorem RpD.clean : ∀ {v : List (Key × V)} {d : List (Ky × D)}, RpD k G v d → RpD k (Y.clean G) v d
  | _, _, .nil => .nil
  | _, _, .cons h a => .cons (Rp.clean h) (RpD.clean a)
theorem RpF.clean : ∀ {v : List (Str × V)} {d : List (Str × D)}, RpF k G v d → RpF k (Y.clean G) v d
  | _, _, .nil => .nil
  | _, _, .cons h a => .cons (Rp.clean h) (RpF.clean a)
end
end
theorem in_ext {G H H2 : Hp} (i : In G H) (n : NoT G) (e : LamX.ExtN H H2) : In G H2 := fun a o h => by
  have ho : ∀ ps, o ≠ .tbl ps := fun ps z => n a ps (by rw [h, z])
  rcases i a o h with q | ⟨d, ob, q⟩
  · exact .inl (e a o q ho)
  · exact .inr ⟨d, ob, e a _ q (fun ps z => by cases z)⟩
theorem extN_le {H H2 : Hp} (l : Le H H2) : LamX.ExtN H H2 := fun b o h _ => l b o h
theorem extN_trans {H H2 H3 : Hp} (a : LamX.ExtN H H2) (b : LamX.ExtN H2 H3) : LamX.ExtN H H3 := fun x o h n => b x o (a x o h n) n
theorem tabs_le {T : List (Addr × Str)} {H H2 : Hp} (t : LamX.Tabs T H) (l : Le H H2) : LamX.Tabs T H2 := fun p hp => by
  obtain ⟨ps, e1, e2, e3⟩ := t p hp
  refine ⟨ps, l _ _ e1, e2, fun pos cv hc => ?_⟩
  obtain ⟨c, a1, a2⟩ := e3 pos cv hc
  exact ⟨c, a1, l _ _ a2⟩
/-! ### draws -/
def Drw (q : Addr × Addr × Addr) (n : Nat) (H : Hp) : Prop := ∃ (ws cs : List Int) (r t : Int), H q.1 = some (.dK (dkv q.2.1 q.2.2 r t)) ∧ H q.2.1 = some (.lst (ws.map .int)) ∧ H q.2.2 = some (.lst (cs.map .int)) ∧ q.2.2 ≠ q.2.1 ∧ (∀ x ∈ cs, 0 ≤ x ∧ x < 2147483648) ∧ 0 ≤ t ∧ t + n ≤ 1000000000000
def isDr (q : Addr × Addr × Addr) (a : Addr) : Prop := a = q.1 ∨ a = q.2.1 ∨ a = q.2.2
def inDr (dr : Dr) (a : Addr) : Prop := ∃ q ∈ dr, isDr q a
theorem Drw.there {q : Addr × Addr × Addr} {n : Nat} {H : Hp} (d : Drw q n H) {a : Addr} (h : isDr q a) : ∃ o, H a = some o ∧ ∀ ps, o ≠ .tbl ps := by
  obtain ⟨ws, cs, r, t, h1, h2, h3, _⟩ := d
  rcases h with rfl | rfl | rfl
  · exact ⟨_, h1, fun ps z => by cases z⟩
  · exact ⟨_, h2, fun ps z => by cases z⟩
  · exact ⟨_, h3, fun ps z => by cases z⟩
theorem Drw.ext {q : Addr × Addr × Addr} {n : Nat} {H H2 : Hp} (d : Drw q n H) (e : ∀ a, isDr q a → ∀ o, H a = some o → H2 a = some o) : Drw q n H2 := by
  obtain ⟨ws, cs, r, t, h1, h2, h3, h4⟩ := d
  exact ⟨ws, cs, r, t, e _ (.inl rfl) _ h1, e _ (.inr (.inl rfl)) _ h2, e _ (.inr (.inr rfl)) _ h3, h4⟩
theorem Drw.mono {q : Addr × Addr × Addr} {n n' : Nat} {H : Hp} (d : Drw q n H) (h : n' ≤ n) : Drw q n' H := by
  obtain ⟨ws, cs, r, t, h1, h2, h3, h4, h5, h6, h7⟩ := d
  exact ⟨ws, cs, r, t, h1, h2, h3, h4, h5, h6, by omega⟩
/-! ### states -/
/-- a locked thing -/
def isFrz : HO → Bool
  | .frz _ _ => true
  | _ => false
abbrev Env := List (Option (Bool × D))
inductive RpO (k : Kx) (G : Hp) : HO → D → Prop
  | lst {xs : List V} {ds : List D} : RpA k G xs ds → RpO k G (.lst xs) (.lst ds)
  | dic {kvs : List (Key × V)} {ds : List (Ky × D)} : RpD k G kvs ds → RpO k G (.dK kvs) (.dic ds)
theorem RpO.mono {k : Kx} {G G' : Hp} {o : HO} {d : D} (l : Le G G') (r : RpO k G o d) : RpO k G' o d := by
  cases r with
  | lst a => exact .lst (a.mono l)
  | dic a => exact .dic (a.mono l)
theorem RpO.nt {k : Kx} {G : Hp} {o : HO} {d : D} (r : RpO k G o d) : ∀ ps, o ≠ .tbl ps := by
  cases r <;> intro ps z <;> cases z
theorem RpO.nf {k : Kx} {G : Hp} {o : HO} {d : D} (r : RpO k G o d) : isFrz o = false := by
  cases r <;> rfl
theorem RpO.rp {k : Kx} {G : Hp} {o : HO} {d : D} {a : Addr} (r : RpO k G o d) (h : G a = some o) : Rp k G (.ref a) d := by
  cases r with
  | lst b => exact .lst h b
  | dic b => exact .dic h b
/-- a stands apart from what is shown, kept, drawn -/
structure Hid (R : Hp) (dr : Dr) (G : Hp) (a : Addr) : Prop where
  g : G a = none
  r : R a = none
  d : ¬ inDr dr a
/-- an object of ours alone -/
def Ow (k : Kx) (R : Hp) (dr : Dr) (G H : Hp) (a : Addr) (d : D) : Prop := ∃ o, H a = some o ∧ RpO k G o d ∧ Hid R dr G a
structure Rl (k : Kx) (R : Hp) (dr : Dr) (env : Env) (σ : L2.St) (G H : Hp) (n : Nat) : Prop where
  i : In G H
  nt : NoT G
  tb : LamX.Tabs k.T H
  dd : ∀ q ∈ dr, Drw q n H
  dh : ∀ a, inDr dr a → G a = none
  dj : dr.Pairwise fun q q' => ∀ a, isDr q a → ¬ isDr q' a
  rs : ∀ a o, R a = some o → H a = some o ∧ (isFrz o = false → G a = none) ∧ ¬ inDr dr a ∧ ∀ ps, o ≠ .tbl ps
  sh : ∀ (i : Nat) d, env[i]? = some (some (false, d)) → ∃ v, σ[i]? = some (some v) ∧ Rp k G v d
  ow : ∀ (i : Nat) d, env[i]? = some (some (true, d)) → ∃ a, σ[i]? = some (some (.ref a)) ∧ Ow k R dr G H a d
  inj : ∀ (i j : Nat) a d d', env[i]? = some (some (true, d)) → env[j]? = some (some (true, d')) → σ[i]? = some (some (.ref a)) → σ[j]? = some (some (.ref a)) → i = j
  len : env.length ≤ σ.length
  nb : n ≤ 1000000000000
/-- not one of the slots' own -/
def Apart (env : Env) (σ : L2.St) (a : Addr) : Prop := ∀ (i : Nat) d, env[i]? = some (some (true, d)) → σ[i]? ≠ some (some (.ref a))
inductive Md where
  | s | o | v (i : Nat)
abbrev Vl := Md × D
/-- what a value of a mode is -/
def RV (k : Kx) (R : Hp) (dr : Dr) (env : Env) (σ : L2.St) (G H : Hp) (x : V) : Vl → Prop
  | (.s, d) => Rp k G x d
  | (.o, d) => ∃ a, x = .ref a ∧ Ow k R dr G H a d ∧ Apart env σ a
  | (.v i, d) => σ[i]? = some (some x) ∧ env[i]? = some (some (true, d))
section
variable {k : Kx} {R : Hp} {dr dr' : Dr} {env env1 : Env} {σ σ1 : L2.St} {G G2 H H2 : Hp} {n n' : Nat}
theorem Rl.hne (r : Rl k R dr env σ G H n) {a : Addr} (h : inDr dr a) : ∃ o, H a = some o ∧ ∀ ps, o ≠ .tbl ps := by
  obtain ⟨q, hq, hd⟩ := h
  exact (r.dd q hq).there hd
theorem Rl.ext (r : Rl k R dr env σ G H n) (g : Le G G2) (i : In G2 H2) (e : LamX.ExtN H H2) (nt : NoT G2) (tb : LamX.Tabs k.T H2) (hn : ∀ a o, G2 a = some o → G a = some o ∨ H a = none) : Rl k R dr env σ G2 H2 n := by
  have hid : ∀ a o, H a = some o → G a = none → G2 a = none := fun a o h hg => by
    cases q : G2 a with
    | none => rfl
    | some u =>
      rcases hn a u q with z | z
      · rw [hg] at z; cases z
      · rw [h] at z; cases z
  refine ⟨i, nt, tb, fun q hq => (r.dd q hq).ext fun a ha o ho => ?_, fun a ha => ?_, r.dj, fun a o h => ?_, fun i d h => ?_, fun i d h => ?_, r.inj, r.len, r.nb⟩
  · obtain ⟨o', e1, e2⟩ := (r.dd q hq).there ha
    rw [ho] at e1; cases e1
    exact e a o ho e2
  · obtain ⟨o, e1, _⟩ := r.hne ha
    exact hid a o e1 (r.dh a ha)
  · obtain ⟨h1, h2, h3, h4⟩ := r.rs a o h
    exact ⟨e a o h1 h4, fun z => hid a o h1 (h2 z), h3, h4⟩
  · obtain ⟨v, h1, h2⟩ := r.sh i d h
    exact ⟨v, h1, h2.mono g⟩
  · obtain ⟨a, h1, o, h2, h3, h4⟩ := r.ow i d h
    exact ⟨a, h1, o, e a o h2 h3.nt, h3.mono g, hid a o h2 h4.g, h4.r, h4.d⟩
/-- a step that lays new things alone -/
theorem Rl.up (r : Rl k R dr env σ G H n) (u : Up G H G2 H2) : Rl k R dr env σ (clean G2) H2 n ∧ Le G (clean G2) :=
  ⟨r.ext (le_clean u.g r.nt) (u.i.le (clean_le G2)) (extN_le u.h) (clean_noT G2) (tabs_le r.tb u.h) fun a o h => u.n a o (of_clean h).1, le_clean u.g r.nt⟩
/-- a step at which nothing is shown -/
theorem Rl.keep (r : Rl k R dr env σ G H n) (e : LamX.ExtN H H2) (tb : LamX.Tabs k.T H2) : Rl k R dr env σ G H2 n := r.ext (Le.refl _) (in_ext r.i r.nt e) e r.nt tb fun _ _ h => .inl h
theorem le_upd {p : Addr} {o : HO} (hp : H p = none) : Le H (upd H p o) := fun a u e => by
  rw [upd_ne (fun z => by rw [z, hp] at e; cases e)]; exact e
theorem Rl.new {p : Addr} {o : HO} (r : Rl k R dr env σ G H n) (hp : H p = none) : Rl k R dr env σ G (upd H p o) n := r.keep (extN_le (le_upd hp)) (tabs_le r.tb (le_upd hp))
theorem Rl.no (r : Rl k R dr env σ G H n) {p : Addr} (hp : H p = none) : Hid R dr G p ∧ Apart env σ p := by
  refine ⟨⟨r.i.no hp, ?_, fun z => ?_⟩, fun i d h z => ?_⟩
  · cases q : R p with
    | none => rfl
    | some o => have := (r.rs p o q).1; rw [hp] at this; cases this
  · obtain ⟨o, e, _⟩ := r.hne z
    rw [hp] at e; cases e
  · obtain ⟨a, h1, o, h2, _⟩ := r.ow i d h
    rw [z] at h1; cases h1
    rw [hp] at h2; cases h2
theorem Rl.newO {p : Addr} {o : HO} {d : D} (r : Rl k R dr env σ G H n) (hp : H p = none) (ro : RpO k G o d) : Ow k R dr G (upd H p o) p d ∧ Apart env σ p :=
  ⟨⟨o, upd_same, ro, (r.no hp).1⟩, (r.no hp).2⟩
/-- an object of ours is shown -/
theorem Rl.show {a : Addr} {d : D} (r : Rl k R dr env σ G H n) (w : Ow k R dr G H a d) (ap : Apart env σ a) : ∃ o, H a = some o ∧ Rl k R dr env σ (upd G a o) H n ∧ Le G (upd G a o) ∧ Rp k (upd G a o) (.ref a) d := by
  obtain ⟨o, h1, h2, h3⟩ := w
  have lg : Le G (upd G a o) := le_upd h3.g
  refine ⟨o, h1, ⟨fun b u e => ?_, fun b ps e => ?_, r.tb, r.dd, fun b hb => ?_, r.dj, fun b u e => ?_, fun i d' e => ?_, fun i d' e => ?_, r.inj, r.len, r.nb⟩, lg, (h2.mono lg).rp upd_same⟩
  · by_cases hb : b = a
    · subst hb; rw [upd_same] at e; cases e; exact .inl h1
    · rw [upd_ne hb] at e; exact r.i b u e
  · by_cases hb : b = a
    · subst hb; rw [upd_same] at e; exact h2.nt ps (Option.some.inj e)
    · rw [upd_ne hb] at e; exact r.nt b ps e
  · rw [upd_ne (fun (z : b = a) => h3.d (by rw [← z]; exact hb))]; exact r.dh b hb
  · obtain ⟨e1, e2, e3, e4⟩ := r.rs b u e
    exact ⟨e1, fun z => by rw [upd_ne (fun z => by rw [z, h3.r] at e; cases e)]; exact e2 z, e3, e4⟩
  · obtain ⟨v, e1, e2⟩ := r.sh i d' e
    exact ⟨v, e1, e2.mono lg⟩
  · obtain ⟨b, e1, u, e2, e3, e4⟩ := r.ow i d' e
    exact ⟨b, e1, u, e2, e3.mono lg, by rw [upd_ne (fun (z : b = a) => ap i d' e (by rw [← z]; exact e1))]; exact e4.g, e4.r, e4.d⟩
/-- one more is kept -/
theorem Rl.res {a : Addr} {o : HO} (r : Rl k R dr env σ G H n) (h1 : H a = some o) (nt : ∀ ps, o ≠ .tbl ps) (h3 : Hid R dr G a) (ap : Apart env σ a) : Rl k (upd R a o) dr env σ G H n := by
  refine ⟨r.i, r.nt, r.tb, r.dd, r.dh, r.dj, fun b u e => ?_, r.sh, fun i d' e => ?_, r.inj, r.len, r.nb⟩
  · by_cases hb : b = a
    · subst hb; rw [upd_same] at e; cases e; exact ⟨h1, fun _ => h3.g, h3.d, nt⟩
    · rw [upd_ne hb] at e; exact r.rs b u e
  · obtain ⟨b, e1, u, e2, e3, e4⟩ := r.ow i d' e
    exact ⟨b, e1, u, e2, e3, e4.g, by rw [upd_ne (fun (z : b = a) => ap i d' e (by rw [← z]; exact e1))]; exact e4.r, e4.d⟩
theorem Rl.unres {a : Addr} {o : HO} (r : Rl k (upd R a o) dr env σ G H n) (h : R a = none) (nf : isFrz o = false) : Rl k R dr env σ G H n ∧ H a = some o ∧ Hid R dr G a ∧ Apart env σ a := by
  have le : Le R (upd R a o) := le_upd h
  obtain ⟨h1, h2, h3, h4⟩ := r.rs a o upd_same
  have ne : ∀ b, upd R a o b = none → b ≠ a ∧ R b = none := fun b e => by
    have nb : b ≠ a := fun z => by rw [z, upd_same] at e; cases e
    rw [upd_ne nb] at e; exact ⟨nb, e⟩
  refine ⟨⟨r.i, r.nt, r.tb, r.dd, r.dh, r.dj, fun b u e => r.rs b u (le b u e), r.sh, fun i d' e => ?_, r.inj, r.len, r.nb⟩, h1, ⟨h2 nf, h, h3⟩, fun i d e z => ?_⟩
  · obtain ⟨b, e1, u, e2, e3, e4⟩ := r.ow i d' e
    exact ⟨b, e1, u, e2, e3, e4.g, (ne b e4.r).2, e4.d⟩
  · obtain ⟨b, e1, u, e2, e3, e4⟩ := r.ow i d e
    rw [e1] at z; cases z
    exact (ne a e4.r).1 rfl
/-- all of ours is kept, for a callee -/
theorem Rl.out (r : Rl k R dr env σ G H n) : ∃ R', Rl k R' dr [] [] G H n ∧ (∀ a, R' a = none → R a = none ∧ Apart env σ a) ∧ ∀ dr' G2 H2 n', Le G G2 → Rl k R' dr' [] [] G2 H2 n' → Rl k R dr' env σ G2 H2 n' := by
  have cl : ∀ a, Decidable (Apart env σ a) := fun a => Classical.propDecidable _
  let R' : Hp := fun a => if Apart env σ a then R a else H a
  have e1 : ∀ a, Apart env σ a → R' a = R a := fun a h => if_pos h
  have e2 : ∀ a, ¬ Apart env σ a → R' a = H a := fun a h => if_neg h
  have nap : ∀ a, ¬ Apart env σ a → ∃ (i : Nat) (d : D), env[i]? = some (some (true, d)) ∧ σ[i]? = some (some (.ref a)) := fun a h => by
    apply Classical.byContradiction
    intro q
    exact h fun i d e1 e2 => q ⟨i, d, e1, e2⟩
  have ow : ∀ a, ¬ Apart env σ a → ∃ d, Ow k R dr G H a d := fun a h => by
    obtain ⟨i, d, f1, f2⟩ := nap a h
    obtain ⟨b, g1, g2⟩ := r.ow i d f1
    rw [f2] at g1; cases g1
    exact ⟨d, g2⟩
  refine ⟨R', ⟨r.i, r.nt, r.tb, r.dd, r.dh, r.dj, fun a o h => ?_, fun i d h => by simp at h, fun i d h => by simp at h, fun i j a d d' h => by simp at h, Nat.le_refl _, r.nb⟩, fun a h => ?_, fun dr' G2 H2 n' l q => ?_⟩
  · by_cases ha : Apart env σ a
    · rw [e1 a ha] at h; exact r.rs a o h
    · rw [e2 a ha] at h
      obtain ⟨d, u, f1, f2, f3⟩ := ow a ha
      rw [h] at f1; cases f1
      exact ⟨h, fun _ => f3.g, f3.d, f2.nt⟩
  · by_cases ha : Apart env σ a
    · rw [e1 a ha] at h; exact ⟨h, ha⟩
    · rw [e2 a ha] at h
      obtain ⟨d, u, f1, _⟩ := ow a ha
      rw [h] at f1; cases f1
  · have own' : ∀ (i : Nat) d a, env[i]? = some (some (true, d)) → σ[i]? = some (some (.ref a)) → ¬ Apart env σ a := fun i d a f1 f2 z => z i d f1 f2
    refine ⟨q.i, q.nt, q.tb, q.dd, q.dh, q.dj, fun a o h => ?_, fun i d h => ?_, fun i d h => ?_, r.inj, r.len, q.nb⟩
    · have ha : Apart env σ a := fun i d f1 f2 => by
        obtain ⟨b, g1, u, g2, g3, g4⟩ := r.ow i d f1
        rw [f2] at g1; cases g1
        rw [g4.r] at h; cases h
      exact q.rs a o (by rw [e1 a ha]; exact h)
    · obtain ⟨v, f1, f2⟩ := r.sh i d h
      exact ⟨v, f1, f2.mono l⟩
    · obtain ⟨a, f1, o, f2, f3, f4⟩ := r.ow i d h
      obtain ⟨g1, g2, g3, g4⟩ := q.rs a o (by rw [e2 a (own' i d a h f1)]; exact f2)
      exact ⟨a, f1, o, g1, f3.mono l, g2 f3.nf, f4.r, g3⟩
/-- the slots of before, where ours are the same -/
theorem Rl.back (r : Rl k R dr env σ G H n) (q : Rl k R dr' env1 σ1 G2 H2 n') (l : Le G G2) (ag : ∀ (i : Nat) d, env[i]? = some (some (true, d)) → env1[i]? = some (some (true, d)) ∧ σ1[i]? = σ[i]?) : Rl k R dr' env σ G2 H2 n' := by
  refine ⟨q.i, q.nt, q.tb, q.dd, q.dh, q.dj, q.rs, fun i d h => ?_, fun i d h => ?_, r.inj, r.len, q.nb⟩
  · obtain ⟨v, f1, f2⟩ := r.sh i d h
    exact ⟨v, f1, f2.mono l⟩
  · obtain ⟨h1, h2⟩ := ag i d h
    obtain ⟨a, f1, f2⟩ := q.ow i d h1
    exact ⟨a, by rw [← h2]; exact f1, f2⟩
/-- no slots -/
theorem Rl.bare (r : Rl k R dr env σ G H n) : Rl k R dr [] [] G H n := ⟨r.i, r.nt, r.tb, r.dd, r.dh, r.dj, r.rs, fun i d h => by simp at h, fun i d h => by simp at h, fun i j a d d' h => by simp at h, Nat.le_refl _, r.nb⟩
theorem Rl.less (r : Rl k R dr env σ G H n) (h : n' ≤ n) : Rl k R dr env σ G H n' := ⟨r.i, r.nt, r.tb, fun q hq => (r.dd q hq).mono h, r.dh, r.dj, r.rs, r.sh, r.ow, r.inj, r.len, Nat.le_trans h r.nb⟩
/-- a slot is stored -/
theorem set_get {α : Type} {l : List α} {i j : Nat} {x y : α} (h : (l.set i x)[j]? = some y) : (i = j ∧ x = y ∧ j < l.length) ∨ (i ≠ j ∧ l[j]? = some y) := by
  by_cases e : i = j
  · subst e
    have hl : i < l.length := by
      have := (List.getElem?_eq_some_iff.mp h).1
      simpa using this
    rw [List.getElem?_set_self hl] at h
    exact .inl ⟨rfl, Option.some.inj h, hl⟩
  · rw [List.getElem?_set_ne e] at h
    exact .inr ⟨e, h⟩
theorem Rl.set (r : Rl k R dr env σ G H n) {i : Nat} {v : V} {d : D} (h : Rp k G v d) : Rl k R dr (env.set i (some (false, d))) (σ.set i (some v)) G H n := by
  refine ⟨r.i, r.nt, r.tb, r.dd, r.dh, r.dj, r.rs, fun j e q => ?_, fun j e q => ?_, fun j1 j2 a d1 d2 q1 q2 f1 f2 => ?_, by simp only [List.length_set]; exact r.len, r.nb⟩
  · rcases set_get q with ⟨e1, e2, e3⟩ | ⟨e1, e2⟩
    · cases e2; subst e1
      exact ⟨v, List.getElem?_set_self (Nat.lt_of_lt_of_le e3 r.len), h⟩
    · rw [List.getElem?_set_ne e1]; exact r.sh j e e2
  · rcases set_get q with ⟨e1, e2, e3⟩ | ⟨e1, e2⟩
    · cases e2
    · rw [List.getElem?_set_ne e1]; exact r.ow j e e2
  · rcases set_get q1 with ⟨e1, e2, e3⟩ | ⟨e1, e2⟩
    · cases e2
    rcases set_get q2 with ⟨g1, g2, g3⟩ | ⟨g1, g2⟩
    · cases g2
    rw [List.getElem?_set_ne e1] at f1
    rw [List.getElem?_set_ne g1] at f2
    exact r.inj j1 j2 a d1 d2 e2 g2 f1 f2
theorem Rl.setO (r : Rl k R dr env σ G H n) {i : Nat} {a : Addr} {d : D} (h : Ow k R dr G H a d) (ap : Apart env σ a) : Rl k R dr (env.set i (some (true, d))) (σ.set i (some (.ref a))) G H n := by
  refine ⟨r.i, r.nt, r.tb, r.dd, r.dh, r.dj, r.rs, fun j e q => ?_, fun j e q => ?_, fun j1 j2 b d1 d2 q1 q2 f1 f2 => ?_, by simp only [List.length_set]; exact r.len, r.nb⟩
  · rcases set_get q with ⟨e1, e2, e3⟩ | ⟨e1, e2⟩
    · cases e2
    · rw [List.getElem?_set_ne e1]; exact r.sh j e e2
  · rcases set_get q with ⟨e1, e2, e3⟩ | ⟨e1, e2⟩
    · cases e2; subst e1
      exact ⟨a, List.getElem?_set_self (Nat.lt_of_lt_of_le e3 r.len), h⟩
    · rw [List.getElem?_set_ne e1]; exact r.ow j e e2
  · rcases set_get q1 with ⟨e1, e2, e3⟩ | ⟨e1, e2⟩
    · rcases set_get q2 with ⟨g1, g2, g3⟩ | ⟨g1, g2⟩
      · rw [← e1, ← g1]
      · rw [List.getElem?_set_ne g1] at f2
        subst e1
        rw [List.getElem?_set_self (Nat.lt_of_lt_of_le e3 r.len)] at f1
        cases f1
        exact absurd f2 (ap j2 d2 g2)
    · rcases set_get q2 with ⟨g1, g2, g3⟩ | ⟨g1, g2⟩
      · rw [List.getElem?_set_ne e1] at f1
        subst g1
        rw [List.getElem?_set_self (Nat.lt_of_lt_of_le g3 r.len)] at f2
        cases f2
        exact absurd f1 (ap j1 d1 e2)
      · rw [List.getElem?_set_ne e1] at f1
        rw [List.getElem?_set_ne g1] at f2
        exact r.inj j1 j2 b d1 d2 e2 g2 f1 f2
/-- a slot is forgotten (or its store is) -/
theorem Rl.drop (r : Rl k R dr env σ G H n) {i : Nat} {v : Option V} : Rl k R dr (env.set i none) (σ.set i v) G H n := by
  refine ⟨r.i, r.nt, r.tb, r.dd, r.dh, r.dj, r.rs, fun j e q => ?_, fun j e q => ?_, fun j1 j2 b d1 d2 q1 q2 f1 f2 => ?_, by simp only [List.length_set]; exact r.len, r.nb⟩
  · rcases set_get q with ⟨e1, e2, e3⟩ | ⟨e1, e2⟩
    · cases e2
    · rw [List.getElem?_set_ne e1]; exact r.sh j e e2
  · rcases set_get q with ⟨e1, e2, e3⟩ | ⟨e1, e2⟩
    · cases e2
    · rw [List.getElem?_set_ne e1]; exact r.ow j e e2
  · rcases set_get q1 with ⟨e1, e2, e3⟩ | ⟨e1, e2⟩
    · cases e2
    rcases set_get q2 with ⟨g1, g2, g3⟩ | ⟨g1, g2⟩
    · cases g2
    rw [List.getElem?_set_ne e1] at f1
    rw [List.getElem?_set_ne g1] at f2
    exact r.inj j1 j2 b d1 d2 e2 g2 f1 f2
/-- a slot's own object is shown -/
theorem Rl.freeze (r : Rl k R dr env σ G H n) {i : Nat} {d : D} (h : env[i]? = some (some (true, d))) : ∃ G2, Le G G2 ∧ Rl k R dr (env.set i (some (false, d))) σ G2 H n := by
  obtain ⟨a, h1, h2⟩ := r.ow i d h
  have hs : (σ.set i none).set i (some (.ref a)) = σ := by
    rw [List.set_set]
    apply List.ext_getElem?
    intro j
    by_cases e : i = j
    · subst e
      have hl : i < σ.length := (List.getElem?_eq_some_iff.mp h1).1
      rw [List.getElem?_set_self hl, h1]
    · rw [List.getElem?_set_ne e]
  have r1 := r.drop (i := i) (v := none)
  have ap : Apart (env.set i none) (σ.set i none) a := fun j d' q z => by
    rcases set_get q with ⟨e1, e2, e3⟩ | ⟨e1, e2⟩
    · cases e2
    · rw [List.getElem?_set_ne e1] at z
      exact e1 (r.inj i j a d d' h e2 h1 z)
  obtain ⟨o, _, r2, l2, p2⟩ := r1.show h2 ap
  refine ⟨_, l2, ?_⟩
  have r3 := r2.set (i := i) p2
  rw [List.set_set, hs] at r3
  exact r3
/-- a slot's own object is changed -/
theorem Rl.chg (r : Rl k R dr env σ G H n) {i : Nat} {a : Addr} {d d' : D} {o : HO} (h : env[i]? = some (some (true, d))) (h1 : σ[i]? = some (some (.ref a))) (ro : RpO k G o d') : Rl k R dr (env.set i (some (true, d'))) σ G (upd H a o) n := by
  obtain ⟨b, e1, u, e2, e3, e4⟩ := r.ow i d h
  rw [h1] at e1; cases e1
  have hl : i < env.length := (List.getElem?_eq_some_iff.mp h).1
  refine ⟨r.i.mut e4.g, r.nt, fun p hp => ?_, fun q hq => (r.dd q hq).ext fun b hb o' ho' => ?_, r.dh, r.dj, fun b u' hb => ?_, fun j e q => ?_, fun j e q => ?_, fun j1 j2 b d1 d2 q1 q2 f1 f2 => ?_, by simp only [List.length_set]; exact r.len, r.nb⟩
  · obtain ⟨ps, t1, t2, t3⟩ := r.tb p hp
    have n1 : p.1 ≠ a := fun z => by rw [z, e2] at t1; cases t1; exact e3.nt ps rfl
    refine ⟨ps, by rw [upd_ne n1]; exact t1, t2, fun pos cv hc => ?_⟩
    obtain ⟨c, a1, a2⟩ := t3 pos cv hc
    have n2 : c ≠ a := fun z => by
      rw [z, e2] at a2
      cases e3 <;> cases a2
    exact ⟨c, a1, by rw [upd_ne n2]; exact a2⟩
  · rw [upd_ne (fun (z : b = a) => e4.d ⟨q, hq, by rw [← z]; exact hb⟩)]; exact ho'
  · obtain ⟨g1, g2, g3, g4⟩ := r.rs b u' hb
    exact ⟨by rw [upd_ne (fun z => by rw [z, e4.r] at hb; cases hb)]; exact g1, g2, g3, g4⟩
  · rcases set_get q with ⟨f1, f2, f3⟩ | ⟨f1, f2⟩
    · cases f2
    · exact r.sh j e f2
  · rcases set_get q with ⟨f1, f2, f3⟩ | ⟨f1, f2⟩
    · cases f2; subst f1
      exact ⟨a, h1, o, upd_same, ro, e4⟩
    · obtain ⟨b, g1, u2, g2, g3, g4⟩ := r.ow j e f2
      have nb : b ≠ a := fun z => f1 (r.inj i j a d e h f2 h1 (by rw [← z]; exact g1))
      exact ⟨b, g1, u2, by rw [upd_ne nb]; exact g2, g3, g4⟩
  · rcases set_get q1 with ⟨x1, x2, x3⟩ | ⟨x1, x2⟩
    · rcases set_get q2 with ⟨y1, y2, y3⟩ | ⟨y1, y2⟩
      · rw [← x1, ← y1]
      · subst x1; exact r.inj i j2 b d d2 h y2 f1 f2
    · rcases set_get q2 with ⟨y1, y2, y3⟩ | ⟨y1, y2⟩
      · subst y1; exact r.inj j1 i b d1 d x2 h f1 f2
      · exact r.inj j1 j2 b d1 d2 x2 y2 f1 f2
/-- less is kept -/
theorem Rl.sub {R' : Hp} (l : Le R R') (r : Rl k R' dr env σ G H n) : Rl k R dr env σ G H n :=
  ⟨r.i, r.nt, r.tb, r.dd, r.dh, r.dj, fun b u e => r.rs b u (l b u e), r.sh, fun i d e => by
    obtain ⟨b, e1, u, e2, e3, e4⟩ := r.ow i d e
    exact ⟨b, e1, u, e2, e3, e4.g, l.no e4.r, e4.d⟩, r.inj, r.len, r.nb⟩
theorem Ow.sub {R' : Hp} {a : Addr} {d : D} (l : Le R R') (w : Ow k R' dr G H a d) : Ow k R dr G H a d := by
  obtain ⟨o, h1, h2, h3⟩ := w
  exact ⟨o, h1, h2, h3.g, l.no h3.r, h3.d⟩
theorem RV.sub {R' : Hp} (l : Le R R') {x : V} {v : Vl} (w : RV k R' dr env σ G H x v) : RV k R dr env σ G H x v := by
  obtain ⟨m, d⟩ := v
  cases m with
  | s => exact w
  | o => obtain ⟨a, e, h1, h2⟩ := w; exact ⟨a, e, h1.sub l, h2⟩
  | v i => exact w
/-- a dict that is shown is locked, and pinned -/
theorem Rl.lock {d : Addr} {kvs : List (Key × V)} {ob : Obj} (r : Rl k R dr env σ G H n) (hg : G d = some (.dK kvs)) (hh : H d = some (.dK kvs)) : Rl k (upd R d (.frz ob (.dK kvs))) dr env σ G (upd H d (.frz ob (.dK kvs))) n ∧ Le R (upd R d (.frz ob (.dK kvs))) := by
  have nd : ¬ inDr dr d := fun z => by rw [r.dh d z] at hg; cases hg
  have nR : R d = none := by
    cases q : R d with
    | none => rfl
    | some o =>
      obtain ⟨e1, e2, _⟩ := r.rs d o q
      rw [hh] at e1; cases e1
      rw [e2 rfl] at hg; cases hg
  have lr : Le R (upd R d (.frz ob (.dK kvs))) := le_upd nR
  refine ⟨⟨fun a o e => ?_, r.nt, fun p hp => ?_, fun q hq => (r.dd q hq).ext fun b hb u hu => ?_, r.dh, r.dj, fun b u e => ?_, r.sh, fun i d' e => ?_, r.inj, r.len, r.nb⟩, lr⟩
  · by_cases ha : a = d
    · subst ha; rw [hg] at e; cases e
      exact .inr ⟨rfl, ob, upd_same⟩
    · rw [upd_ne ha]; exact r.i a o e
  · obtain ⟨ps, t1, t2, t3⟩ := r.tb p hp
    have n1 : p.1 ≠ d := fun z => by rw [z, hh] at t1; cases t1
    refine ⟨ps, by rw [upd_ne n1]; exact t1, t2, fun pos cv hc => ?_⟩
    obtain ⟨c, a1, a2⟩ := t3 pos cv hc
    have n2 : c ≠ d := fun z => by rw [z, hh] at a2; unfold LamX.CodeO at a2; cases a2
    exact ⟨c, a1, by rw [upd_ne n2]; exact a2⟩
  · rw [upd_ne (fun (z : b = d) => nd ⟨q, hq, by rw [← z]; exact hb⟩)]; exact hu
  · by_cases hb : b = d
    · subst hb; rw [upd_same] at e; cases e
      exact ⟨upd_same, fun z => (by cases z), nd, fun ps z => (by cases z)⟩
    · rw [upd_ne hb] at e
      obtain ⟨e1, e2, e3, e4⟩ := r.rs b u e
      exact ⟨by rw [upd_ne hb]; exact e1, e2, e3, e4⟩
  · obtain ⟨b, e1, u, e2, e3, e4⟩ := r.ow i d' e
    have nb : b ≠ d := fun z => by rw [z] at e4; rw [e4.g] at hg; cases hg
    exact ⟨b, e1, u, by rw [upd_ne nb]; exact e2, e3, e4.g, by rw [upd_ne nb]; exact e4.r, e4.d⟩
end
end Y

namespace Y
open PySem PySem.Spec PyProof.Rows L2 Z
/-! ### judgements -/
def XdOk (k : Kx) (G : Hp) : Option Addr → List (Str × D) → Prop
  | none, fs => fs = []
  | some b, fs => fs ≠ [] ∧ ∃ fv, G b = some (.xd fv) ∧ RpF k G fv fs
def XP (k : Kx) (R : Hp) (G : Hp) (E : XK) : Dr → Nat → Ex → Prop := fun dr n' x => ∀ dd G2 H2, Le G G2 → Rl k R dr [] [] G2 H2 n' → XdOk k G2 dd x.fs → E (.ref (k.ca x.C)) dd H2
theorem XP.mono {k : Kx} {R : Hp} {dr : Dr} {G G2 : Hp} {E : XK} {n : Nat} {x : Ex} (l : Le G G2) (h : XP k R G E dr n x) : XP k R G2 E dr n x := fun dd G3 H3 l3 r q => h dd G3 H3 (l.trans l3) r q
theorem XP.sub {k : Kx} {R R' : Hp} {dr : Dr} {G : Hp} {E : XK} {n : Nat} {x : Ex} (l : Le R R') (h : XP k R G E dr n x) : XP k R' G E dr n x := fun dd G3 H3 l3 r q => h dd G3 H3 l3 (r.sub l) q
def SE (k : Kx) (E : XK) (t : TE) (f : Env → M Vl) : Prop := ∀ R dr env σ G H n Q, Rl k R dr env σ G H n →
  wp dr n (f env) (fun dr n' r => ∀ x G2 H2, Le G G2 → Rl k R dr env σ G2 H2 n' → RV k R dr env σ G2 H2 x r → Q x H2) (XP k R G E) → t σ H Q
def ST (k : Kx) (E : XK) (t : TT) (f : Env → M Bool) : Prop := ∀ R dr env σ G H n Q, Rl k R dr env σ G H n →
  wp dr n (f env) (fun dr n' b => ∀ G2 H2, Le G G2 → Rl k R dr env σ G2 H2 n' → Q b H2) (XP k R G E) → t σ H Q
/-- settled: shown, or a slot's own -/
def RS (k : Kx) (env : Env) (σ : L2.St) (G : Hp) (x : V) : Vl → Prop
  | (.s, d) => Rp k G x d
  | (.o, d) => Rp k G x d
  | (.v i, d) => σ[i]? = some (some x) ∧ env[i]? = some (some (true, d))
inductive RSs (k : Kx) (env : Env) (σ : L2.St) (G : Hp) : List V → List Vl → Prop
  | nil : RSs k env σ G [] []
  | cons {x : V} {xs : List V} {r : Vl} {rs : List Vl} : RS k env σ G x r → RSs k env σ G xs rs → RSs k env σ G (x :: xs) (r :: rs)
def SA (k : Kx) (E : XK) (t : TA) (f : Env → M (List Vl)) : Prop := ∀ R dr env σ G H n Q, Rl k R dr env σ G H n →
  wp dr n (f env) (fun dr n' r => ∀ xs G2 H2, Le G G2 → Rl k R dr env σ G2 H2 n' → RSs k env σ G2 xs r → Q xs H2) (XP k R G E) → t σ H Q
def isV : Vl → Bool
  | (.v _, _) => true
  | _ => false
def scal : D → Bool
  | .non => true | .bl _ => true | .int _ => true | .str _ => true | .ty _ => true | .glo _ => true
  | _ => false
section
variable {k : Kx} {E : XK} {R : Hp} {dr : Dr} {env : Env} {σ : L2.St} {G G2 H H2 : Hp} {n n' : Nat} {Q : VK} {te ta tb tc : TE} {f fa fb fc : Env → M Vl} {t u : TT} {ft fu : Env → M Bool}
theorem rp_scal {v : V} {d : D} {G' : Hp} (h : scal d = true) (r : Rp k G v d) : Rp k G' v d := by
  cases r <;> first
    | (simp [scal] at h; done)
    | constructor
theorem RS.mono (l : Le G G2) {x : V} {r : Vl} (h : RS k env σ G x r) : RS k env σ G2 x r := by
  obtain ⟨m, d⟩ := r
  cases m with
  | s => exact Rp.mono l h
  | o => exact Rp.mono l h
  | v i => exact h
theorem RSs.mono (l : Le G G2) : ∀ {x : List V} {r : List Vl}, RSs k env σ G x r → RSs k env σ G2 x r
  | _, _, .nil => .nil
  | _, _, .cons h a => .cons (h.mono l) (RSs.mono l a)
theorem settle (r : Rl k R dr env σ G H n) {x : V} {v : Vl} (h : RV k R dr env σ G H x v) : ∃ G2, Le G G2 ∧ Rl k R dr env σ G2 H n ∧ RS k env σ G2 x v := by
  obtain ⟨m, d⟩ := v
  cases m with
  | s => exact ⟨G, Le.refl _, r, h⟩
  | o =>
    obtain ⟨a, rfl, h1, h2⟩ := h
    obtain ⟨o, _, r2, l2, p2⟩ := r.show h1 h2
    exact ⟨_, l2, r2, p2⟩
  | v i => exact ⟨G, Le.refl _, r, h⟩
/-- an expression, its value settled -/
theorem SE.run (h : SE k E te f) (r : Rl k R dr env σ G H n) {P : Dr → Nat → Vl → Prop} {X : Dr → Nat → Ex → Prop} (w : wp dr n (f env) P X) (he : ∀ d n x, X d n x → XP k R G E d n x) (hq : ∀ dr n' v x G2 H2, P dr n' v → Le G G2 → Rl k R dr env σ G2 H2 n' → RS k env σ G2 x v → Q x H2) : te σ H Q := by
  refine h R dr env σ G H n Q r (wp_mono w (fun dr n' v p x G2 H2 l r2 q => ?_) he)
  obtain ⟨G3, l3, r3, s3⟩ := settle r2 q
  exact hq dr n' v x G3 H2 p (l.trans l3) r3 s3
/-- all of ours is looked at for a while -/
theorem Rl.reveal (r : Rl k R dr env σ G H n) : ∃ G', Le G G' ∧ In G' H ∧ NoT G' ∧ Rl k R dr [] [] G' H n ∧ ∀ x v, RS k env σ G x v → Rp k G' x v.2 := by
  have cl : ∀ a, Decidable (Apart env σ a) := fun a => Classical.propDecidable _
  let G' : Hp := fun a => if Apart env σ a then G a else H a
  have e1 : ∀ a, Apart env σ a → G' a = G a := fun a h => if_pos h
  have e2 : ∀ a, ¬ Apart env σ a → G' a = H a := fun a h => if_neg h
  have nap : ∀ a, ¬ Apart env σ a → ∃ (i : Nat) (d : D), env[i]? = some (some (true, d)) ∧ σ[i]? = some (some (.ref a)) := fun a h => by
    apply Classical.byContradiction
    intro q
    exact h fun i d e1 e2 => q ⟨i, d, e1, e2⟩
  have ow : ∀ a, ¬ Apart env σ a → ∃ d, Ow k R dr G H a d := fun a h => by
    obtain ⟨i, d, f1, f2⟩ := nap a h
    obtain ⟨b, g1, g2⟩ := r.ow i d f1
    rw [f2] at g1; cases g1
    exact ⟨d, g2⟩
  have lg : Le G G' := fun a o h => by
    by_cases ha : Apart env σ a
    · rw [e1 a ha]; exact h
    · obtain ⟨d, u, f1, f2, f3⟩ := ow a ha
      rw [f3.g] at h; cases h
  have ig : In G' H := fun a o h => by
    by_cases ha : Apart env σ a
    · rw [e1 a ha] at h; exact r.i a o h
    · rw [e2 a ha] at h; exact .inl h
  have ng : NoT G' := fun a ps h => by
    by_cases ha : Apart env σ a
    · rw [e1 a ha] at h; exact r.nt a ps h
    · rw [e2 a ha] at h
      obtain ⟨d, u, f1, f2, f3⟩ := ow a ha
      rw [h] at f1; cases f1; exact f2.nt ps rfl
  refine ⟨G', lg, ig, ng, ⟨ig, ng, r.tb, r.dd, fun a h => ?_, r.dj, fun a o h => ?_, fun i d h => by simp at h, fun i d h => by simp at h, fun i j a d d' h => by simp at h, Nat.le_refl _, r.nb⟩, fun x v h => ?_⟩
  · have ha : Apart env σ a := Classical.byContradiction fun z => by
      obtain ⟨d, u, f1, f2, f3⟩ := ow a z
      exact f3.d h
    rw [e1 a ha]; exact r.dh a h
  · have ha : Apart env σ a := Classical.byContradiction fun z => by
      obtain ⟨d, u, f1, f2, f3⟩ := ow a z
      rw [f3.r] at h; cases h
    obtain ⟨q1, q2, q3, q4⟩ := r.rs a o h
    exact ⟨q1, fun z => by rw [e1 a ha]; exact q2 z, q3, q4⟩
  · obtain ⟨m, d⟩ := v
    cases m with
    | s => exact Rp.mono lg h
    | o => exact Rp.mono lg h
    | v i =>
      obtain ⟨h1, h2⟩ := h
      obtain ⟨a, f1, o, f2, f3, f4⟩ := r.ow i d h2
      rw [h1] at f1
      cases f1
      have na : ¬ Apart env σ a := fun z => z i d h2 h1
      exact (f3.mono lg).rp (by rw [e2 a na]; exact f2)
theorem Rl.revealA (r : Rl k R dr env σ G H n) : ∃ G', Le G G' ∧ In G' H ∧ Rl k R dr [] [] G' H n ∧ (∀ x v, RS k env σ G x v → Rp k G' x v.2) ∧ ∀ xs vs, RSs k env σ G xs vs → RpA k G' xs (vs.map (·.2)) := by
  obtain ⟨G', h1, h2, h3, h4, h5⟩ := r.reveal
  refine ⟨G', h1, h2, h4, h5, fun xs vs h => ?_⟩
  induction h with
  | nil => exact .nil
  | cons a _ ih => exact .cons (h5 _ _ a) ih
theorem rs_s {x : V} {v : Vl} (h : isV v = false) (r : RS k env σ G x v) : Rp k G x v.2 := by
  obtain ⟨m, d⟩ := v
  cases m with
  | s => exact r
  | o => exact r
  | v i => cases h
theorem rss_s : ∀ {xs : List V} {vs : List Vl}, vs.any isV = false → RSs k env σ G xs vs → RpA k G xs (vs.map (·.2))
  | _, _, _, .nil => .nil
  | _, _, h, .cons a b => by
    simp only [List.any_cons, Bool.or_eq_false_iff] at h
    exact .cons (rs_s h.1 a) (rss_s h.2 b)
theorem RSs.len : ∀ {xs : List V} {vs : List Vl}, RSs k env σ G xs vs → xs.length = vs.length
  | _, _, .nil => rfl
  | _, _, .cons a b => by rw [List.length_cons, List.length_cons, RSs.len b]
/-! ### names, constants -/
def eVar (i : Nat) : Env → M Vl := fun env => match env[i]? with
  | some (some (false, d)) => .ok (.s, d)
  | some (some (true, d)) => .ok (.v i, d)
  | _ => .bad
theorem se_var {i : Nat} : SE k E (tVar i) (eVar i) := fun R dr env σ G H n Q r w => by
  unfold eVar at w
  split at w
  · rename_i d h
    obtain ⟨v, h1, h2⟩ := r.sh i d h
    exact ⟨v, h1, w v G H (Le.refl _) r h2⟩
  · rename_i d h
    obtain ⟨a, h1, h2⟩ := r.ow i d h
    exact ⟨_, h1, w _ G H (Le.refl _) r ⟨h1, h⟩⟩
  · exact w.elim
def eC (d : D) : Env → M Vl := fun _ => .ok (.s, d)
theorem se_c {v : V} {d : D} (h : ∀ G, Rp k G v d) : SE k E (tC v) (eC d) := fun R dr env σ G H n Q r w => w v G H (Le.refl _) r (h G)
theorem se_int {i : Int} : SE k E (tC (.int i)) (eC (.int i)) := se_c fun _ => .int i
theorem se_bl {i : Bool} : SE k E (tC (.bl i)) (eC (.bl i)) := se_c fun _ => .bl i
theorem se_non : SE k E (tC .non) (eC .non) := se_c fun _ => .non
theorem se_str {z : Str} {l : List Nat} (h : z = S l) : SE k E (tC (.str z)) (eC (.str l)) := by subst h; exact se_c fun _ => .str l
theorem se_ty {x : String} : SE k E (tC (.ty x)) (eC (.ty x)) := se_c fun _ => .ty x
theorem se_glo {x : Str} {a : Addr} (h : a = k.ca x) : SE k E (tC (.ref a)) (eC (.glo x)) := by subst h; exact se_c fun _ => .glo x
/-! ### operators -/
def OpS (k : Kx) (r : R2) (g : D → D → Option D) : Prop := ∀ G H x y a b d, In G H → Rp k G x a → Rp k G y b → g a b = some d → ∀ Q : VK, (∀ v G2 H2, Up G H G2 H2 → Rp k G2 v d → Q v H2) → r x y H Q
def UnS (k : Kx) (r : V → Hp → VK → Prop) (g : D → Option D) : Prop := ∀ G H x a d, In G H → Rp k G x a → g a = some d → ∀ Q : VK, (∀ v G2 H2, Up G H G2 H2 → Rp k G2 v d → Q v H2) → r x H Q
def CaS (k : Kx) (r : List V → Hp → VK → Prop) (g : List D → Option D) : Prop := ∀ G H xs ds d, In G H → RpA k G xs ds → g ds = some d → ∀ Q : VK, (∀ v G2 H2, Up G H G2 H2 → Rp k G2 v d → Q v H2) → r xs H Q
/-- .. a new object -/
def CaO (k : Kx) (r : List V → Hp → VK → Prop) (g : List D → Option D) : Prop := ∀ G H xs ds d, In G H → RpA k G xs ds → g ds = some d → ∀ Q : VK, (∀ p o, H p = none → RpO k G o d → Q (.ref p) (upd H p o)) → r xs H Q
/-- the end of an operation -/
def fin (vb : Bool) (d : D) : M Vl := if vb then (if scal d then .ok (.s, d) else .bad) else .ok (.s, d)
@[simp] theorem fin_f (d : D) : fin false d = .ok (.s, d) := rfl
def eOp (g : D → D → Option D) (fa fb : Env → M Vl) : Env → M Vl := fun env => (fa env).bind fun x => (fb env).bind fun y => (M.of (g x.2 y.2)).bind fun d => fin (isV x || isV y) d
def eUn (g : D → Option D) (fa : Env → M Vl) : Env → M Vl := fun env => (fa env).bind fun x => (M.of (g x.2)).bind fun d => fin (isV x) d
/-- an operation behind settled things -/
theorem op_end {vb : Bool} {d : D} {P : Prop} (r : Rl k R dr env σ G H n) {X : Dr → Nat → Ex → Prop} (w : wp dr n (fin vb d) (fun dr n' r => ∀ x G2 H2, Le G G2 → Rl k R dr env σ G2 H2 n' → RV k R dr env σ G2 H2 x r → Q x H2) X)
    (h : ∀ G', Le G G' → In G' H → (vb = false → G' = G) → (∀ x v, (vb = false → isV v = false) → RS k env σ G x v → Rp k G' x v.2) → (∀ xs vs, (vb = false → vs.any isV = false) → RSs k env σ G xs vs → RpA k G' xs (vs.map (·.2))) → (∀ v G2 H2, Up G' H G2 H2 → Rp k G2 v d → Q v H2) → P) : P := by
  cases vb with
  | false =>
    refine h G (Le.refl _) r.i (fun _ => rfl) (fun x v hv hs => rs_s (hv rfl) hs) (fun x v hv hs => rss_s (hv rfl) hs) fun v G2 H2 u p => ?_
    obtain ⟨r2, l2⟩ := r.up u
    exact w v _ H2 l2 r2 p.clean
  | true =>
    unfold fin at w
    rw [if_pos rfl] at w
    by_cases hs : scal d = true
    · rw [if_pos hs] at w
      obtain ⟨G', l, i, _, q1, q2⟩ := r.revealA
      refine h G' l i (fun z => by cases z) (fun x v _ hs => q1 x v hs) (fun x v _ hs => q2 x v hs) fun v G2 H2 u p => ?_
      exact w v G H2 (Le.refl _) (r.keep (extN_le u.h) (tabs_le r.tb u.h)) (rp_scal hs p)
    · rw [if_neg hs] at w; exact w.elim
theorem wp_bind' {α β : Type} {m : M α} {f : α → M β} {P : Dr → Nat → β → Prop} {X : Dr → Nat → Ex → Prop} (w : wp dr n (m.bind f) P X) : wp dr n m (fun dr n a => wp dr n (f a) P X) X := wp_bind.mp w
theorem se_op {r : R2} {g : D → D → Option D} (ho : OpS k r g) (ha : SE k E ta fa) (hb : SE k E tb fb) : SE k E (tOp r ta tb) (eOp g fa fb) := fun R dr env σ G H n Q rl w => by
  refine ha.run rl (wp_bind' w) (fun _ _ _ h => h) fun dr n1 v x G1 H1 w1 l1 r1 s1 => ?_
  refine hb.run r1 (wp_bind' w1) (fun _ _ _ h => h.mono l1) fun dr n2 v2 y G2 H2 w2 l2 r2 s2 => ?_
  obtain ⟨d, hd, w3⟩ := wp_of.mp (wp_bind' w2)
  refine op_end (P := r x y H2 Q) r2 (wp_mono w3 (fun dr n' r q x G3 H3 l3 => q x G3 H3 ((l1.trans l2).trans l3)) (fun _ _ _ h => h)) fun G' l' i' _ q1 q2 fin => ?_
  refine ho G' H2 x y v.2 v2.2 d i' (q1 x v (fun z => by revert z; cases isV v <;> simp) (s1.mono l2)) (q1 y v2 (fun z => by revert z; cases isV v2 <;> simp) s2) hd Q fin
theorem se_un {r : V → Hp → VK → Prop} {g : D → Option D} (ho : UnS k r g) (ha : SE k E ta fa) : SE k E (tUn r ta) (eUn g fa) := fun R dr env σ G H n Q rl w => by
  refine ha.run rl (wp_bind' w) (fun _ _ _ h => h) fun dr n1 v x G1 H1 w1 l1 r1 s1 => ?_
  obtain ⟨d, hd, w3⟩ := wp_of.mp (wp_bind' w1)
  refine op_end (P := r x H1 Q) r1 (wp_mono w3 (fun dr n' r q x G3 H3 l3 => q x G3 H3 (l1.trans l3)) (fun _ _ _ h => h)) fun G' l' i' _ q1 q2 fin => ?_
  exact ho G' H1 x v.2 d i' (q1 x v (fun z => z) s1) hd Q fin
/-! ### arguments -/
def eNil : Env → M (List Vl) := fun _ => .ok []
def eCons (fa : Env → M Vl) (fr : Env → M (List Vl)) : Env → M (List Vl) := fun env => (fa env).bind fun x => (fr env).bind fun xs => .ok (x :: xs)
theorem sa_nil : SA k E tNil eNil := fun R dr env σ G H n Q r w => w [] G H (Le.refl _) r .nil
theorem sa_cons {tr : TA} {fr : Env → M (List Vl)} (ha : SE k E ta fa) (hr : SA k E tr fr) : SA k E (tCons ta tr) (eCons fa fr) := fun R dr env σ G H n Q rl w => by
  refine ha.run rl (wp_bind' w) (fun _ _ _ h => h) fun dr n1 v x G1 H1 w1 l1 r1 s1 => ?_
  refine hr R dr env σ G1 H1 n1 _ r1 (wp_mono (wp_bind' w1) (fun dr n' vs q xs G2 H2 l2 r2 s2 => ?_) fun _ _ _ h => h.mono l1)
  exact q (x :: xs) G2 H2 (l1.trans l2) r2 (.cons (s1.mono l2) s2)
def dats (vs : List Vl) : List D := vs.map (·.2)
@[simp] theorem dats_nil : dats [] = [] := rfl
@[simp] theorem dats_cons (v : Vl) (vs : List Vl) : dats (v :: vs) = v.2 :: dats vs := rfl
def eCB (g : List D → Option D) (fa : Env → M (List Vl)) : Env → M Vl := fun env => (fa env).bind fun xs => (M.of (g (dats xs))).bind fun d => fin (xs.any isV) d
def eCO (g : List D → Option D) (fa : Env → M (List Vl)) : Env → M Vl := fun env => (fa env).bind fun xs => if xs.any isV then .bad else (M.of (g (dats xs))).bind fun d => .ok (.o, d)
theorem se_cb {r : List V → Hp → VK → Prop} {g : List D → Option D} {tr : TA} {fr : Env → M (List Vl)} (ho : CaS k r g) (hr : SA k E tr fr) : SE k E (tCB r tr) (eCB g fr) := fun R dr env σ G H n Q rl w => by
  refine hr R dr env σ G H n _ rl (wp_mono (wp_bind' w) (fun dr n1 vs w1 xs G1 H1 l1 r1 s1 => ?_) fun _ _ _ h => h)
  obtain ⟨d, hd, w3⟩ := wp_of.mp (wp_bind' w1)
  refine op_end (P := r xs H1 Q) r1 (wp_mono w3 (fun dr n' r q x G3 H3 l3 => q x G3 H3 (l1.trans l3)) (fun _ _ _ h => h)) fun G' l' i' _ q1 q2 fin => ?_
  exact ho G' H1 xs _ d i' (q2 xs vs (fun z => z) s1) hd Q fin
theorem se_co {r : List V → Hp → VK → Prop} {g : List D → Option D} {tr : TA} {fr : Env → M (List Vl)} (ho : CaO k r g) (hr : SA k E tr fr) : SE k E (tCB r tr) (eCO g fr) := fun R dr env σ G H n Q rl w => by
  refine hr R dr env σ G H n _ rl (wp_mono (wp_bind' w) (fun dr n1 vs w1 xs G1 H1 l1 r1 s1 => ?_) fun _ _ _ h => h)
  by_cases hv : vs.any isV = true
  · rw [if_pos hv] at w1; exact w1.elim
  rw [if_neg hv] at w1
  obtain ⟨d, hd, w3⟩ := wp_of.mp (wp_bind' w1)
  refine ho G1 H1 xs _ d r1.i (rss_s (by simpa using hv) s1) hd Q fun p o hp ro => ?_
  exact w3 _ G1 _ l1 (r1.new hp) ⟨p, rfl, (r1.newO hp ro).1, (r1.newO hp ro).2⟩
def eLst (fa : Env → M (List Vl)) : Env → M Vl := eCO (fun ds => if ds.length ≤ 100000 then some (.lst ds) else none) fa
def eTup (fa : Env → M (List Vl)) : Env → M Vl := fun env => (fa env).bind fun xs => if xs.any isV then .bad else if (dats xs).length ≤ 100000 then .ok (.s, .tup (dats xs)) else .bad
theorem RpA.le {xs : List V} {ds : List D} (h : RpA k G xs ds) (hl : ds.length ≤ 100000) : xs.length ≤ sizeLine := by
  rw [h.len]; exact Nat.le_trans hl (by decide)
theorem se_lst {tr : TA} {fr : Env → M (List Vl)} (hr : SA k E tr fr) : SE k E (tLst tr) (eLst fr) := by
  refine se_co (r := fun xs H Q => xs.length ≤ sizeLine ∧ ∀ p, H p = none → Q (.ref p) (upd H p (.lst xs))) (fun G H xs ds d hi hx hg Q q => ?_) hr
  split at hg
  · rename_i hl
    cases hg
    exact ⟨hx.le hl, fun p hp => q p _ hp (.lst hx)⟩
  · cases hg
theorem se_tup {tr : TA} {fr : Env → M (List Vl)} (hr : SA k E tr fr) : SE k E (tTup tr) (eTup fr) := fun R dr env σ G H n Q rl w => by
  refine hr R dr env σ G H n _ rl (wp_mono (wp_bind' w) (fun dr n1 vs w1 xs G1 H1 l1 r1 s1 => ?_) fun _ _ _ h => h)
  by_cases hv : vs.any isV = true
  · rw [if_pos hv] at w1; exact w1.elim
  rw [if_neg hv] at w1
  by_cases hl : (dats vs).length ≤ 100000
  · rw [if_pos hl] at w1
    have rx := rss_s (by simpa using hv) s1
    refine ⟨rx.le hl, fun p hp => ?_⟩
    have u := Up.new (o := .tup xs) r1.i hp
    obtain ⟨r2, l2⟩ := r1.up u
    exact w1 _ _ _ (l1.trans l2) r2 (.tup (.inl (.inl (clean_some upd_same (by intro ps z; cases z)))) (rx.mono l2))
  · rw [if_neg hl] at w1; exact w1.elim
/-! ### tests -/
def eB (fe : Env → M Vl) : Env → M Bool := fun env => (fe env).bind fun x => match x.2 with
  | .bl b => .ok b
  | _ => .bad
theorem eb_in {v : Vl} {P : Dr → Nat → Bool → Prop} {X : Dr → Nat → Ex → Prop} (w : wp dr n (match v.2 with | .bl b => M.ok b | _ => .bad) P X) : ∃ b, v.2 = .bl b ∧ P dr n b := by
  obtain ⟨m, d⟩ := v
  cases d <;> first
    | exact ⟨_, rfl, w⟩
    | exact w.elim
theorem rs_bl {x : V} {v : Vl} {b : Bool} (r : Rl k R dr env σ G H n) (e : v.2 = .bl b) (h : RS k env σ G x v) : x = .bl b := by
  obtain ⟨m, d⟩ := v
  have e : d = .bl b := e
  subst e
  cases m with
  | s => exact rp_bl h
  | o => exact rp_bl h
  | v i =>
    obtain ⟨h1, h2⟩ := h
    obtain ⟨a, f1, o, f2, f3, f4⟩ := r.ow i _ h2
    cases f3
theorem st_b (he : SE k E te f) : ST k E (tB te) (eB f) := fun R dr env σ G H n Q rl w => by
  refine he.run rl (wp_bind' w) (fun _ _ _ h => h) fun dr n1 v x G1 H1 w1 l1 r1 s1 => ?_
  obtain ⟨b, e, w2⟩ := eb_in w1
  exact ⟨b, rs_bl r1 e s1, w2 G1 H1 l1 r1⟩
theorem st_test (he : SE k E te f) : ST k E (tTest te) (eB f) := st_b he
def eAnd (ft fu : Env → M Bool) : Env → M Bool := fun env => (ft env).bind fun b => if b then fu env else .ok false
def eOr (ft fu : Env → M Bool) : Env → M Bool := fun env => (ft env).bind fun b => if b then .ok true else fu env
def eNot (ft : Env → M Bool) : Env → M Bool := fun env => (ft env).bind fun b => .ok (!b)
theorem ST.run (h : ST k E t ft) (r : Rl k R dr env σ G H n) {Q : Bool → Hp → Prop} {P : Dr → Nat → Bool → Prop} {X : Dr → Nat → Ex → Prop} (w : wp dr n (ft env) P X) (he : ∀ d n x, X d n x → XP k R G E d n x) (hq : ∀ dr n' b G2 H2, P dr n' b → Le G G2 → Rl k R dr env σ G2 H2 n' → Q b H2) : t σ H Q :=
  h R dr env σ G H n Q r (wp_mono w (fun dr n' b p G2 H2 l r2 => hq dr n' b G2 H2 p l r2) he)
theorem st_and (h1 : ST k E t ft) (h2 : ST k E u fu) : ST k E (tAnd t u) (eAnd ft fu) := fun R dr env σ G H n Q rl w => by
  refine h1.run rl (wp_bind' w) (fun _ _ _ h => h) fun dr n1 b G1 H1 w1 l1 r1 => ?_
  cases b with
  | true => exact h2.run r1 w1 (fun _ _ _ h => h.mono l1) fun dr n2 b G2 H2 w2 l2 r2 => w2 G2 H2 (l1.trans l2) r2
  | false => exact w1 G1 H1 l1 r1
theorem st_or (h1 : ST k E t ft) (h2 : ST k E u fu) : ST k E (tOr t u) (eOr ft fu) := fun R dr env σ G H n Q rl w => by
  refine h1.run rl (wp_bind' w) (fun _ _ _ h => h) fun dr n1 b G1 H1 w1 l1 r1 => ?_
  cases b with
  | false => exact h2.run r1 w1 (fun _ _ _ h => h.mono l1) fun dr n2 b G2 H2 w2 l2 r2 => w2 G2 H2 (l1.trans l2) r2
  | true => exact w1 G1 H1 l1 r1
theorem st_not (h1 : ST k E t ft) : ST k E (tNot t) (eNot ft) := fun R dr env σ G H n Q rl w => by
  refine h1.run rl (wp_bind' w) (fun _ _ _ h => h) fun dr n1 b G1 H1 w1 l1 r1 => w1 G1 H1 l1 r1
def eBv (b : Bool) : Vl := (.s, .bl b)
def eAndV (fa fb : Env → M Vl) : Env → M Vl := fun env => (eB fa env).bind fun b => if b then fb env else .ok (eBv false)
def eOrV (fa fb : Env → M Vl) : Env → M Vl := fun env => (eB fa env).bind fun b => if b then .ok (eBv true) else fb env
def eNotV (fa : Env → M Vl) : Env → M Vl := fun env => (eB fa env).bind fun b => .ok (eBv (!b))
theorem se_andV (ha : SE k E ta fa) (hb : SE k E tb fb) : SE k E (tAndV ta tb) (eAndV fa fb) := fun R dr env σ G H n Q rl w => by
  refine st_b ha R dr env σ G H n (fun b H1 => if b = true then tb σ H1 Q else Q (.bl false) H1) rl (wp_mono (wp_bind' w) (fun dr n1 b w1 G1 H1 l1 r1 => ?_) fun _ _ _ h => h)
  cases b with
  | true => exact hb R dr env σ G1 H1 n1 Q r1 (wp_mono w1 (fun dr n2 v q x G2 H2 l2 => q x G2 H2 (l1.trans l2)) fun _ _ _ h => h.mono l1)
  | false => exact w1 _ G1 H1 l1 r1 (Rp.bl _)
theorem se_orV (ha : SE k E ta fa) (hb : SE k E tb fb) : SE k E (tOrV ta tb) (eOrV fa fb) := fun R dr env σ G H n Q rl w => by
  refine st_b ha R dr env σ G H n (fun b H1 => if b = true then Q (.bl true) H1 else tb σ H1 Q) rl (wp_mono (wp_bind' w) (fun dr n1 b w1 G1 H1 l1 r1 => ?_) fun _ _ _ h => h)
  cases b with
  | false => exact hb R dr env σ G1 H1 n1 Q r1 (wp_mono w1 (fun dr n2 v q x G2 H2 l2 => q x G2 H2 (l1.trans l2)) fun _ _ _ h => h.mono l1)
  | true => exact w1 _ G1 H1 l1 r1 (Rp.bl _)
theorem se_notV (ha : SE k E ta fa) : SE k E (tNotV ta) (eNotV fa) := fun R dr env σ G H n Q rl w =>
  st_b ha R dr env σ G H n (fun b H1 => Q (.bl (!b)) H1) rl (wp_mono (wp_bind' w) (fun dr n1 b w1 G1 H1 l1 r1 => w1 _ G1 H1 l1 r1 (Rp.bl _)) fun _ _ _ h => h)
def eIf (ft : Env → M Bool) (fa fb : Env → M Vl) : Env → M Vl := fun env => (ft env).bind fun b => if b then fa env else fb env
theorem se_if (ht : ST k E t ft) (ha : SE k E ta fa) (hb : SE k E tb fb) : SE k E (tIf t ta tb) (eIf ft fa fb) := fun R dr env σ G H n Q rl w => by
  refine ht.run rl (wp_bind' w) (fun _ _ _ h => h) fun dr n1 b G1 H1 w1 l1 r1 => ?_
  cases b with
  | true => exact ha R dr env σ G1 H1 n1 Q r1 (wp_mono w1 (fun dr n2 v q x G2 H2 l2 => q x G2 H2 (l1.trans l2)) fun _ _ _ h => h.mono l1)
  | false => exact hb R dr env σ G1 H1 n1 Q r1 (wp_mono w1 (fun dr n2 v q x G2 H2 l2 => q x G2 H2 (l1.trans l2)) fun _ _ _ h => h.mono l1)
/-- a < b < c -/
def eChain (g g' : D → D → Option D) (fa fb fc : Env → M Vl) : Env → M Vl := fun env => (fa env).bind fun x => (fb env).bind fun y => (M.of (g x.2 y.2)).bind fun d => match d with
  | .bl false => .ok (eBv false)
  | .bl true => (fc env).bind fun z => (M.of (g' y.2 z.2)).bind fun d => fin (isV y || isV z) d
  | _ => .bad
theorem se_chain {r r' : R2} {g g' : D → D → Option D} (ho : OpS k r g) (ho' : OpS k r' g') (ha : SE k E ta fa) (hb : SE k E tb fb) (hc : SE k E tc fc) : SE k E (tChain r r' ta tb tc) (eChain g g' fa fb fc) := fun R dr env σ G H n Q rl w => by
  refine ha.run rl (wp_bind' w) (fun _ _ _ h => h) fun dr n1 v x G1 H1 w1 l1 r1 s1 => ?_
  refine hb.run r1 (wp_bind' w1) (fun _ _ _ h => h.mono l1) fun dr n2 v2 y G2 H2 w2 l2 r2 s2 => ?_
  obtain ⟨d, hd, w3⟩ := wp_of.mp (wp_bind' w2)
  obtain ⟨G', lg, ig, _, q1, _⟩ := r2.revealA
  refine ho G' H2 x y v.2 v2.2 d ig (q1 x v (s1.mono l2)) (q1 y v2 s2) hd _ fun z G3 H3 u3 p3 => ?_
  have r3 : Rl k R dr env σ G2 H3 n2 := r2.keep (extN_le u3.h) (tabs_le r2.tb u3.h)
  cases d <;> first
    | exact w3.elim
    | skip
  rename_i b
  cases b with
  | false =>
    refine ⟨false, rp_bl p3, ?_⟩
    rw [if_neg (by simp)]
    exact w3 _ G2 H3 (l1.trans l2) r3 (Rp.bl _)
  | true =>
    refine ⟨true, rp_bl p3, ?_⟩
    rw [if_pos rfl]
    refine hc.run r3 (wp_bind' w3) (fun _ _ _ h => h.mono (l1.trans l2)) fun dr n4 v4 z G4 H4 w4 l4 r4 s4 => ?_
    obtain ⟨d', hd', w5⟩ := wp_of.mp (wp_bind' w4)
    refine op_end (P := r' y z H4 Q) r4 (wp_mono w5 (fun dr n' r q x G3 H3 l3 => q x G3 H3 (((l1.trans l2).trans l4).trans l3)) (fun _ _ _ h => h)) fun G5 l' i' _ q1 q2 fin => ?_
    exact ho' G5 H4 y z v2.2 v4.2 d' i' (q1 y v2 (fun z => by revert z; cases isV v2 <;> simp) (s2.mono l4)) (q1 z v4 (fun z => by revert z; cases isV v4 <;> simp) s4) hd' Q fin
end
end Y

namespace Y
open PySem PySem.Spec PyProof.Rows L2 Z
/-! ### calls -/
/-- the promise of a def by what it does -/
def spM (k : Kx) (m : List D → M Vl) : Sp := fun vs H Q E => ∃ R dr G n ds, Rl k R dr [] [] G H n ∧ RpA k G vs ds ∧
  wp dr n (m ds) (fun dr n' r => ∀ x G2 H2, Le G G2 → Rl k R dr [] [] G2 H2 n' → RV k R dr [] [] G2 H2 x r → Q x H2) (XP k R G E)
def isLs : D → Bool
  | .lst _ => true
  | _ => false
/-- a call's end: something of ours was handed on -/
def ret (vb : Bool) (r : Vl) : M Vl := if vb then (if scal r.2 then .ok (.s, r.2) else .bad) else .ok r
@[simp] theorem ret_f (r : Vl) : ret false r = .ok r := rfl
/-- what is handed on of ours is a list -/
def okA (xs : List Vl) : Bool := xs.all fun r => !isV r || isLs r.2
def eCall (m : List D → M Vl) (fa : Env → M (List Vl)) : Env → M Vl := fun env => (fa env).bind fun xs => if okA xs then (m (dats xs)).bind fun r => ret (xs.any isV) r else .bad
section
variable {k : Kx} {E : XK} {R : Hp} {dr : Dr} {env : Env} {σ : L2.St} {G G2 H H2 : Hp} {n n' : Nat} {Q : VK} {te ta tb tc : TE} {f fa fb fc : Env → M Vl} {t u : TT} {ft fu : Env → M Bool}
theorem call_end {m : List D → M Vl} {vs : List Vl} {xs : List V} (r : Rl k R dr env σ G H n) (s : RSs k env σ G xs vs)
    (w : wp dr n (if okA vs then (m (dats vs)).bind fun r => ret (vs.any isV) r else .bad) (fun dr n' r => ∀ x G2 H2, Le G G2 → Rl k R dr env σ G2 H2 n' → RV k R dr env σ G2 H2 x r → Q x H2) (XP k R G E)) : spM k m xs H Q E := by
  have ho : okA vs = true := Classical.byContradiction fun z => by rw [if_neg z] at w; exact w
  rw [if_pos ho] at w
  have w := wp_bind' w
  by_cases hv : vs.any isV = true
  · -- ours is looked at by the callee
    -- the lists of ours handed on; all of ours is kept in G'
    obtain ⟨R1, rk, ap1, bk⟩ := r.out
    have cl : ∀ a, Decidable (∃ (v : Vl) (x : V), v ∈ vs ∧ x = V.ref a ∧ isV v = true ∧ RS k env σ G x v) := fun a => Classical.propDecidable _
    let G1 : Hp := fun a => if (∃ (v : Vl) (x : V), v ∈ vs ∧ x = V.ref a ∧ isV v = true ∧ RS k env σ G x v) then H a else G a
    let R2 : Hp := fun a => if (∃ (v : Vl) (x : V), v ∈ vs ∧ x = V.ref a ∧ isV v = true ∧ RS k env σ G x v) then none else R1 a
    have ow : ∀ a, (∃ (v : Vl) (x : V), v ∈ vs ∧ x = V.ref a ∧ isV v = true ∧ RS k env σ G x v) → ∃ ls vs', H a = some (.lst vs') ∧ RpO k G (.lst vs') (.lst ls) ∧ Hid R dr G a := by
      rintro a ⟨⟨m', d⟩, x, hm, rfl, hv', hs⟩
      cases m' with
      | s => cases hv'
      | o => cases hv'
      | v j =>
        obtain ⟨h1, h2⟩ := hs
        obtain ⟨b, f1, o, f2, f3, f4⟩ := r.ow j d h2
        rw [h1] at f1; cases f1
        have := List.all_eq_true.mp ho _ hm
        have hd : isLs d = true := by simpa [isV] using this
        cases f3 with
        | lst f3 => exact ⟨_, _, f2, .lst f3, f4⟩
        | dic f3 => cases hd
    have lg : Le G G1 := fun a o h => by
      show (if _ then _ else _) = _
      split
      · rename_i hz
        obtain ⟨_, _, _, _, f4⟩ := ow a hz
        rw [f4.g] at h; cases h
      · exact h
    have g1 : ∀ a o, G1 a = some o → G a = some o ∨ ((∃ (v : Vl) (x : V), v ∈ vs ∧ x = V.ref a ∧ isV v = true ∧ RS k env σ G x v) ∧ H a = some o) := fun a o h => by
      have h : (if _ then _ else _) = some o := h
      split at h
      · rename_i hz; exact .inr ⟨hz, h⟩
      · exact .inl h
    have r3 : Rl k R2 dr [] [] G1 H n := by
      refine ⟨fun a o h => ?_, fun a ps h => ?_, r.tb, r.dd, fun a h => ?_, r.dj, fun a o h => ?_, fun i d h => by simp at h, fun i d h => by simp at h, fun i j a d d' h => by simp at h, Nat.le_refl _, r.nb⟩
      · rcases g1 a o h with z | ⟨_, z⟩
        · exact r.i a o z
        · exact .inl z
      · rcases g1 a _ h with z | ⟨hz, z⟩
        · exact r.nt a ps z
        · obtain ⟨_, _, e, _⟩ := ow a hz
          rw [z] at e; cases e
      · cases q : G1 a with
        | none => rfl
        | some o =>
          rcases g1 a o q with z | ⟨hz, z⟩
          · rw [r.dh a h] at z; cases z
          · obtain ⟨_, _, _, _, f4⟩ := ow a hz
            exact absurd h f4.d
      · have h : (if _ then _ else _) = some o := h
        split at h
        · cases h
        · rename_i hz
          obtain ⟨e1, e2, e3, e4⟩ := rk.rs a o h
          refine ⟨e1, fun zz => ?_, e3, e4⟩
          show (if _ then _ else _) = _
          rw [if_neg hz]; exact e2 zz
    have q3 : RpA k G1 xs (dats vs) := by
      have key : ∀ (xs : List V) (ws : List Vl), (∀ w ∈ ws, w ∈ vs) → RSs k env σ G xs ws → RpA k G1 xs (dats ws) := by
        intro xs ws hw hs
        induction hs with
        | nil => exact .nil
        | cons a b ih =>
          refine .cons ?_ (ih fun w hw' => hw w (List.mem_cons_of_mem _ hw'))
          rename_i x xs' v vs'
          have hm := hw v List.mem_cons_self
          obtain ⟨m', d⟩ := v
          cases m' with
          | s => exact Rp.mono lg a
          | o => exact Rp.mono lg a
          | v j =>
            have a' := a
            obtain ⟨h1, h2⟩ := a
            obtain ⟨b, f1, o, f2, f3, f4⟩ := r.ow j d h2
            rw [h1] at f1; cases f1
            refine (f3.mono lg).rp ?_
            show (if _ then _ else _) = _
            rw [if_pos ⟨_, _, hm, rfl, rfl, a'⟩]; exact f2
      exact key xs vs (fun _ h => h) s
    refine ⟨R2, dr, G1, n, dats vs, r3, q3, wp_mono w (fun dr' n' v w2 x G2 H2 l2 rr rv => ?_) fun dr' n' x hx dd G2 H2 l2 rr hd => ?_⟩
    · rw [hv] at w2
      unfold ret at w2
      rw [if_pos rfl] at w2
      have hs : scal v.2 = true := Classical.byContradiction fun z => by rw [if_neg z] at w2; exact w2
      rw [if_pos hs] at w2
      have back : Rl k R1 dr' [] [] G H2 n' := by
        refine ⟨rr.i.le (lg.trans l2), r.nt, rr.tb, rr.dd, fun a h => (lg.trans l2).no (rr.dh a h), rr.dj, fun a o h => ?_, fun i d h => by simp at h, fun i d h => by simp at h, fun i j a d d' h => by simp at h, Nat.le_refl _, rr.nb⟩
        obtain ⟨e1, e2, e3, e4⟩ := rk.rs a o h
        by_cases hz : (∃ (v : Vl) (x : V), v ∈ vs ∧ x = V.ref a ∧ isV v = true ∧ RS k env σ G x v)
        · obtain ⟨_, zs, f1, _⟩ := ow a hz
          rw [f1] at e1; cases e1
          have : G1 a = some (.lst zs) := by
            show (if _ then _ else _) = _
            rw [if_pos hz]; exact f1
          refine ⟨rr.i.ex (l2 _ _ this) rfl, e2, fun z => ?_, e4⟩
          have := l2 _ _ this
          rw [rr.dh a z] at this; cases this
        · obtain ⟨g1, g2, g3, g4⟩ := rr.rs a o (by show (if _ then _ else _) = _; rw [if_neg hz]; exact h)
          exact ⟨g1, e2, g3, e4⟩
      refine w2 x G H2 (Le.refl _) (bk dr' G H2 n' (Le.refl _) back) ?_
      obtain ⟨m', d⟩ := v
      cases m' with
      | s => exact rp_scal hs rv
      | o =>
        obtain ⟨a, _, ⟨o, f2, f3, _⟩, _⟩ := rv
        cases f3 <;> cases hs
      | v j => obtain ⟨h1, _⟩ := rv; simp at h1
    · refine hx dd G2 H2 (lg.trans l2) ⟨rr.i, rr.nt, rr.tb, rr.dd, rr.dh, rr.dj, fun a o h => ?_, fun i d h => by simp at h, fun i d h => by simp at h, fun i j a d d' h => by simp at h, Nat.le_refl _, rr.nb⟩ hd
      have hna : ¬ (∃ (v : Vl) (x : V), v ∈ vs ∧ x = V.ref a ∧ isV v = true ∧ RS k env σ G x v) := fun hz => by
        obtain ⟨_, _, _, _, f4⟩ := ow a hz
        rw [f4.r] at h; cases h
      refine rr.rs a o ?_
      show (if _ then _ else _) = _
      rw [if_neg hna]
      cases hR' : R1 a with
      | none => rw [(ap1 a hR').1] at h; cases h
      | some o' =>
        have e1 := (rk.rs a o' hR').1
        have e2 := (r.rs a o h).1
        rw [e1] at e2; exact e2
  · have hv : vs.any isV = false := by simpa using hv
    obtain ⟨R1, rk, ap1, bk⟩ := r.out
    refine ⟨R1, dr, G, n, dats vs, rk, rss_s hv s, wp_mono w (fun dr' n' v w2 x G2 H2 l2 rr rv => ?_) fun dr' n' x hx dd G2 H2 l2 rr hd => hx dd G2 H2 l2 (bk dr' G2 H2 n' l2 rr).bare hd⟩
    rw [hv] at w2
    refine w2 x G2 H2 l2 (bk dr' G2 H2 n' l2 rr) ?_
    obtain ⟨m', d⟩ := v
    cases m' with
    | s => exact rv
    | o =>
      obtain ⟨a, e, ⟨o, f2, f3, f4⟩, _⟩ := rv
      obtain ⟨g1, g2⟩ := ap1 a f4.r
      exact ⟨a, e, ⟨o, f2, f3, f4.g, g1, f4.d⟩, g2⟩
    | v j => obtain ⟨h1, _⟩ := rv; simp at h1
theorem se_call {m : List D → M Vl} {tr : TA} {fr : Env → M (List Vl)} (hr : SA k E tr fr) : SE k E (tCall (spM k m) [] E tr) (eCall m fr) := fun R dr env σ G H n Q rl w => by
  refine hr R dr env σ G H n _ rl (wp_mono (wp_bind' w) (fun dr n1 vs w1 xs G1 H1 l1 r1 s1 => ?_) fun _ _ _ h => h)
  rw [List.append_nil]
  exact call_end r1 s1 (wp_mono w1 (fun dr n' r q x G3 H3 l3 => q x G3 H3 (l1.trans l3)) fun _ _ _ h => h.mono l1)
/-- with keywords: perm is puts the values in the parameters' order -/
def eCallN (np nk : Nat) (is : List Nat) (m : List D → M Vl) (fa fk : Env → M (List Vl)) : Env → M Vl := fun env => (fa env).bind fun xs => (fk env).bind fun ys => if xs.length = np ∧ ys.length = nk then (if okA (perm is xs ys) then (m (dats (perm is xs ys))).bind fun r => ret ((perm is xs ys).any isV) r else .bad) else .bad
theorem RSs.get : ∀ {xs : List V} {vs : List Vl} (i : Nat), RSs k env σ G xs vs → (xs[i]? = none ∧ vs[i]? = none) ∨ ∃ x v, xs[i]? = some x ∧ vs[i]? = some v ∧ RS k env σ G x v
  | _, _, _, .nil => .inl ⟨rfl, rfl⟩
  | _, _, 0, .cons a _ => .inr ⟨_, _, rfl, rfl, a⟩
  | _, _, i + 1, .cons _ b => by simpa using RSs.get i b
theorem RSs.app : ∀ {xs ys : List V} {vs ws : List Vl}, RSs k env σ G xs vs → RSs k env σ G ys ws → RSs k env σ G (xs ++ ys) (vs ++ ws)
  | _, _, _, _, .nil, h => h
  | _, _, _, _, .cons a b, h => .cons a (RSs.app b h)
theorem RSs.perm {xs ys : List V} {vs ws : List Vl} (is : List Nat) (a : RSs k env σ G xs vs) (b : RSs k env σ G ys ws) : RSs k env σ G (Z.perm is xs ys) (Z.perm is vs ws) := by
  unfold Z.perm
  have h := a.app b
  induction is with
  | nil => exact .nil
  | cons i is ih =>
    rcases h.get i with ⟨e1, e2⟩ | ⟨x, v, e1, e2, e3⟩
    · simp only [List.filterMap_cons, e1, e2]; exact ih
    · simp only [List.filterMap_cons, e1, e2]; exact .cons e3 ih
theorem se_callN {m : List D → M Vl} {tr tk : TA} {fr fk : Env → M (List Vl)} {np nk : Nat} {is : List Nat} (hr : SA k E tr fr) (hk : SA k E tk fk) : SE k E (tCallN np nk (spM k m) (Z.perm is) E tr tk) (eCallN np nk is m fr fk) := fun R dr env σ G H n Q rl w => by
  refine hr R dr env σ G H n _ rl (wp_mono (wp_bind' w) (fun dr n1 vs w1 xs G1 H1 l1 r1 s1 => ?_) fun _ _ _ h => h)
  refine hk R dr env σ G1 H1 n1 _ r1 (wp_mono (wp_bind' w1) (fun dr n2 ws w2 ys G2 H2 l2 r2 s2 => ?_) fun _ _ _ h => h.mono l1)
  by_cases hl : vs.length = np ∧ ws.length = nk
  · rw [if_pos hl] at w2
    refine ⟨s1.len.trans hl.1, s2.len.trans hl.2, ?_⟩
    exact call_end r2 (RSs.perm is (s1.mono l2) s2) (wp_mono w2 (fun dr n' r q x G3 H3 l3 => q x G3 H3 ((l1.trans l2).trans l3)) fun _ _ _ h => h.mono (l1.trans l2))
  · rw [if_neg hl] at w2; exact w2.elim
end
end Y

namespace Y
open PySem PySem.Spec PyProof.Rows L2 Z
/-! ### targets -/
def TgS (k : Kx) (vs : List Nat) (g : TG) (tg : D → Env → Option Env) : Prop := ∀ R dr env σ G H n x d env1 (Q : L2.St → Hp → Prop), Rl k R dr env σ G H n → Rp k G x d → tg d env = some env1 →
  (∀ σ1, Rl k R dr env1 σ1 G H n → (∀ j, j ∉ vs → σ1[j]? = σ[j]? ∧ env1[j]? = env[j]?) → σ1.length = σ.length → Q σ1 H) → g x σ H Q
def TgsS (k : Kx) (vs : List Nat) (g : TGs) (tg : List D → Env → Option Env) : Prop := ∀ R dr env σ G H n xs ds env1 (Q : L2.St → Hp → Prop), Rl k R dr env σ G H n → RpA k G xs ds → tg ds env = some env1 →
  (∀ σ1, Rl k R dr env1 σ1 G H n → (∀ j, j ∉ vs → σ1[j]? = σ[j]? ∧ env1[j]? = env[j]?) → σ1.length = σ.length → Q σ1 H) → g xs σ H Q
def eTgN (i : Nat) : D → Env → Option Env := fun d env => some (env.set i (some (false, d)))
def eTgNil : List D → Env → Option Env := fun ds env => match ds with
  | [] => some env
  | _ => none
def eTgCons (t : D → Env → Option Env) (ts : List D → Env → Option Env) : List D → Env → Option Env := fun ds env => match ds with
  | d :: ds => (t d env).bind fun env1 => ts ds env1
  | [] => none
def eTgT (n : Nat) (ts : List D → Env → Option Env) : D → Env → Option Env := fun d env => match d with
  | .tup ds => if ds.length = n then ts ds env else none
  | .lst ds => if ds.length = n then ts ds env else none
  | _ => none
/-- a tuple or a list unpacked -/
def gTL (K : PySem.W.Frag) (n : Nat) (t : TGs) : TG := fun v σ H Q => gTup K n t v σ H Q ∨ gUnl K n t v σ H Q
section
variable {k : Kx}
theorem tg_name {i : Nat} : TgS k [i] (gName i) (eTgN i) := fun R dr env σ G H n x d env1 Q r p e q => by
  cases e
  refine q _ (r.set p) (fun j hj => ?_) (by simp)
  have : i ≠ j := fun z => hj (by simp [z])
  exact ⟨List.getElem?_set_ne this, List.getElem?_set_ne this⟩
theorem tg_nil : TgsS k [] gNil eTgNil := fun R dr env σ G H n xs ds env1 Q r p e q => by
  cases p with
  | nil => cases e; exact ⟨rfl, q σ r (fun _ _ => ⟨rfl, rfl⟩) rfl⟩
  | cons _ _ => cases e
theorem tg_cons {vs ws : List Nat} {g : TG} {gs : TGs} {t : D → Env → Option Env} {ts : List D → Env → Option Env} (h : TgS k vs g t) (hs : TgsS k ws gs ts) : TgsS k (vs ++ ws) (gCons g gs) (eTgCons t ts) := fun R dr env σ G H n xs ds env1 Q r p e q => by
  cases p with
  | nil => cases e
  | cons p1 p2 =>
    simp only [eTgCons, Option.bind_eq_some_iff] at e
    obtain ⟨env2, e1, e2⟩ := e
    refine ⟨_, _, rfl, h R dr env σ G H n _ _ env2 _ r p1 e1 fun σ1 r1 a1 l1 => hs R dr env2 σ1 G H n _ _ env1 _ r1 p2 e2 fun σ2 r2 a2 l2 => q σ2 r2 (fun j hj => ?_) (l2.trans l1)⟩
    simp only [List.mem_append, not_or] at hj
    exact ⟨(a2 j hj.2).1.trans (a1 j hj.1).1, (a2 j hj.2).2.trans (a1 j hj.1).2⟩
theorem tg_tl {vs : List Nat} {m : Nat} {gs : TGs} {ts : List D → Env → Option Env} (hs : TgsS k vs gs ts) : TgS k vs (gTL k.K m gs) (eTgT m ts) := fun R dr env σ G H n x d env1 Q r p e q => by
  cases d <;> try (cases e; done)
  · rename_i ds
    simp only [eTgT] at e
    split at e
    · rename_i hl
      obtain ⟨a, xs, rfl, h1, h2⟩ := rp_lst p
      exact .inr ⟨a, xs, rfl, .inl (.inl (r.i.ex h1 rfl)), by rw [h2.len, hl], hs R dr env σ G H n xs ds env1 Q r h2 e q⟩
    · cases e
  · rename_i ds
    simp only [eTgT] at e
    split at e
    · rename_i hl
      obtain ⟨a, xs, rfl, h1, h2⟩ := rp_tup p
      exact .inl ⟨a, xs, rfl, in_t r.i h1, by rw [h2.len, hl], hs R dr env σ G H n xs ds env1 Q r h2 e q⟩
    · cases e
end
/-! ### what is walked -/
def Wk (k : Kx) (Rx : Hp) (J : It) (G : Hp) (ds : List D) : Prop := ∀ G' H', Le G G' → In G' H' → (∀ a o, Rx a = some o → H' a = some o) → J.stop ds.length H' ∧ ∀ (j : Nat) d, ds[j]? = some d → J.go j H' ∧ ∀ x H2, J.yld j H' x H2 → ∃ G2, Up G' H' G2 H2 ∧ Rp k G2 x d
def SI (k : Kx) (E : XK) (t : TI) (f : Env → M (List D)) : Prop := ∀ R dr env σ G H n (P : It → Hp → Prop), Rl k R dr env σ G H n →
  wp dr n (f env) (fun dr n' ds => ∀ J Rx G2 H2, Le R Rx → Le G G2 → Rl k Rx dr env σ G2 H2 n' → Wk k Rx J G2 ds → P J H2) (XP k R G E) → t σ H P
def iAny (K : PySem.W.Frag) (te : TE) : TI := fun σ H P => te σ H fun x H1 => (∃ a, x = .ref a ∧ (∃ xs, SqL K H1 a xs) ∧ P (Itl K a) H1) ∨ (∃ a, x = .ref a ∧ (∃ xs, SqT K H1 a xs) ∧ P (Itt K a) H1) ∨ ∃ z, x = .str z ∧ P (Its z) H1
def chars (w : List Nat) : List D := w.map fun c => .str [c]
def itD : D → Option (List D)
  | .lst ds => some ds
  | .tup ds => some ds
  | .str w => some (chars w)
  | _ => none
def eIt (fe : Env → M Vl) : Env → M (List D) := fun env => (fe env).bind fun x => if isV x then .bad else M.of (itD x.2)
section
variable {k : Kx} {E : XK} {R : Hp} {dr : Dr} {env : Env} {σ : L2.St} {G G2 H H2 : Hp} {n n' : Nat} {te : TE} {f : Env → M Vl}
theorem wk_lst {a : Addr} {xs : List V} {ds : List D} (h : G a = some (.lst xs)) (r : RpA k G xs ds) : Wk k R (Itl k.K a) G ds := fun G' H' l i _ => by
  have e : SqL k.K H' a xs := .inl (.inl (i.ex (l _ _ h) rfl))
  refine ⟨⟨xs, e, Nat.le_of_eq r.len⟩, fun j d hd => ?_⟩
  obtain ⟨v, g1, g2⟩ := r.get hd
  refine ⟨⟨xs, v, e, g1⟩, fun x H2 y => ?_⟩
  obtain ⟨e1, y⟩ := y
  subst e1
  have := y xs e
  rw [g1] at this; cases this
  exact ⟨G', Up.refl i, g2.mono l⟩
theorem wk_tup {a : Addr} {xs : List V} {ds : List D} (h : SqT k.K G a xs) (r : RpA k G xs ds) : Wk k R (Itt k.K a) G ds := fun G' H' l i _ => by
  have e : SqT k.K H' a xs := in_t i (le_t l h)
  refine ⟨⟨xs, e, Nat.le_of_eq r.len⟩, fun j d hd => ?_⟩
  obtain ⟨v, g1, g2⟩ := r.get hd
  refine ⟨⟨xs, v, e, g1⟩, fun x H2 y => ?_⟩
  obtain ⟨e1, y⟩ := y
  subst e1
  have := y xs e
  rw [g1] at this; cases this
  exact ⟨G', Up.refl i, g2.mono l⟩
theorem wk_of {J : It} {K : PySem.W.Frag} {ps : List PyData} {ds : List D} (hk : K = k.K) (h : pys ds = some ps) (w : WkD K J G ps) : Wk k R J G ds := fun G' H' l i _ => by
  subst hk
  obtain ⟨h1, h2⟩ := w G' H' l i
  have key : ∀ (ds : List D) (ps : List PyData), pys ds = some ps → ds.length = ps.length ∧ ∀ (j : Nat) d, ds[j]? = some d → ∃ p, ps[j]? = some p ∧ py d = some p := by
    intro ds
    induction ds with
    | nil => intro ps h; simp only [pys, Option.some.injEq] at h; subst h; exact ⟨rfl, fun j d e => by simp at e⟩
    | cons d ds ih =>
      intro ps h
      obtain ⟨p, qs, e1, e2, rfl⟩ := pys_cons h
      obtain ⟨i1, i2⟩ := ih qs e2
      refine ⟨by simp [i1], fun j d' e => ?_⟩
      cases j with
      | zero => simp at e; subst e; exact ⟨p, rfl, e1⟩
      | succ j => simpa using i2 j d' (by simpa using e)
  obtain ⟨k1, k2⟩ := key ds ps h
  refine ⟨by rw [k1]; exact h1, fun j d hd => ?_⟩
  obtain ⟨p, e1, e2⟩ := k2 j d hd
  obtain ⟨g1, g2⟩ := h2 j p e1
  refine ⟨g1, fun x H2 y => ?_⟩
  obtain ⟨G2, u, rp⟩ := g2 x H2 y
  exact ⟨G2, u, of_z d e2 rp⟩
theorem pys_chars : ∀ w : List Nat, pys (chars w) = some (w.map fun c => .str (S [c]))
  | [] => by simp [chars, pys]
  | c :: w => by
    have := pys_chars w
    simp only [chars, List.map_cons] at this ⊢
    rw [pys, this]
    simp [py]
theorem si_any (he : SE k E te f) : SI k E (iAny k.K te) (eIt f) := fun R dr env σ G H n P rl w => by
  refine he.run rl (wp_bind' w) (fun _ _ _ h => h) fun dr n1 v x G1 H1 w1 l1 r1 s1 => ?_
  cases hv : isV v with
  | true => rw [hv, if_pos rfl] at w1; exact w1.elim
  | false =>
    rw [hv, if_neg (by simp)] at w1
    have p := rs_s hv s1
    obtain ⟨ds, e, w2⟩ := wp_of.mp w1
    obtain ⟨m, d⟩ := v
    cases d <;> try (simp [itD] at e; done)
    · simp only [itD, Option.some.injEq] at e
      subst e
      exact .inr (.inr ⟨_, rp_str p, w2 _ R G1 H1 (Le.refl _) l1 r1 (wk_of rfl (pys_chars _) wk_str)⟩)
    · simp only [itD, Option.some.injEq] at e
      subst e
      obtain ⟨a, xs, rfl, h1, h2⟩ := rp_lst p
      exact .inl ⟨a, rfl, ⟨xs, .inl (.inl (r1.i.ex h1 rfl))⟩, w2 _ R G1 H1 (Le.refl _) l1 r1 (wk_lst h1 h2)⟩
    · simp only [itD, Option.some.injEq] at e
      subst e
      obtain ⟨a, xs, rfl, h1, h2⟩ := rp_tup p
      exact .inr (.inl ⟨a, rfl, ⟨xs, in_t r1.i h1⟩, w2 _ R G1 H1 (Le.refl _) l1 r1 (wk_tup h1 h2)⟩)
/-! ranges -/
def dInts (l : List Int) : List D := l.map .int
theorem pys_dInts : ∀ l : List Int, pys (dInts l) = some (l.map .int)
  | [] => by simp [dInts, pys]
  | c :: w => by
    have := pys_dInts w
    simp only [dInts, List.map_cons] at this ⊢
    rw [pys, this]
    simp [py]
def rngD1 : List D → Option (List D)
  | [.int j] => if -1000000 ≤ j ∧ j ≤ 1000000 then some (dInts (rng 0 j.toNat)) else none
  | _ => none
def rngD2 : List D → Option (List D)
  | [.int i, .int j] => if (-1000000 ≤ i ∧ i ≤ 1000000) ∧ -1000000 ≤ j ∧ j ≤ 1000000 then some (dInts (rng i (j - i).toNat)) else none
  | _ => none
def rngD3 : List D → Option (List D)
  | [.int i, .int j, .int c] => if c = -1 ∧ (-1000000 ≤ i ∧ i ≤ 1000000) ∧ -1000000 ≤ j ∧ j ≤ 1000000 then some (dInts (rngD i j)) else none
  | _ => none
def eRng (g : List D → Option (List D)) (fa : Env → M (List Vl)) : Env → M (List D) := fun env => (fa env).bind fun xs => if xs.any isV then .bad else M.of (g (dats xs))
theorem rpa_int1 {xs : List V} {i : Int} (h : RpA k G xs [.int i]) : xs = [.int i] := by
  obtain ⟨v, rfl, p⟩ := rpa_one h
  rw [rp_int p]
theorem si_rng1 {tr : TA} {fr : Env → M (List Vl)} (hr : SA k E tr fr) : SI k E (iRng1 tr) (eRng rngD1 fr) := fun R dr env σ G H n P rl w => by
  refine hr R dr env σ G H n _ rl (wp_mono (wp_bind' w) (fun dr n1 vs w1 xs G1 H1 l1 r1 s1 => ?_) fun _ _ _ h => h)
  cases hv : vs.any isV with
  | true => rw [hv, if_pos rfl] at w1; exact w1.elim
  | false =>
    rw [hv, if_neg (by simp)] at w1
    have p : RpA k G1 xs (dats vs) := rss_s hv s1
    obtain ⟨ds, e, w2⟩ := wp_of.mp w1
    unfold rngD1 at e
    split at e
    · rename_i j heq
      split at e
      · rename_i hb
        cases e
        rw [heq] at p
        rw [rpa_int1 p]
        exact ⟨j, rfl, by omega, by omega, w2 _ R G1 H1 (Le.refl _) l1 r1 (wk_of rfl (pys_dInts _) wk_range)⟩
      · cases e
    · cases e
theorem si_rng2 {tr : TA} {fr : Env → M (List Vl)} (hr : SA k E tr fr) : SI k E (iRng2 tr) (eRng rngD2 fr) := fun R dr env σ G H n P rl w => by
  refine hr R dr env σ G H n _ rl (wp_mono (wp_bind' w) (fun dr n1 vs w1 xs G1 H1 l1 r1 s1 => ?_) fun _ _ _ h => h)
  cases hv : vs.any isV with
  | true => rw [hv, if_pos rfl] at w1; exact w1.elim
  | false =>
    rw [hv, if_neg (by simp)] at w1
    have p : RpA k G1 xs (dats vs) := rss_s hv s1
    obtain ⟨ds, e, w2⟩ := wp_of.mp w1
    unfold rngD2 at e
    split at e
    · rename_i i j heq
      split at e
      · rename_i hb
        cases e
        rw [heq] at p
        obtain ⟨x, y, rfl, p1, p2⟩ := rpa_two p
        rw [rp_int p1, rp_int p2]
        exact ⟨i, j, rfl, ⟨by omega, by omega, by omega, by omega⟩, w2 _ R G1 H1 (Le.refl _) l1 r1 (wk_of rfl (pys_dInts _) wk_range)⟩
      · cases e
    · cases e
theorem si_rng3 {tr : TA} {fr : Env → M (List Vl)} (hr : SA k E tr fr) : SI k E (iRng3 tr) (eRng rngD3 fr) := fun R dr env σ G H n P rl w => by
  refine hr R dr env σ G H n _ rl (wp_mono (wp_bind' w) (fun dr n1 vs w1 xs G1 H1 l1 r1 s1 => ?_) fun _ _ _ h => h)
  cases hv : vs.any isV with
  | true => rw [hv, if_pos rfl] at w1; exact w1.elim
  | false =>
    rw [hv, if_neg (by simp)] at w1
    have p : RpA k G1 xs (dats vs) := rss_s hv s1
    obtain ⟨ds, e, w2⟩ := wp_of.mp w1
    unfold rngD3 at e
    split at e
    · rename_i i j c heq
      split at e
      · rename_i hb
        cases e
        rw [heq] at p
        obtain ⟨x, ws, rfl, p1, p⟩ := rpa_cons p
        obtain ⟨y, z, rfl, p2, p3⟩ := rpa_two p
        rw [rp_int p1, rp_int p2, rp_int p3]
        obtain ⟨rfl, h1, h2⟩ := hb
        refine ⟨i, j, -1, (i - j).toNat, rfl, RgC.neg (by omega) (by omega) (by omega) (by omega), w2 _ R G1 H1 (Le.refl _) l1 r1 (wk_of rfl (pys_dInts _) fun G' H' l' i' => ⟨?_, fun m d hd => ?_⟩)⟩
        · show (i - j).toNat ≤ _
          simp [rngD]
        · have hm : m < (i - j).toNat := by
            have := (List.getElem?_eq_some_iff.mp hd).1
            simpa [rngD] using this
          refine ⟨hm, fun x H3 y => ?_⟩
          obtain ⟨rfl, rfl⟩ := y
          have : d = .int (i + (m : Nat) * (-1)) := by
            simp [rngD, hm] at hd
            rw [← hd]
            congr 1
            omega
          subst this
          exact ⟨G', Up.refl i', .int _⟩
      · cases e
    · cases e
end
end Y

namespace Y
open PySem PySem.Spec PyProof.Rows L2 Z
/-! ### comprehensions -/
def wipeE (env : Env) : List Nat → Env
  | [] => env
  | v :: vs => (wipeE env vs).set v none
/-- the turns of a list comprehension -/
def lcGo (tg : D → Env → Option Env) (ft : Env → M Bool) (fe : Env → M Vl) (env : Env) : List D → M (List D)
  | [] => .ok []
  | d :: ds => (M.of (tg d env)).bind fun env1 => (ft env1).bind fun b => if b then (fe env1).bind fun r => if isV r then .bad else (lcGo tg ft fe env ds).bind fun rs => .ok (r.2 :: rs) else lcGo tg ft fe env ds
/-- no own object in these slots -/
def noOwn (env : Env) (vs : List Nat) : Bool := vs.all fun i => match env[i]? with
  | some (some (true, _)) => false
  | _ => true
def eLc (fi : Env → M (List D)) (tg : D → Env → Option Env) (ft : Env → M Bool) (fe : Env → M Vl) (vs : List Nat) : Env → M Vl := fun env => (fi env).bind fun ds => if ds.length ≤ 100000 ∧ noOwn env vs = true then ((lcGo tg ft fe (wipeE env vs) ds).nox).bind fun rs => .ok (.o, .lst rs) else .bad
def eYes : Env → M Bool := fun _ => .ok true
def E0 : XK := fun _ _ _ => False
section
variable {k : Kx} {E : XK} {R : Hp} {dr : Dr} {env : Env} {σ : L2.St} {G G2 H H2 : Hp} {n n' : Nat} {te : TE} {f : Env → M Vl}
theorem st_yes : ST k E tYes eYes := fun R dr env σ G H n Q rl w => w G H (Le.refl _) rl
theorem Rl.wipe (r : Rl k R dr env σ G H n) : ∀ vs : List Nat, Rl k R dr (wipeE env vs) (wipe σ vs) G H n
  | [] => r
  | v :: vs => (Rl.wipe r vs).drop
theorem wipe_get (σ : L2.St) (j : Nat) : ∀ vs : List Nat, j ∉ vs → (wipe σ vs)[j]? = σ[j]?
  | [], _ => rfl
  | v :: vs, h => by
    simp only [List.mem_cons, not_or] at h
    unfold wipe
    rw [List.getElem?_set_ne (fun z => h.1 z.symm), wipe_get σ j vs h.2]
theorem wipeE_get (σ : Env) (j : Nat) : ∀ vs : List Nat, j ∉ vs → (wipeE σ vs)[j]? = σ[j]?
  | [], _ => rfl
  | v :: vs, h => by
    simp only [List.mem_cons, not_or] at h
    unfold wipeE
    rw [List.getElem?_set_ne (fun z => h.1 z.symm), wipeE_get σ j vs h.2]
theorem wipe_in (σ : L2.St) (j : Nat) (hj : j < σ.length) : ∀ vs : List Nat, j ∈ vs → (wipe σ vs)[j]? = some none
  | [], h => by cases h
  | v :: vs, h => by
    unfold wipe
    by_cases e : v = j
    · subst e
      rw [List.getElem?_set_self (by rw [wipe_length]; exact hj)]
    · rw [List.getElem?_set_ne e]
      exact wipe_in σ j hj vs (by simpa [Ne.symm e] using h)
theorem wipe_same {σ σ1 : L2.St} {vs : List Nat} (hl : σ1.length = σ.length) (h : ∀ j, j ∉ vs → σ1[j]? = σ[j]?) : wipe σ1 vs = wipe σ vs := by
  apply List.ext_getElem?
  intro j
  by_cases hj : j ∈ vs
  · by_cases hb : j < σ.length
    · rw [wipe_in σ j hb vs hj, wipe_in σ1 j (by omega) vs hj]
    · rw [List.getElem?_eq_none (by rw [wipe_length]; omega), List.getElem?_eq_none (by rw [wipe_length]; omega)]
  · rw [wipe_get σ j vs hj, wipe_get σ1 j vs hj, h j hj]
/-- the kept object changes -/
theorem Rl.rput {a : Addr} {o o' : HO} (r : Rl k (upd R a o) dr env σ G H n) (hn : R a = none) (hd : isFrz o = false) (nt : ∀ ps, o' ≠ .tbl ps) (nc : ∀ c q, o ≠ LamX.CodeO c q) : Rl k (upd R a o') dr env σ G (upd H a o') n := by
  obtain ⟨h1, h2, h3, h4⟩ := r.rs a o upd_same
  obtain ⟨_, _, hh, ap⟩ := r.unres hn hd
  have h2 := h2 hd
  refine ⟨r.i.mut h2, r.nt, fun p hp => ?_, fun q hq => (r.dd q hq).ext fun b hb u hu => ?_, r.dh, r.dj, fun b u e => ?_, r.sh, fun i d e => ?_, r.inj, r.len, r.nb⟩
  · obtain ⟨ps, t1, t2, t3⟩ := r.tb p hp
    have n1 : p.1 ≠ a := fun z => by rw [z, h1] at t1; cases t1; exact h4 ps rfl
    refine ⟨ps, by rw [upd_ne n1]; exact t1, t2, fun pos cv hc => ?_⟩
    obtain ⟨c, a1, a2⟩ := t3 pos cv hc
    have n2 : c ≠ a := fun z => by rw [z, h1] at a2; cases a2; exact nc _ _ rfl
    exact ⟨c, a1, by rw [upd_ne n2]; exact a2⟩
  · rw [upd_ne (fun (z : b = a) => h3 ⟨q, hq, by rw [← z]; exact hb⟩)]; exact hu
  · by_cases hb : b = a
    · subst hb; rw [upd_same] at e; cases e; exact ⟨upd_same, fun _ => h2, h3, nt⟩
    · rw [upd_ne hb] at e
      obtain ⟨e1, e2, e3, e4⟩ := r.rs b u (by rw [upd_ne hb]; exact e)
      exact ⟨by rw [upd_ne hb]; exact e1, e2, e3, e4⟩
  · obtain ⟨b, e1, u, e2, e3, e4⟩ := r.ow i d e
    have nb : b ≠ a := fun z => ap i d e (by rw [← z]; exact e1)
    have : upd R a o' b = none := by rw [upd_ne nb]; have := e4.r; rw [upd_ne nb] at this; exact this
    exact ⟨b, e1, u, by rw [upd_ne nb]; exact e2, e3, e4.g, this, e4.d⟩
theorem noOwn_in {vs : List Nat} (h : noOwn env vs = true) {i : Nat} {d : D} (e : env[i]? = some (some (true, d))) : i ∉ vs := fun hi => by
  have := List.all_eq_true.mp h i hi
  simp only [e] at this
  cases this
theorem not_code {o : HO} (h : (∃ xs, o = .lst xs) ∨ ∃ kvs, o = .dK kvs) : ∀ c q, o ≠ LamX.CodeO c q := by
  rcases h with ⟨xs, rfl⟩ | ⟨kvs, rfl⟩ <;> intro c q z <;> (unfold LamX.CodeO at z; cases z)
theorem se_lc {ti : TI} {fi : Env → M (List D)} {vs : List Nat} {g : TG} {tg : D → Env → Option Env} {tt : TT} {ft : Env → M Bool} {te : TE} {fe : Env → M Vl} (hi : SI k E ti fi) (hg : TgS k vs g tg) (ht : ST k E0 tt ft) (he : SE k E0 te fe) : SE k E (tLc ti g tt te vs) (eLc fi tg ft fe vs) := fun R dr env σ G H n Q rl w => by
  refine hi R dr env σ G H n _ rl (wp_mono (wp_bind' w) (fun dr n1 ds w1 J Rx G1 H1 lx l1 r1 wk => ?_) fun _ _ _ h => h)
  by_cases hc : ds.length ≤ 100000 ∧ noOwn env vs = true
  · rw [if_pos hc] at w1
    have w2 := wp_nox.mp (wp_bind' w1)
    intro A hA
    obtain ⟨hidA, apA⟩ := r1.no hA
    have rA : Rl k (upd Rx A (.lst [])) dr env σ G1 (upd H1 A (.lst [])) n1 := (r1.new hA).res upd_same (by intro ps z; cases z) hidA apA
    refine ⟨fun i mm H' => mm = ds.length - i ∧ i ≤ ds.length ∧ ∃ G' dr n' acc rs, Rl k (upd Rx A (.lst acc)) dr env σ G' H' n' ∧ Le G1 G' ∧ RpA k G' acc rs ∧ rs.length ≤ i ∧
      wp dr n' (lcGo tg ft fe (wipeE env vs) (ds.drop i)) (fun dr n'' rs' => ∀ x G3 H3, Le G G3 → Rl k R dr env σ G3 H3 n'' → RV k R dr env σ G3 H3 x (.o, .lst (rs ++ rs')) → Q x H3) (fun _ _ _ => False),
      ⟨ds.length, by simp, Nat.zero_le _, G1, dr, n1, [], [], rA, Le.refl _, .nil, Nat.zero_le _, w2⟩, ?_⟩
    rintro i mm H' ⟨rfl, hi, G', dr, n', acc, rs, r', l', ra, hrs, w3⟩
    obtain ⟨stop, turn⟩ := wk G' H' l' r'.i fun a o e => ((r'.unres hidA.r rfl).1.rs a o e).1
    by_cases hlt : i < ds.length
    · obtain ⟨go, yl⟩ := turn i ds[i] (List.getElem?_eq_getElem hlt)
      refine .inr ⟨go, fun H' => i + 1 ≤ ds.length ∧ ∃ G' dr n' acc rs, Rl k (upd Rx A (.lst acc)) dr env σ G' H' n' ∧ Le G1 G' ∧ RpA k G' acc rs ∧ rs.length ≤ i + 1 ∧
        wp dr n' (lcGo tg ft fe (wipeE env vs) (ds.drop (i + 1))) (fun dr n'' rs' => ∀ x G3 H3, Le G G3 → Rl k R dr env σ G3 H3 n'' → RV k R dr env σ G3 H3 x (.o, .lst (rs ++ rs')) → Q x H3) (fun _ _ _ => False), fun H' h => ⟨ds.length - (i + 1), by omega, rfl, h⟩, fun x H4 y => ?_⟩
      obtain ⟨G4, u4, p4⟩ := yl x H4 y
      obtain ⟨r4, l4⟩ := r'.up u4
      rw [List.drop_eq_getElem_cons hlt, lcGo] at w3
      obtain ⟨env1, e1, w4⟩ := wp_of.mp (wp_bind' w3)
      have rw4 := r4.wipe vs
      refine hg _ dr _ _ _ H4 n' x ds[i] env1 _ rw4 p4.clean e1 fun σ1 r5 ag len1 => ?_
      have ag2 : ∀ (j : Nat) d, env[j]? = some (some (true, d)) → env1[j]? = some (some (true, d)) ∧ σ1[j]? = σ[j]? := fun j d hj => by
        have nj := noOwn_in hc.2 hj
        obtain ⟨a1, a2⟩ := ag j nj
        exact ⟨by rw [a2, wipeE_get env j vs nj]; exact hj, by rw [a1, wipe_get σ j vs nj]⟩
      have hw : wipe σ1 vs = wipe σ vs := wipe_same (by rw [len1, wipe_length]) fun j hj => by rw [(ag j hj).1, wipe_get σ j vs hj]
      refine ⟨hw, ?_⟩
      refine ht.run r5 (wp_bind' w4) (fun _ _ _ h => h.elim) fun dr n6 b G6 H6 w6 l6 r6 => ?_
      have l46 : Le G' G6 := l4.trans l6
      cases b with
      | false =>
        rw [if_neg (by simp)] at w6
        rw [if_neg (by simp)]
        exact ⟨hlt, G6, dr, n6, acc, rs, r4.back r6 l6 ag2, l'.trans l46, ra.mono l46, by omega, w6⟩
      | true =>
        rw [if_pos rfl] at w6
        rw [if_pos rfl]
        refine he.run r6 (wp_bind' w6) (fun _ _ _ h => h.elim) fun dr n7 v y G7 H7 w7 l7 r7 s7 => ?_
        cases hv : isV v with
        | true => rw [hv, if_pos rfl] at w7; exact w7.elim
        | false =>
          rw [hv, if_neg (by simp)] at w7
          have p7 := rs_s hv s7
          have l47 : Le G' G7 := l46.trans l7
          have r8 := r4.back r7 (l6.trans l7) ag2
          obtain ⟨hA7, _, _, _⟩ := r8.rs A _ upd_same
          have hl8 : acc.length ≤ 100000 := by rw [ra.len]; omega
          refine ⟨acc, hA7, Nat.lt_of_le_of_lt hl8 (by decide), hlt, G7, dr, n7, acc ++ [y], rs ++ [v.2], r8.rput hidA.r rfl (by intro ps z; cases z) (not_code (.inl ⟨_, rfl⟩)), l'.trans l47, (ra.mono l47).app (.cons p7 .nil), by simp; omega, ?_⟩
          refine wp_mono (wp_bind' w7) (fun dr n8 rs' q x G3 H3 l3 r3 rv => ?_) fun _ _ _ h => h
          exact q x G3 H3 l3 r3 (by simpa using rv)
    · have e : i = ds.length := by omega
      subst e
      rw [List.drop_length, lcGo] at w3
      refine .inl ⟨stop, ?_⟩
      obtain ⟨r9, hA9, hh, ap⟩ := r'.unres hidA.r rfl
      refine w3 _ G' H' (l1.trans l') (r9.sub lx) (RV.sub lx ⟨A, rfl, ⟨_, hA9, ?_, hh⟩, ap⟩)
      rw [List.append_nil]
      exact .lst ra
  · rw [if_neg hc] at w1; exact w1.elim
/-! ### dicts -/
def putD (es : List (Ky × D)) (q : Ky) (d : D) : List (Ky × D) := if es.any (fun e => decide (e.1 = q)) then es.map (fun e => if e.1 = q then (e.1, d) else e) else es ++ [(q, d)]
def getD (es : List (Ky × D)) (q : Ky) : Option D := (es.find? fun e => decide (e.1 = q)).map (·.2)
theorem RpD.any {q : Ky} : ∀ {kvs : List (Key × V)} {es : List (Ky × D)}, RpD k G kvs es → kvs.any (fun e => decide (e.1 = kk q)) = es.any (fun e => decide (e.1 = q))
  | _, _, .nil => rfl
  | _, _, .cons (q := q') _ a => by
    simp only [List.any_cons]
    rw [RpD.any a]
    congr 1
    by_cases h : q' = q
    · subst h; simp
    · have : ¬ kk q' = kk q := fun z => h (kk_inj z)
      simp [h, this]
theorem RpD.mapP {q : Ky} {v : V} {d : D} (p : Rp k G v d) : ∀ {kvs : List (Key × V)} {es : List (Ky × D)}, RpD k G kvs es → RpD k G (kvs.map fun e => if e.1 = kk q then (e.1, v) else e) (es.map fun e => if e.1 = q then (e.1, d) else e)
  | _, _, .nil => .nil
  | _, _, .cons (q := q') h a => by
    simp only [List.map_cons]
    by_cases e : q' = q
    · subst e; rw [if_pos rfl, if_pos rfl]; exact .cons p (RpD.mapP p a)
    · rw [if_neg (fun z => e (kk_inj z)), if_neg e]; exact .cons h (RpD.mapP p a)
theorem RpD.snoc {q : Ky} {v : V} {d : D} (p : Rp k G v d) : ∀ {kvs : List (Key × V)} {es : List (Ky × D)}, RpD k G kvs es → RpD k G (kvs ++ [(kk q, v)]) (es ++ [(q, d)])
  | _, _, .nil => .cons p .nil
  | _, _, .cons h a => .cons h (RpD.snoc p a)
theorem RpD.put {q : Ky} {v : V} {d : D} {kvs : List (Key × V)} {es : List (Ky × D)} (r : RpD k G kvs es) (p : Rp k G v d) : RpD k G (putK kvs (kk q) v) (putD es q d) := by
  rw [putK_putE]
  unfold putE putD
  rw [r.any]
  split
  · exact r.mapP p
  · exact r.snoc p
theorem RpD.val {q : Ky} : ∀ {kvs : List (Key × V)} {es : List (Ky × D)}, RpD k G kvs es → (valV kvs (kk q) = none ∧ getD es q = none) ∨ ∃ v d, valV kvs (kk q) = some v ∧ getD es q = some d ∧ Rp k G v d
  | _, _, .nil => .inl ⟨rfl, rfl⟩
  | (_, v) :: kvs, (q', d) :: es, .cons h a => by
    by_cases e : q' = q
    · subst e
      exact .inr ⟨v, d, by simp [valV], by simp [getD], h⟩
    · have e2 : ¬ kk q' = kk q := fun z => e (kk_inj z)
      rcases RpD.val (q := q) a with ⟨h1, h2⟩ | ⟨v', d', h1, h2, h3⟩
      · exact .inl ⟨by simpa [valV, e2] using h1, by simpa [getD, e] using h2⟩
      · exact .inr ⟨v', d', by simpa [valV, e2] using h1, by simpa [getD, e] using h2, h3⟩
theorem putD_len (es : List (Ky × D)) (q : Ky) (d : D) : (putD es q d).length ≤ es.length + 1 := by
  unfold putD
  split <;> simp
/-- a key of data -/
def keyD : D → Option Ky
  | .int i => some (.inl i)
  | .str w => some (.inr w)
  | _ => none
theorem key_kV {v : V} {d : D} {q : Ky} (e : keyD d = some q) (h : Rp k G v d) : v = kV (kk q) := by
  cases d <;> simp only [keyD, Option.some.injEq] at e <;> first
    | (cases e; done)
    | skip
  · subst e; exact rp_int h
  · subst e; exact rp_str h
/-- the turns of a dict comprehension -/
def dcGo (tg : D → Env → Option Env) (ft : Env → M Bool) (fk fe : Env → M Vl) (env : Env) : List (Ky × D) → List D → M (List (Ky × D))
  | es, [] => .ok es
  | es, d :: ds => (M.of (tg d env)).bind fun env1 => (ft env1).bind fun b => if b then (fk env1).bind fun kr => (M.of (keyD kr.2)).bind fun q => (fe env1).bind fun r => if isV r || isV kr then .bad else dcGo tg ft fk fe env (putD es q r.2) ds else dcGo tg ft fk fe env es ds
def eDc (fi : Env → M (List D)) (tg : D → Env → Option Env) (ft : Env → M Bool) (fk fe : Env → M Vl) (vs : List Nat) : Env → M Vl := fun env => (fi env).bind fun ds => if ds.length ≤ 100000 ∧ noOwn env vs = true then ((dcGo tg ft fk fe (wipeE env vs) [] ds).nox).bind fun rs => .ok (.o, .dic rs) else .bad
theorem se_dc {ti : TI} {fi : Env → M (List D)} {vs : List Nat} {g : TG} {tg : D → Env → Option Env} {tt : TT} {ft : Env → M Bool} {tk te : TE} {fk fe : Env → M Vl} (hi : SI k E ti fi) (hg : TgS k vs g tg) (ht : ST k E0 tt ft) (hk : SE k E0 tk fk) (he : SE k E0 te fe) : SE k E (tDc ti g tt tk te vs) (eDc fi tg ft fk fe vs) := fun R dr env σ G H n Q rl w => by
  refine hi R dr env σ G H n _ rl (wp_mono (wp_bind' w) (fun dr n1 ds w1 J Rx G1 H1 lx l1 r1 wk => ?_) fun _ _ _ h => h)
  by_cases hc : ds.length ≤ 100000 ∧ noOwn env vs = true
  · rw [if_pos hc] at w1
    have w2 := wp_nox.mp (wp_bind' w1)
    intro A hA
    obtain ⟨hidA, apA⟩ := r1.no hA
    have rA : Rl k (upd Rx A (.dK [])) dr env σ G1 (upd H1 A (.dK [])) n1 := (r1.new hA).res upd_same (by intro ps z; cases z) hidA apA
    refine ⟨fun i mm H' => mm = ds.length - i ∧ i ≤ ds.length ∧ ∃ G' dr n' acc es, Rl k (upd Rx A (.dK acc)) dr env σ G' H' n' ∧ Le G1 G' ∧ RpD k G' acc es ∧ es.length ≤ i ∧
      wp dr n' (dcGo tg ft fk fe (wipeE env vs) es (ds.drop i)) (fun dr n'' rs' => ∀ x G3 H3, Le G G3 → Rl k R dr env σ G3 H3 n'' → RV k R dr env σ G3 H3 x (.o, .dic rs') → Q x H3) (fun _ _ _ => False),
      ⟨ds.length, by simp, Nat.zero_le _, G1, dr, n1, [], [], rA, Le.refl _, .nil, Nat.zero_le _, w2⟩, ?_⟩
    rintro i mm H' ⟨rfl, hi, G', dr, n', acc, es, r', l', ra, hrs, w3⟩
    obtain ⟨stop, turn⟩ := wk G' H' l' r'.i fun a o e => ((r'.unres hidA.r rfl).1.rs a o e).1
    by_cases hlt : i < ds.length
    · obtain ⟨go, yl⟩ := turn i ds[i] (List.getElem?_eq_getElem hlt)
      refine .inr ⟨go, fun H' => i + 1 ≤ ds.length ∧ ∃ G' dr n' acc es, Rl k (upd Rx A (.dK acc)) dr env σ G' H' n' ∧ Le G1 G' ∧ RpD k G' acc es ∧ es.length ≤ i + 1 ∧
        wp dr n' (dcGo tg ft fk fe (wipeE env vs) es (ds.drop (i + 1))) (fun dr n'' rs' => ∀ x G3 H3, Le G G3 → Rl k R dr env σ G3 H3 n'' → RV k R dr env σ G3 H3 x (.o, .dic rs') → Q x H3) (fun _ _ _ => False), fun H' h => ⟨ds.length - (i + 1), by omega, rfl, h⟩, fun x H4 y => ?_⟩
      obtain ⟨G4, u4, p4⟩ := yl x H4 y
      obtain ⟨r4, l4⟩ := r'.up u4
      rw [List.drop_eq_getElem_cons hlt, dcGo] at w3
      obtain ⟨env1, e1, w4⟩ := wp_of.mp (wp_bind' w3)
      have rw4 := r4.wipe vs
      refine hg _ dr _ _ _ H4 n' x ds[i] env1 _ rw4 p4.clean e1 fun σ1 r5 ag len1 => ?_
      have ag2 : ∀ (j : Nat) d, env[j]? = some (some (true, d)) → env1[j]? = some (some (true, d)) ∧ σ1[j]? = σ[j]? := fun j d hj => by
        have nj := noOwn_in hc.2 hj
        obtain ⟨a1, a2⟩ := ag j nj
        exact ⟨by rw [a2, wipeE_get env j vs nj]; exact hj, by rw [a1, wipe_get σ j vs nj]⟩
      have hw : wipe σ1 vs = wipe σ vs := wipe_same (by rw [len1, wipe_length]) fun j hj => by rw [(ag j hj).1, wipe_get σ j vs hj]
      refine ⟨hw, ?_⟩
      refine ht.run r5 (wp_bind' w4) (fun _ _ _ h => h.elim) fun dr n6 b G6 H6 w6 l6 r6 => ?_
      have l46 : Le G' G6 := l4.trans l6
      cases b with
      | false =>
        rw [if_neg (by simp)] at w6
        rw [if_neg (by simp)]
        exact ⟨hlt, G6, dr, n6, acc, es, r4.back r6 l6 ag2, l'.trans l46, ra.mono l46, by omega, w6⟩
      | true =>
        rw [if_pos rfl] at w6
        rw [if_pos rfl]
        refine hk.run r6 (wp_bind' w6) (fun _ _ _ h => h.elim) fun dr n7 kv y G7 H7 w7 l7 r7 s7 => ?_
        obtain ⟨q, hq, w7⟩ := wp_of.mp (wp_bind' w7)
        refine he.run r7 (wp_bind' w7) (fun _ _ _ h => h.elim) fun dr n8 v z G8 H8 w8 l8 r8 s8 => ?_
        cases hv : (isV v || isV kv) with
        | true => rw [hv, if_pos rfl] at w8; exact w8.elim
        | false =>
          rw [hv, if_neg (by simp)] at w8
          rw [Bool.or_eq_false_iff] at hv
          have p8 := rs_s hv.1 s8
          have l48 : Le G' G8 := (l46.trans l7).trans l8
          have r9 := r4.back r8 ((l6.trans l7).trans l8) ag2
          obtain ⟨hA7, _, _, _⟩ := r9.rs A _ upd_same
          have hl8 : acc.length ≤ 100000 := by rw [ra.len]; omega
          have := putD_len es q v.2
          exact ⟨acc, kk q, key_kV hq (rs_s hv.2 s7), hA7, Nat.lt_of_le_of_lt hl8 (by decide), hlt, G8, dr, n8, putK acc (kk q) z, putD es q v.2, r9.rput hidA.r rfl (by intro ps z; cases z) (not_code (.inr ⟨_, rfl⟩)), l'.trans l48, (ra.mono l48).put p8, by omega, w8⟩
    · have e : i = ds.length := by omega
      subst e
      rw [List.drop_length, dcGo] at w3
      refine .inl ⟨stop, ?_⟩
      obtain ⟨r9, hA9, hh, ap⟩ := r'.unres hidA.r rfl
      exact w3 _ G' H' (l1.trans l') (r9.sub lx) (RV.sub lx ⟨A, rfl, ⟨_, hA9, .dic ra, hh⟩, ap⟩)
  · rw [if_neg hc] at w1; exact w1.elim
end
end Y

namespace Y
open PySem PySem.Spec PyProof.Rows L2 Z
/-! ### statements -/
inductive Out where
  | nx (env : Env) | rt (v : Vl) | bk (env : Env) | ct (env : Env)
def OP (k : Kx) (R : Hp) (G : Hp) (D : Ends) : Dr → Nat → Out → Prop
  | dr, n, .nx e => ∀ σ2 G2 H2, Le G G2 → Rl k R dr e σ2 G2 H2 n → D.nx σ2 H2
  | dr, n, .bk e => ∀ σ2 G2 H2, Le G G2 → Rl k R dr e σ2 G2 H2 n → D.bk σ2 H2
  | dr, n, .ct e => ∀ σ2 G2 H2, Le G G2 → Rl k R dr e σ2 G2 H2 n → D.ct σ2 H2
  | dr, n, .rt v => ∀ x G2 H2, Le G G2 → Rl k R dr [] [] G2 H2 n → RV k R dr [] [] G2 H2 x v → D.rt x H2
def SS (k : Kx) (E : XK) (t : TS) (f : Env → M Out) : Prop := ∀ R dr env σ G H n (D : Ends), Rl k R dr env σ G H n → wp dr n (f env) (OP k R G D) (XP k R G E) → t D σ H
theorem OP.mono {k : Kx} {R G G2 : Hp} {D : Ends} {dr : Dr} {n : Nat} {o : Out} (l : Le G G2) (h : OP k R G D dr n o) : OP k R G2 D dr n o := by
  cases o with
  | nx e => exact fun σ2 G3 H3 l3 r => h σ2 G3 H3 (l.trans l3) r
  | bk e => exact fun σ2 G3 H3 l3 r => h σ2 G3 H3 (l.trans l3) r
  | ct e => exact fun σ2 G3 H3 l3 r => h σ2 G3 H3 (l.trans l3) r
  | rt v => exact fun x G3 H3 l3 r q => h x G3 H3 (l.trans l3) r q
def bNext : Env → M Out := fun env => .ok (.nx env)
def bBrk : Env → M Out := fun env => .ok (.bk env)
def bCnt : Env → M Out := fun env => .ok (.ct env)
def bSeq (f g : Env → M Out) : Env → M Out := fun env => (f env).bind fun o => match o with
  | .nx e => g e
  | o => .ok o
def bRet (fe : Env → M Vl) : Env → M Out := fun env => (fe env).bind fun r => .ok (.rt (match r.1 with | .v _ => (.o, r.2) | _ => r))
def bSet (i : Nat) (fe : Env → M Vl) : Env → M Out := fun env => (fe env).bind fun r => match r.1 with
  | .s => .ok (.nx (env.set i (some (false, r.2))))
  | .o => .ok (.nx (env.set i (some (true, r.2))))
  | .v _ => .bad
def bAsg (tg : D → Env → Option Env) (fe : Env → M Vl) : Env → M Out := fun env => (fe env).bind fun r => if isV r then .bad else (M.of (tg r.2 env)).bind fun e => .ok (.nx e)
def bDrop (fe : Env → M Vl) : Env → M Out := fun env => (fe env).bind fun _ => .ok (.nx env)
def bIf (ft : Env → M Bool) (f g : Env → M Out) : Env → M Out := fun env => (ft env).bind fun b => if b then f env else g env
def bRaise (C : Str) : Env → M Out := fun _ => .raise ⟨C, []⟩
def forGo (tg : D → Env → Option Env) (fb : Env → M Out) : List D → Env → M Out
  | [], env => .ok (.nx env)
  | d :: ds, env => (M.of (tg d env)).bind fun e1 => (fb e1).bind fun o => match o with
    | .nx e => forGo tg fb ds e
    | .ct e => forGo tg fb ds e
    | .bk e => .ok (.nx e)
    | .rt v => .ok (.rt v)
def bFor (fi : Env → M (List D)) (tg : D → Env → Option Env) (fb : Env → M Out) : Env → M Out := fun env => (fi env).bind fun ds => forGo tg fb ds env
def whileGo (ft : Env → M Bool) (fb : Env → M Out) : Nat → Env → M Out
  | 0, _ => .bad
  | f + 1, env => (ft env).bind fun b => if b then (fb env).bind fun o => match o with
    | .nx e => whileGo ft fb f e
    | .ct e => whileGo ft fb f e
    | .bk e => .ok (.nx e)
    | .rt v => .ok (.rt v)
    else .ok (.nx env)
def bWhile (fuel : Nat) (ft : Env → M Bool) (fb : Env → M Out) : Env → M Out := fun env => whileGo ft fb fuel env
/-- what is ours in these slots is shown from here on -/
def frzE (env : Env) : List Nat → Env
  | [] => env
  | i :: is => match env[i]? with
    | some (some (true, d)) => frzE (env.set i (some (false, d))) is
    | _ => frzE env is
def bFrz (is : List Nat) (f : Env → M Out) : Env → M Out := fun env => f (frzE env is)
section
variable {k : Kx} {E : XK} {R : Hp} {dr : Dr} {env : Env} {σ : L2.St} {G G2 H H2 : Hp} {n n' : Nat} {te : TE} {fe : Env → M Vl} {t u tb : TS} {f g fb : Env → M Out} {tt : TT} {ft : Env → M Bool}
theorem ss_next : SS k E tNext bNext := fun R dr env σ G H n D r w => w σ G H (Le.refl _) r
theorem ss_break : SS k E tBreak bBrk := fun R dr env σ G H n D r w => w σ G H (Le.refl _) r
theorem ss_cont : SS k E tCont bCnt := fun R dr env σ G H n D r w => w σ G H (Le.refl _) r
theorem ss_seq (h1 : SS k E t f) (h2 : SS k E u g) : SS k E (tSeq t u) (bSeq f g) := fun R dr env σ G H n D r w => by
  refine h1 R dr env σ G H n _ r (wp_mono (wp_bind' w) (fun dr n o q => ?_) fun _ _ _ h => h)
  cases o with
  | nx e => exact fun σ2 G2 H2 l r2 => h2 R dr e σ2 G2 H2 n D r2 (wp_mono q (fun _ _ _ z => z.mono l) fun _ _ _ z => z.mono l)
  | bk e => exact q
  | ct e => exact q
  | rt v => exact q
theorem ss_ret (he : SE k E te fe) : SS k E (tRet te) (bRet fe) := fun R dr env σ G H n D r w => by
  refine he R dr env σ G H n _ r (wp_mono (wp_bind' w) (fun dr n v q x G2 H2 l r2 rv => ?_) fun _ _ _ h => h)
  obtain ⟨m, d⟩ := v
  cases m with
  | s => exact q x G2 H2 l r2.bare rv
  | o =>
    obtain ⟨a, e, h1, _⟩ := rv
    exact q x G2 H2 l r2.bare ⟨a, e, h1, fun i d h => by simp at h⟩
  | v i =>
    obtain ⟨h1, h2⟩ := rv
    obtain ⟨a, f1, f2⟩ := r2.ow i d h2
    rw [h1] at f1; cases f1
    exact q _ G2 H2 l r2.bare ⟨a, rfl, f2, fun i d h => by simp at h⟩
theorem ss_set {i : Nat} (he : SE k E te fe) : SS k E (tAsg te (gName i)) (bSet i fe) := fun R dr env σ G H n D r w => by
  refine he R dr env σ G H n _ r (wp_mono (wp_bind' w) (fun dr n v q x G2 H2 l r2 rv => ?_) fun _ _ _ h => h)
  obtain ⟨m, d⟩ := v
  cases m with
  | s => exact q _ G2 H2 l (r2.set rv)
  | o =>
    obtain ⟨a, rfl, h1, h2⟩ := rv
    exact q _ G2 H2 l (r2.setO h1 h2)
  | v i => exact q.elim
theorem ss_asg {vs : List Nat} {gg : TG} {tg : D → Env → Option Env} (hg : TgS k vs gg tg) (he : SE k E te fe) : SS k E (tAsg te gg) (bAsg tg fe) := fun R dr env σ G H n D r w => by
  refine he.run r (wp_bind' w) (fun _ _ _ h => h) fun dr n1 v x G1 H1 w1 l1 r1 s1 => ?_
  cases hv : isV v with
  | true => rw [hv, if_pos rfl] at w1; exact w1.elim
  | false =>
    rw [hv, if_neg (by simp)] at w1
    obtain ⟨e, he, w2⟩ := wp_of.mp (wp_bind' w1)
    exact hg R dr env σ G1 H1 n1 x v.2 e _ r1 (rs_s hv s1) he fun σ1 r3 _ _ => w2 σ1 G1 H1 l1 r3
theorem ss_drop (he : SE k E te fe) : SS k E (tDrop te) (bDrop fe) := fun R dr env σ G H n D r w => by
  exact he R dr env σ G H n _ r (wp_mono (wp_bind' w) (fun dr n v q x G2 H2 l r2 rv => q σ G2 H2 l r2) fun _ _ _ h => h)
theorem ss_if (ht : ST k E tt ft) (h1 : SS k E t f) (h2 : SS k E u g) : SS k E (tIfS tt t u) (bIf ft f g) := fun R dr env σ G H n D r w => by
  refine ht.run r (wp_bind' w) (fun _ _ _ h => h) fun dr n1 b G1 H1 w1 l1 r1 => ?_
  cases b with
  | true => exact h1 R dr env σ G1 H1 n1 D r1 (wp_mono w1 (fun _ _ _ z => z.mono l1) fun _ _ _ z => z.mono l1)
  | false => exact h2 R dr env σ G1 H1 n1 D r1 (wp_mono w1 (fun _ _ _ z => z.mono l1) fun _ _ _ z => z.mono l1)
theorem ss_raise {C : Str} : SS k E (tRaise (fun cls d _ H => E cls d H) (fun _ H Q => Q (.ref (k.ca C)) none H)) (bRaise C) := fun R dr env σ G H n D r w => w none G H (Le.refl _) r.bare rfl
theorem frz_ok : ∀ (is : List Nat) {env : Env} {G : Hp}, Rl k R dr env σ G H n → ∃ G2, Le G G2 ∧ Rl k R dr (frzE env is) σ G2 H n
  | [], env, G, r => ⟨G, Le.refl _, r⟩
  | i :: is, env, G, r => by
    unfold frzE
    split
    · rename_i d h
      obtain ⟨G2, l2, r2⟩ := r.freeze h
      obtain ⟨G3, l3, r3⟩ := frz_ok is r2
      exact ⟨G3, l2.trans l3, r3⟩
    · exact frz_ok is r
theorem ss_frz {is : List Nat} (h : SS k E t f) : SS k E t (bFrz is f) := fun R dr env σ G H n D r w => by
  obtain ⟨G2, l2, r2⟩ := frz_ok is r
  exact h R dr _ σ G2 H n D r2 (wp_mono w (fun _ _ _ z => z.mono l2) fun _ _ _ z => z.mono l2)
theorem ss_for {ti : TI} {fi : Env → M (List D)} {vs : List Nat} {gg : TG} {tg : D → Env → Option Env} (hi : SI k E ti fi) (hg : TgS k vs gg tg) (hb : SS k E tb fb) : SS k E (tFor ti gg tb) (bFor fi tg fb) := fun R dr env σ G H n D rl w => by
  refine hi R dr env σ G H n _ rl (wp_mono (wp_bind' w) (fun dr n1 ds w1 J Rx G1 H1 lx l1 r1 wk => ?_) fun _ _ _ h => h)
  refine ⟨fun i mm σ' H' => mm = ds.length - i ∧ i ≤ ds.length ∧ ∃ G' dr' n' env', Rl k Rx dr' env' σ' G' H' n' ∧ Le G1 G' ∧ wp dr' n' (forGo tg fb (ds.drop i) env') (OP k R G D) (XP k R G E), ⟨ds.length, by simp, Nat.zero_le _, G1, dr, n1, env, r1, Le.refl _, w1⟩, ?_⟩
  rintro i mm σ' H' ⟨rfl, hi, G', dr', n', env', r', l', w2⟩
  obtain ⟨stop, turn⟩ := wk G' H' l' r'.i fun a o e => (r'.rs a o e).1
  by_cases hlt : i < ds.length
  · obtain ⟨go, yl⟩ := turn i ds[i] (List.getElem?_eq_getElem hlt)
    refine .inr ⟨go, fun σ' H' => i + 1 ≤ ds.length ∧ ∃ G' dr' n' env', Rl k Rx dr' env' σ' G' H' n' ∧ Le G1 G' ∧ wp dr' n' (forGo tg fb (ds.drop (i + 1)) env') (OP k R G D) (XP k R G E), fun σ' H' h => ⟨ds.length - (i + 1), by omega, rfl, h⟩, fun x H4 y => ?_⟩
    obtain ⟨G4, u4, p4⟩ := yl x H4 y
    obtain ⟨r4, l4⟩ := r'.up u4
    rw [List.drop_eq_getElem_cons hlt, forGo] at w2
    obtain ⟨e1, h1, w3⟩ := wp_of.mp (wp_bind' w2)
    refine hg Rx dr' env' σ' (clean G4) H4 n' x ds[i] e1 _ r4 p4.clean h1 fun σ1 r5 _ _ => ?_
    have lg : Le G (clean G4) := l1.trans (l'.trans l4)
    refine hb Rx dr' e1 σ1 (clean G4) H4 n' _ r5 (wp_mono (wp_bind' w3) (fun dr n o q => ?_) fun _ _ _ z => XP.sub lx (z.mono lg))
    cases o with
    | nx e => exact fun σ2 G5 H5 l5 r6 => ⟨hlt, G5, dr, n, e, r6, (l'.trans l4).trans l5, q⟩
    | ct e => exact fun σ2 G5 H5 l5 r6 => ⟨hlt, G5, dr, n, e, r6, (l'.trans l4).trans l5, q⟩
    | bk e => exact fun σ2 G5 H5 l5 r6 => q σ2 G5 H5 (lg.trans l5) (r6.sub lx)
    | rt v => exact fun x G5 H5 l5 r6 rv => q x G5 H5 (lg.trans l5) (r6.sub lx) (RV.sub lx rv)
  · have e : i = ds.length := by omega
    subst e
    rw [List.drop_length, forGo] at w2
    exact .inl ⟨stop, w2 σ' G' H' (l1.trans l') (r'.sub lx)⟩
theorem ss_while {fuel : Nat} (ht : ST k E tt ft) (hb : SS k E tb fb) : SS k E (tWhile tt tb) (bWhile fuel ft fb) := fun R dr env σ G H n D rl w => by
  refine ⟨fun mm σ' H' => ∃ G' dr' n' env', Rl k R dr' env' σ' G' H' n' ∧ Le G G' ∧ wp dr' n' (whileGo ft fb mm env') (OP k R G D) (XP k R G E), ⟨fuel, G, dr, n, env, rl, Le.refl _, w⟩, ?_⟩
  rintro mm σ' H' ⟨G', dr', n', env', r', l', w2⟩
  cases mm with
  | zero => exact (by exact w2 : False).elim
  | succ f =>
    rw [whileGo] at w2
    refine ht.run r' (wp_bind' w2) (fun _ _ _ h => h.mono l') fun dr n1 b G1 H1 w3 l1 r1 => ?_
    have lg := l'.trans l1
    cases b with
    | false =>
      rw [if_neg (by simp)] at w3 ⊢
      exact w3 σ' G1 H1 lg r1
    | true =>
      rw [if_pos rfl] at w3 ⊢
      refine ⟨fun σ' H' => ∃ G' dr' n' env', Rl k R dr' env' σ' G' H' n' ∧ Le G G' ∧ wp dr' n' (whileGo ft fb f env') (OP k R G D) (XP k R G E), fun σ' H' h => ⟨f, Nat.lt_succ_self _, h⟩, ?_⟩
      refine hb R dr env' σ' G1 H1 n1 _ r1 (wp_mono (wp_bind' w3) (fun dr n o q => ?_) fun _ _ _ z => z.mono lg)
      cases o with
      | nx e => exact fun σ2 G5 H5 l5 r6 => ⟨G5, dr, n, e, r6, lg.trans l5, q⟩
      | ct e => exact fun σ2 G5 H5 l5 r6 => ⟨G5, dr, n, e, r6, lg.trans l5, q⟩
      | bk e => exact fun σ2 G5 H5 l5 r6 => q σ2 G5 H5 (lg.trans l5) r6
      | rt v => exact fun x G5 H5 l5 r6 rv => q x G5 H5 (lg.trans l5) r6 rv
/-! ### several targets at once -/
/-- what is held while the rest is reckoned -/
def RVs (k : Kx) (R : Hp) (dr : Dr) (env : Env) (σ : L2.St) (G H : Hp) : List V → List Vl → Prop
  | [], [] => True
  | x :: xs, r :: rs => RV k R dr env σ G H x r ∧ (∀ a, r.1 = .o → x = .ref a → ∃ o, H a = some o ∧ RVs k (upd R a o) dr env σ G H xs rs) ∧ (r.1 ≠ .o → RVs k R dr env σ G H xs rs)
  | _, _ => False
def SAo (k : Kx) (E : XK) (t : TA) (f : Env → M (List Vl)) : Prop := ∀ R dr env σ G H n Q, Rl k R dr env σ G H n →
  wp dr n (f env) (fun dr n' r => ∀ xs G2 H2, Le G G2 → Rl k R dr env σ G2 H2 n' → RVs k R dr env σ G2 H2 xs r → Q xs H2) (XP k R G E) → t σ H Q
theorem sao_nil : SAo k E tNil eNil := fun R dr env σ G H n Q r w => w [] G H (Le.refl _) r trivial
theorem sao_cons {ta : TE} {fa : Env → M Vl} {tr : TA} {fr : Env → M (List Vl)} (ha : SE k E ta fa) (hr : SAo k E tr fr) : SAo k E (tCons ta tr) (eCons fa fr) := fun R dr env σ G H n Q rl w => by
  refine ha R dr env σ G H n _ rl (wp_mono (wp_bind' w) (fun dr n1 v w1 x G1 H1 l1 r1 rv => ?_) fun _ _ _ h => h)
  obtain ⟨m, d⟩ := v
  cases m with
  | o =>
    obtain ⟨a, rfl, ⟨o, h1, h2, h3⟩, h4⟩ := rv
    refine hr (upd R a o) dr env σ G1 H1 n1 _ (r1.res h1 h2.nt h3 h4) (wp_mono (wp_bind' w1) (fun dr n2 vs q xs G2 H2 l2 r2 rs => ?_) fun dr n2 x z dd G2 H2 l2 r2 hd => z dd G2 H2 (l1.trans l2) (r2.unres h3.r h2.nf).1 hd)
    obtain ⟨r3, g1, g2, g3⟩ := r2.unres h3.r h2.nf
    exact q _ G2 H2 (l1.trans l2) r3 ⟨⟨a, rfl, ⟨o, g1, h2.mono l2, g2⟩, g3⟩, fun b _ e => by cases e; exact ⟨o, g1, rs⟩, fun z => absurd rfl z⟩
  | s =>
    refine hr R dr env σ G1 H1 n1 _ r1 (wp_mono (wp_bind' w1) (fun dr n2 vs q xs G2 H2 l2 r2 rs => ?_) fun _ _ _ z => z.mono l1)
    exact q _ G2 H2 (l1.trans l2) r2 ⟨Rp.mono l2 rv, fun _ z => (by cases z), fun _ => rs⟩
  | v i =>
    refine hr R dr env σ G1 H1 n1 _ r1 (wp_mono (wp_bind' w1) (fun dr n2 vs q xs G2 H2 l2 r2 rs => ?_) fun _ _ _ z => z.mono l1)
    exact q _ G2 H2 (l1.trans l2) r2 ⟨rv, fun _ z => (by cases z), fun _ => rs⟩
def setsE (env : Env) : List Nat → List Vl → Option Env
  | [], [] => some env
  | i :: is, (.s, d) :: rs => setsE (env.set i (some (false, d))) is rs
  | i :: is, (.o, d) :: rs => setsE (env.set i (some (true, d))) is rs
  | _, _ => none
def noV (rs : List Vl) : Bool := rs.all fun r => !isV r
def bSets (is : List Nat) (fa : Env → M (List Vl)) : Env → M Out := fun env => (fa env).bind fun rs => (M.of (setsE env is rs)).bind fun e => .ok (.nx e)
def setsV (σ : L2.St) : List Nat → List V → L2.St
  | i :: is, x :: xs => setsV (σ.set i (some x)) is xs
  | _, _ => σ
theorem sets_ok : ∀ (is : List Nat) (xs : List V) (rs : List Vl) {R : Hp} {env env1 : Env} {σ : L2.St}, Rl k R dr env σ G H n → setsE env is rs = some env1 → (∃ (R1 : Hp) (env0 : Env) (σ0 : L2.St), RVs k R1 dr env0 σ0 G H xs rs ∧ (∀ a, R1 a = none → Apart env0 σ0 a → R a = none ∧ Apart env σ a)) → xs.length = rs.length ∧ Rl k R dr env1 (setsV σ is xs) G H n
  | [], xs, rs, R, env, env1, σ, r, e, ⟨R1, env0, σ0, h, _⟩ => by
    cases rs with
    | nil =>
      cases e
      cases xs with
      | nil => exact ⟨rfl, r⟩
      | cons _ _ => exact h.elim
    | cons _ _ => cases e
  | i :: is, xs, rs, R, env, env1, σ, r, e, ⟨R1, env0, σ0, h, hap⟩ => by
    cases rs with
    | nil => cases e
    | cons v rs =>
      cases xs with
      | nil => exact h.elim
      | cons x xs =>
        obtain ⟨m, d⟩ := v
        obtain ⟨h1, h2, h3⟩ := h
        cases m with
        | v j => cases e
        | s =>
          obtain ⟨e1, e2⟩ := sets_ok is xs rs (r.set (i := i) h1) e ⟨R1, env0, σ0, h3 (by intro z; cases z), fun a f1 f2 => ⟨(hap a f1 f2).1, fun j d' g1 g2 => by
            rcases set_get g1 with ⟨z1, z2, z3⟩ | ⟨z1, z2⟩
            · cases z2
            · rw [List.getElem?_set_ne z1] at g2
              exact (hap a f1 f2).2 j d' z2 g2⟩⟩
          exact ⟨by simp [e1], e2⟩
        | o =>
          obtain ⟨a, rfl, ⟨o, g1, g2, g3⟩, g4⟩ := h1
          obtain ⟨z1, z2⟩ := hap a g3.r g4
          obtain ⟨o', f1, f2⟩ := h2 a rfl rfl
          obtain ⟨e1, e2⟩ := sets_ok is xs rs (r.setO (i := i) ⟨o, g1, g2, g3.g, z1, g3.d⟩ z2) e ⟨upd R1 a o', env0, σ0, f2, fun b y1 y2 => by
            have nb : b ≠ a := fun z => by rw [z, upd_same] at y1; cases y1
            rw [upd_ne nb] at y1
            obtain ⟨w1, w2⟩ := hap b y1 y2
            refine ⟨w1, fun j d' p1 p2 => ?_⟩
            rcases set_get p1 with ⟨k1, k2, k3⟩ | ⟨k1, k2⟩
            · subst k1
              rw [List.getElem?_set_self (Nat.lt_of_lt_of_le k3 r.len)] at p2
              cases p2; exact nb rfl
            · rw [List.getElem?_set_ne k1] at p2
              exact w2 j d' k2 p2⟩
          exact ⟨by simp [e1], e2⟩
theorem sets_run {is : List Nat} {ta : TA} {fa : Env → M (List Vl)} {D : Ends} {Q : List V → Hp → Prop} (ha : SAo k E ta fa) (rl : Rl k R dr env σ G H n) (w : wp dr n (bSets is fa env) (OP k R G D) (XP k R G E)) (hq : ∀ vs H1, vs.length = is.length → D.nx (setsV σ is vs) H1 → Q vs H1) : ta σ H Q := by
  refine ha R dr env σ G H n _ rl (wp_mono (wp_bind' w) (fun dr n1 vs w1 xs G1 H1 l1 r1 rs => ?_) fun _ _ _ h => h)
  obtain ⟨e, h1, w2⟩ := wp_of.mp (wp_bind' w1)
  obtain ⟨h2, r2⟩ := sets_ok is xs vs r1 h1 ⟨R, env, σ, rs, fun a f1 f2 => ⟨f1, f2⟩⟩
  have hl : ∀ (is : List Nat) (rs : List Vl) (env : Env), setsE env is rs = some e → rs.length = is.length := by
    intro is
    induction is with
    | nil => intro rs env h; cases rs with | nil => rfl | cons _ _ => cases h
    | cons i is ih =>
      intro rs env h
      cases rs with
      | nil => cases h
      | cons v rs =>
        obtain ⟨m, d⟩ := v
        cases m with
        | s => simp [ih rs _ h]
        | o => simp [ih rs _ h]
        | v j => cases h
  exact hq _ _ (h2.trans (hl _ _ _ h1)) (w2 _ G1 H1 l1 r2)
end
end Y

namespace Y
open PySem PySem.Spec PyProof.Rows L2 Z
section
variable {k : Kx} {E : XK} {R : Hp} {dr : Dr} {env : Env} {σ : L2.St} {G G2 H H2 : Hp} {n n' : Nat} {te ta tb td tk tx : TE} {fe fa fb fd fk fx : Env → M Vl}
theorem ss_par {i j : Nat} {ta : TA} {fa : Env → M (List Vl)} (ha : SAo k E ta fa) : SS k E (tPar i j ta) (bSets [i, j] fa) := fun R dr env σ G H n D rl w =>
  sets_run ha rl w fun vs H1 hl q => match vs, hl, q with
    | [v, w], _, q => ⟨v, w, rfl, q⟩
theorem ss_par3 {i j l : Nat} {ta : TA} {fa : Env → M (List Vl)} (ha : SAo k E ta fa) : SS k E (tPar3 i j l ta) (bSets [i, j, l] fa) := fun R dr env σ G H n D rl w =>
  sets_run ha rl w fun vs H1 hl q => match vs, hl, q with
    | [v, w, u], _, q => ⟨v, w, u, rfl, q⟩
/-! ### looked at: lists and dicts, shown or ours -/
theorem lst_view (r : Rl k R dr env σ G H n) {x : V} {v : Vl} {ds : List D} (e : v.2 = .lst ds) (h : RS k env σ G x v) : ∃ a vs, x = .ref a ∧ SqL k.K H a vs ∧ RpA k G vs ds := by
  obtain ⟨m, d⟩ := v
  have e : d = .lst ds := e
  subst e
  have key : Rp k G x (.lst ds) → ∃ a vs, x = .ref a ∧ SqL k.K H a vs ∧ RpA k G vs ds := fun p => by
    obtain ⟨a, vs, rfl, h1, h2⟩ := rp_lst p
    exact ⟨a, vs, rfl, .inl (.inl (r.i.ex h1 rfl)), h2⟩
  cases m with
  | s => exact key h
  | o => exact key h
  | v i =>
    obtain ⟨h1, h2⟩ := h
    obtain ⟨a, f1, o, f2, f3, _⟩ := r.ow i _ h2
    rw [h1] at f1; cases f1
    cases f3 with | lst f3 => exact ⟨a, _, rfl, .inl (.inl f2), f3⟩
theorem dic_view (r : Rl k R dr env σ G H n) {x : V} {v : Vl} {ds : List (Ky × D)} (e : v.2 = .dic ds) (h : RS k env σ G x v) : ∃ a vs, x = .ref a ∧ Rd H a (.dK vs) ∧ RpD k G vs ds := by
  obtain ⟨m, d⟩ := v
  have e : d = .dic ds := e
  subst e
  have key : Rp k G x (.dic ds) → ∃ a vs, x = .ref a ∧ Rd H a (.dK vs) ∧ RpD k G vs ds := fun p => by
    obtain ⟨a, vs, rfl, h1, h2⟩ := rp_dic p
    exact ⟨a, vs, rfl, r.i.rd h1, h2⟩
  cases m with
  | s => exact key h
  | o => exact key h
  | v i =>
    obtain ⟨h1, h2⟩ := h
    obtain ⟨a, f1, o, f2, f3, _⟩ := r.ow i _ h2
    rw [h1] at f1; cases f1
    cases f3 with | dic f3 => exact ⟨a, _, rfl, .inl f2, f3⟩
theorem rs_key (r : Rl k R dr env σ G H n) {x : V} {v : Vl} {q : Ky} (e : keyD v.2 = some q) (h : RS k env σ G x v) : x = kV (kk q) := by
  obtain ⟨m, d⟩ := v
  cases m with
  | s => exact key_kV e h
  | o => exact key_kV e h
  | v i =>
    obtain ⟨h1, h2⟩ := h
    obtain ⟨a, f1, o, f2, f3, _⟩ := r.ow i _ h2
    cases f3 <;> cases e
/-- d[k] -/
def dgetD : D → D → Option D
  | .dic es, x => (keyD x).bind fun q => getD es q
  | _, _ => none
def eDGet (fd fk : Env → M Vl) : Env → M Vl := fun env => (fd env).bind fun x => (fk env).bind fun y => (M.of (dgetD x.2 y.2)).bind fun d => .ok (.s, d)
theorem dgetD_some {a b d : D} (h : dgetD a b = some d) : ∃ es q, a = .dic es ∧ keyD b = some q ∧ getD es q = some d := by
  cases a <;> simp only [dgetD] at h <;> first
    | (cases h; done)
    | skip
  rename_i es
  simp only [Option.bind_eq_some_iff] at h
  obtain ⟨q, h1, h2⟩ := h
  exact ⟨es, q, rfl, h1, h2⟩
theorem se_dget (hd : SE k E td fd) (hk : SE k E tk fk) : SE k E (tDGet td tk) (eDGet fd fk) := fun R dr env σ G H n Q rl w => by
  refine hd.run rl (wp_bind' w) (fun _ _ _ h => h) fun dr n1 v x G1 H1 w1 l1 r1 s1 => ?_
  refine hk.run r1 (wp_bind' w1) (fun _ _ _ h => h.mono l1) fun dr n2 v2 y G2 H2 w2 l2 r2 s2 => ?_
  obtain ⟨d, hd, w3⟩ := wp_of.mp (wp_bind' w2)
  obtain ⟨es, q, e1, e2, e3⟩ := dgetD_some hd
  obtain ⟨a, vs, rfl, h1, h2⟩ := dic_view r2 e1 (s1.mono l2)
  rcases h2.val (q := q) with ⟨_, z⟩ | ⟨v', d', z1, z2, z3⟩
  · rw [e3] at z; cases z
  · rw [e3] at z2; cases z2
    refine ⟨a, v', rfl, .inl ⟨vs, kk q, h1, rs_key r2 e2 s2, z1.symm⟩, w3 v' G2 H2 (l1.trans l2) r2 z3⟩
/-- d.get(k, x) -/
def isDic : D → Option (List (Ky × D))
  | .dic es => some es
  | _ => none
theorem isDic_some {d : D} {es : List (Ky × D)} (h : isDic d = some es) : d = .dic es := by
  cases d <;> simp only [isDic, Option.some.injEq] at h <;> first
    | (cases h; done)
    | rw [h]
def isLst : D → Option (List D)
  | .lst es => some es
  | _ => none
theorem isLst_some {d : D} {es : List D} (h : isLst d = some es) : d = .lst es := by
  cases d <;> simp only [isLst, Option.some.injEq] at h <;> first
    | (cases h; done)
    | rw [h]
def eDGet2 (fd fk fx : Env → M Vl) : Env → M Vl := fun env => (fd env).bind fun x => (M.of (isDic x.2)).bind fun es => (fk env).bind fun y => (fx env).bind fun z => (M.of (keyD y.2)).bind fun q => if isV z then .bad else .ok (.s, (getD es q).getD z.2)
theorem se_dget2 (hd : SE k E td fd) (hk : SE k E tk fk) (hx : SE k E tx fx) : SE k E (tDGet2 td tk tx) (eDGet2 fd fk fx) := fun R dr env σ G H n Q rl w => by
  refine hd.run rl (wp_bind' w) (fun _ _ _ h => h) fun dr n1 v x G1 H1 w1 l1 r1 s1 => ?_
  obtain ⟨es, hes, w1⟩ := wp_of.mp (wp_bind' w1)
  have hv := isDic_some hes
  obtain ⟨a, vs, rfl, h1, h2⟩ := dic_view r1 hv s1
  refine ⟨a, rfl, .inl ⟨vs, h1⟩, ?_⟩
  refine hk.run r1 (wp_bind' w1) (fun _ _ _ h => h.mono l1) fun dr n2 v2 y G2 H2 w2 l2 r2 s2 => ?_
  refine hx.run r2 (wp_bind' w2) (fun _ _ _ h => h.mono (l1.trans l2)) fun dr n3 v3 z G3 H3 w3 l3 r3 s3 => ?_
  obtain ⟨q, e2, w4⟩ := wp_of.mp (wp_bind' w3)
  cases hz : isV v3 with
  | true => rw [hz, if_pos rfl] at w4; exact w4.elim
  | false =>
    rw [hz, if_neg (by simp)] at w4
    obtain ⟨a', vs', e1, g1, g2⟩ := dic_view r3 hv (s1.mono (l2.trans l3))
    cases e1
    refine ⟨valV vs' (kk q), .inl ⟨vs', kk q, g1, rs_key r2 e2 s2, rfl⟩, w4 _ G3 H3 (l1.trans (l2.trans l3)) r3 ?_⟩
    rcases g2.val (q := q) with ⟨z1, z2⟩ | ⟨v', d', z1, z2, z3⟩
    · rw [z1, z2]; exact rs_s hz s3
    · rw [z1, z2]; exact z3
/-- k in d -/
def eDIn (neg : Bool) (fk fd : Env → M Vl) : Env → M Vl := fun env => (fk env).bind fun y => (fd env).bind fun x => (M.of (isDic x.2)).bind fun es => (M.of (keyD y.2)).bind fun q => .ok (.s, .bl (neg ^^ (getD es q).isSome))
theorem RpD.isSome {q : Ky} {kvs : List (Key × V)} {es : List (Ky × D)} (r : RpD k G kvs es) : (valV kvs (kk q)).isSome = (getD es q).isSome := by
  rcases r.val (q := q) with ⟨z1, z2⟩ | ⟨v', d', z1, z2, z3⟩ <;> rw [z1, z2] <;> rfl
theorem se_din (hk : SE k E tk fk) (hd : SE k E td fd) : SE k E (tDIn tk td) (eDIn false fk fd) := fun R dr env σ G H n Q rl w => by
  refine hk.run rl (wp_bind' w) (fun _ _ _ h => h) fun dr n1 v y G1 H1 w1 l1 r1 s1 => ?_
  refine hd.run r1 (wp_bind' w1) (fun _ _ _ h => h.mono l1) fun dr n2 v2 x G2 H2 w2 l2 r2 s2 => ?_
  obtain ⟨es, hes, w2⟩ := wp_of.mp (wp_bind' w2)
  obtain ⟨q, e2, w3⟩ := wp_of.mp (wp_bind' w2)
  obtain ⟨a, vs, rfl, h1, h2⟩ := dic_view r2 (isDic_some hes) s2
  refine ⟨a, valV vs (kk q), rfl, .inl ⟨vs, kk q, h1, rs_key r1 e2 s1, rfl⟩, ?_⟩
  rw [h2.isSome]
  have := w3 (.bl (getD es q).isSome) G2 H2 (l1.trans l2) r2 (by simpa [RV] using Rp.bl _)
  exact this
theorem se_dnotin (hk : SE k E tk fk) (hd : SE k E td fd) : SE k E (tDNotIn tk td) (eDIn true fk fd) := fun R dr env σ G H n Q rl w => by
  refine hk.run rl (wp_bind' w) (fun _ _ _ h => h) fun dr n1 v y G1 H1 w1 l1 r1 s1 => ?_
  refine hd.run r1 (wp_bind' w1) (fun _ _ _ h => h.mono l1) fun dr n2 v2 x G2 H2 w2 l2 r2 s2 => ?_
  obtain ⟨es, hes, w2⟩ := wp_of.mp (wp_bind' w2)
  obtain ⟨q, e2, w3⟩ := wp_of.mp (wp_bind' w2)
  obtain ⟨a, vs, rfl, h1, h2⟩ := dic_view r2 (isDic_some hes) s2
  refine ⟨a, valV vs (kk q), rfl, .inl ⟨vs, kk q, h1, rs_key r1 e2 s1, rfl⟩, ?_⟩
  have e3 : (!(valV vs (kk q)).isSome) = !(getD es q).isSome := by rw [h2.isSome]
  have := w3 (.bl (!(getD es q).isSome)) G2 H2 (l1.trans l2) r2 (by simpa [RV] using Rp.bl _)
  rw [← e3] at this
  exact this
/-- x[i] of a list, a tuple, a text -/
def ixD : D → D → Option D
  | .lst ds, .int i => atI ds i
  | .tup ds, .int i => atI ds i
  | .str w, .int i => if w.length ≤ 10000000 then (atI w i).map fun c => .str [c] else none
  | _, _ => none
def eIx (fa fb : Env → M Vl) : Env → M Vl := fun env => (fa env).bind fun x => (fb env).bind fun y => (M.of (ixD x.2 y.2)).bind fun d => .ok (.s, d)
theorem RpA.at {vs : List V} {ds : List D} {i : Int} {d : D} (r : RpA k G vs ds) (h : atI ds i = some d) : ∃ v, atI vs i = some v ∧ Rp k G v d := by
  unfold atI at h ⊢
  rw [r.len]
  cases e : ixN ds.length i with
  | none => rw [e] at h; cases h
  | some j =>
    rw [e] at h
    exact r.get h
theorem rs_int (r : Rl k R dr env σ G H n) {x : V} {v : Vl} {i : Int} (e : v.2 = .int i) (h : RS k env σ G x v) : x = .int i := by
  obtain ⟨m, d⟩ := v
  have e : d = .int i := e
  subst e
  cases m with
  | s => exact rp_int h
  | o => exact rp_int h
  | v i =>
    obtain ⟨h1, h2⟩ := h
    obtain ⟨a, f1, o, f2, f3, f4⟩ := r.ow i _ h2
    cases f3
theorem se_ix (ha : SE k E ta fa) (hb : SE k E tb fb) : SE k E (tOp (rIx k.K) ta tb) (eIx fa fb) := fun R dr env σ G H n Q rl w => by
  refine ha.run rl (wp_bind' w) (fun _ _ _ h => h) fun dr n1 v x G1 H1 w1 l1 r1 s1 => ?_
  refine hb.run r1 (wp_bind' w1) (fun _ _ _ h => h.mono l1) fun dr n2 v2 y G2 H2 w2 l2 r2 s2 => ?_
  obtain ⟨d, hd, w3⟩ := wp_of.mp (wp_bind' w2)
  have s1 := s1.mono l2
  have fin : ∀ v', Rp k G2 v' d → Q v' H2 := fun v' p => w3 v' G2 H2 (l1.trans l2) r2 p
  unfold ixD at hd
  split at hd
  · rename_i ds i e1 e2
    obtain ⟨a, vs, rfl, h1, h2⟩ := lst_view r2 e1 s1
    obtain ⟨v', g1, g2⟩ := h2.at hd
    exact .inl ⟨a, vs, i, v', rfl, rs_int r2 e2 s2, h1, g1, fin v' g2⟩
  · rename_i ds i e1 e2
    obtain ⟨m, dd⟩ := v
    have e1 : dd = .tup ds := e1
    subst e1
    have key : Rp k G2 x (.tup ds) → tOp (rIx k.K) (fun _ H Q => Q x H) (fun _ H Q => Q y H) σ H2 Q := fun p => by
      obtain ⟨a, vs, rfl, h1, h2⟩ := rp_tup p
      obtain ⟨v', g1, g2⟩ := h2.at hd
      exact .inr (.inl ⟨a, vs, i, v', rfl, rs_int r2 e2 s2, in_t r2.i h1, g1, fin v' g2⟩)
    cases m with
    | s => exact key s1
    | o => exact key s1
    | v j =>
      obtain ⟨h1, h2⟩ := s1
      obtain ⟨a, f1, o, f2, f3, f4⟩ := r2.ow j _ h2
      cases f3
  · rename_i w' i e1 e2
    split at hd
    · rename_i hl
      simp only [Option.map_eq_some_iff] at hd
      obtain ⟨c, hc, rfl⟩ := hd
      obtain ⟨m, dd⟩ := v
      have e1 : dd = .str w' := e1
      subst e1
      have key : Rp k G2 x (.str w') → tOp (rIx k.K) (fun _ H Q => Q x H) (fun _ H Q => Q y H) σ H2 Q := fun p => by
        have := opv_ixS (K := k.K) hl hc G2 H2 x y r2.i (by rw [rp_str p]; exact .str _) (by rw [rs_int r2 e2 s2]; exact .int _) Q fun v' G3 H3 u3 p3 => ?_
        · exact this
        · obtain ⟨r3, l3⟩ := r2.up u3
          exact w3 v' _ H3 ((l1.trans l2).trans l3) r3 (of_z (.str [c]) (by simp [py]) p3).clean
      cases m with
      | s => exact key s1
      | o => exact key s1
      | v j =>
        obtain ⟨h1, h2⟩ := s1
        obtain ⟨a, f1, o, f2, f3, f4⟩ := r2.ow j _ h2
        cases f3
    · cases hd
  · cases hd
/-! ### ours is changed -/
def ownL (env : Env) (i : Nat) : Option (List D) := match env[i]? with
  | some (some (true, .lst ds)) => some ds
  | _ => none
def ownD (env : Env) (i : Nat) : Option (List (Ky × D)) := match env[i]? with
  | some (some (true, .dic ds)) => some ds
  | _ => none
theorem ownL_some {i : Nat} {ds : List D} (h : ownL env i = some ds) : env[i]? = some (some (true, .lst ds)) := by
  unfold ownL at h
  split at h
  · rename_i e; cases h; exact e
  · cases h
theorem ownD_some {i : Nat} {ds : List (Ky × D)} (h : ownD env i = some ds) : env[i]? = some (some (true, .dic ds)) := by
  unfold ownD at h
  split at h
  · rename_i e; cases h; exact e
  · cases h
theorem own_lst (r : Rl k R dr env σ G H n) {i : Nat} {ds : List D} (h : env[i]? = some (some (true, .lst ds))) : ∃ a vs, σ[i]? = some (some (.ref a)) ∧ H a = some (.lst vs) ∧ RpA k G vs ds := by
  obtain ⟨a, f1, o, f2, f3, _⟩ := r.ow i _ h
  cases f3 with | lst f3 => exact ⟨a, _, f1, f2, f3⟩
theorem own_dic (r : Rl k R dr env σ G H n) {i : Nat} {ds : List (Ky × D)} (h : env[i]? = some (some (true, .dic ds))) : ∃ a vs, σ[i]? = some (some (.ref a)) ∧ H a = some (.dK vs) ∧ RpD k G vs ds := by
  obtain ⟨a, f1, o, f2, f3, _⟩ := r.ow i _ h
  cases f3 with | dic f3 => exact ⟨a, _, f1, f2, f3⟩
def bApp (i : Nat) (fe : Env → M Vl) : Env → M Out := fun env => (M.of (ownL env i)).bind fun ds => (fe env).bind fun r => if isV r || decide (1000000 ≤ ds.length) then .bad else .ok (.nx (env.set i (some (true, .lst (ds ++ [r.2])))))
theorem ss_app {i : Nat} (he : SE k E te fe) : SS k E (tDrop (tBM k.K "list" rAppend (tVar i) (tCons te tNil))) (bApp i fe) := fun R dr env σ G H n D rl w => by
  obtain ⟨ds, h0, w1⟩ := wp_of.mp (wp_bind' w)
  have h0 := ownL_some h0
  obtain ⟨a, vs, f1, f2, f3⟩ := own_lst rl h0
  refine ⟨.ref a, f1, .inl ⟨rfl, _, .inl (.inl f2)⟩, ?_⟩
  refine he.run rl (wp_bind' w1) (fun _ _ _ h => h) fun dr n1 v y G1 H1 w2 l1 r1 s1 => ?_
  cases hv : (isV v || decide (1000000 ≤ ds.length)) with
  | true => rw [hv, if_pos rfl] at w2; exact w2.elim
  | false =>
    rw [hv, if_neg (by simp)] at w2
    simp only [Bool.or_eq_false_iff, decide_eq_false_iff_not] at hv
    obtain ⟨a', vs', g1, g2, g3⟩ := own_lst r1 h0
    rw [f1] at g1; cases g1
    have hl : vs'.length < sizeLine := by rw [g3.len]; exact Nat.lt_of_lt_of_le (Nat.lt_of_not_le hv.2) (by decide)
    exact ⟨a, vs', y, rfl, rfl, g2, hl, w2 σ G1 _ l1 (r1.chg h0 f1 (.lst (g3.app (.cons (rs_s hv.1 s1) .nil))))⟩
def bExt (i : Nat) (fe : Env → M Vl) : Env → M Out := fun env => (M.of (ownL env i)).bind fun ds => (fe env).bind fun r => (M.of (isLst r.2)).bind fun es => if isV r || decide (1000000 ≤ ds.length + es.length) then .bad else .ok (.nx (env.set i (some (true, .lst (ds ++ es)))))
theorem ss_ext {i : Nat} (he : SE k E te fe) : SS k E (tDrop (tBM k.K "list" rExtend (tVar i) (tCons te tNil))) (bExt i fe) := fun R dr env σ G H n D rl w => by
  obtain ⟨ds, h0, w1⟩ := wp_of.mp (wp_bind' w)
  have h0 := ownL_some h0
  obtain ⟨a, vs, f1, f2, f3⟩ := own_lst rl h0
  refine ⟨.ref a, f1, .inl ⟨rfl, _, .inl (.inl f2)⟩, ?_⟩
  refine he.run rl (wp_bind' w1) (fun _ _ _ h => h) fun dr n1 v y G1 H1 w2 l1 r1 s1 => ?_
  obtain ⟨es, hes, w2⟩ := wp_of.mp (wp_bind' w2)
  cases hv : (isV v || decide (1000000 ≤ ds.length + es.length)) with
  | true => rw [hv, if_pos rfl] at w2; exact w2.elim
  | false =>
    rw [hv, if_neg (by simp)] at w2
    simp only [Bool.or_eq_false_iff, decide_eq_false_iff_not] at hv
    obtain ⟨a', vs', g1, g2, g3⟩ := own_lst r1 h0
    rw [f1] at g1; cases g1
    have p := rs_s hv.1 s1
    rw [isLst_some hes] at p
    obtain ⟨b, zs, rfl, p1, p2⟩ := rp_lst p
    have hl : vs'.length + zs.length ≤ sizeLine := by rw [g3.len, p2.len]; exact Nat.le_trans (Nat.le_of_lt (Nat.lt_of_not_le hv.2)) (by decide)
    exact ⟨a, b, vs', zs, rfl, rfl, g2, r1.i.ex p1 rfl, hl, w2 σ G1 _ l1 (r1.chg h0 f1 (.lst (g3.app p2)))⟩
def bDPut (i : Nat) (fk fe : Env → M Vl) : Env → M Out := fun env => (fe env).bind fun r => (M.of (ownD env i)).bind fun es => (fk env).bind fun kr => (M.of (keyD kr.2)).bind fun q => if isV r || decide (1000000 ≤ es.length) then .bad else .ok (.nx (env.set i (some (true, .dic (putD es q r.2)))))
theorem ss_dput {i : Nat} (hk : SE k E tk fk) (he : SE k E te fe) : SS k E (sDPut (tVar i) tk te) (bDPut i fk fe) := fun R dr env σ G H n D rl w => by
  refine he.run rl (wp_bind' w) (fun _ _ _ h => h) fun dr n1 v y G1 H1 w1 l1 r1 s1 => ?_
  obtain ⟨es, h0, w1⟩ := wp_of.mp (wp_bind' w1)
  have h0 := ownD_some h0
  obtain ⟨a, vs, f1, f2, f3⟩ := own_dic r1 h0
  refine ⟨.ref a, f1, ?_⟩
  refine hk.run r1 (wp_bind' w1) (fun _ _ _ h => h.mono l1) fun dr n2 v2 z G2 H2 w2 l2 r2 s2 => ?_
  obtain ⟨q, hq, w2⟩ := wp_of.mp (wp_bind' w2)
  cases hv : (isV v || decide (1000000 ≤ es.length)) with
  | true => rw [hv, if_pos rfl] at w2; exact w2.elim
  | false =>
    rw [hv, if_neg (by simp)] at w2
    simp only [Bool.or_eq_false_iff, decide_eq_false_iff_not] at hv
    obtain ⟨a', vs', g1, g2, g3⟩ := own_dic r2 h0
    rw [f1] at g1; cases g1
    have hl : vs'.length < sizeLine := by rw [g3.len]; exact Nat.lt_of_lt_of_le (Nat.lt_of_not_le hv.2) (by decide)
    exact ⟨a, _, rfl, .inl ⟨vs', kk q, g2, rs_key r2 hq s2, hl, rfl⟩, w2 σ G2 _ (l1.trans l2) (r2.chg h0 f1 (.dic (g3.put (rs_s hv.1 (s1.mono l2)))))⟩
def bLPut (i : Nat) (fj fe : Env → M Vl) : Env → M Out := fun env => (fe env).bind fun r => (M.of (ownL env i)).bind fun ds => (fj env).bind fun jr => match jr.2 with
  | .int j => (M.of (ixN ds.length j)).bind fun m => if isV r then .bad else .ok (.nx (env.set i (some (true, .lst (ds.set m r.2)))))
  | _ => .bad
theorem ss_lput {i : Nat} {tj : TE} {fj : Env → M Vl} (hj : SE k E tj fj) (he : SE k E te fe) : SS k E (tAsg te (gSub (tVar i) tj rSetL)) (bLPut i fj fe) := fun R dr env σ G H n D rl w => by
  refine he.run rl (wp_bind' w) (fun _ _ _ h => h) fun dr n1 v y G1 H1 w1 l1 r1 s1 => ?_
  obtain ⟨es, h0, w1⟩ := wp_of.mp (wp_bind' w1)
  have h0 := ownL_some h0
  obtain ⟨a, vs, f1, f2, f3⟩ := own_lst r1 h0
  refine ⟨.ref a, f1, ?_⟩
  refine hj.run r1 (wp_bind' w1) (fun _ _ _ h => h.mono l1) fun dr n2 v2 z G2 H2 w2 l2 r2 s2 => ?_
  split at w2
  · rename_i j e2
    obtain ⟨m, hm, w3⟩ := wp_of.mp (wp_bind' w2)
    cases hv : isV v with
    | true => rw [hv, if_pos rfl] at w3; exact w3.elim
    | false =>
      rw [hv, if_neg (by simp)] at w3
      obtain ⟨a', vs', g1, g2, g3⟩ := own_lst r2 h0
      rw [f1] at g1; cases g1
      exact ⟨a, vs', j, m, rfl, rs_int r2 e2 s2, g2, by rw [g3.len]; exact hm, w3 σ G2 _ (l1.trans l2) (r2.chg h0 f1 (.lst (RpA.set (rs_s hv (s1.mono l2)) m g3)))⟩
  · exact w2.elim
/-! ### a def's body -/
def bodyM (ar N : Nat) (b : Env → M Out) : List D → M Vl := fun ds => if ds.length = ar then (b (ds.map (fun d => some (false, d)) ++ List.replicate (N - ar) none)).bind fun o => match o with
  | .nx _ => .ok (.s, .non)
  | .rt v => .ok v
  | _ => .bad
  else .bad
theorem body_ok {t : XK → TS} {b : Env → M Out} {ar : Nat} {N : List Str} {vs : List V} {H : Hp} {Q : VK} {E : XK} (h : ∀ E, SS k E (t E) b) (q : spM k (bodyM ar N.length b) vs H Q E) (hN : ar ≤ N.length) : vs.length = ar ∧ t E { nx := fun _ H2 => Q .non H2, rt := Q } (start N vs) H := by
  obtain ⟨R, dr, G, n, ds, r, p, w⟩ := q
  by_cases hl : ds.length = ar
  · unfold bodyM at w
    rw [if_pos hl] at w
    have hv : vs.length = ar := by rw [p.len, hl]
    refine ⟨hv, ?_⟩
    have r0 : Rl k R dr (ds.map (fun d => some (false, d)) ++ List.replicate (N.length - ar) none) (start N vs) G H n := by
      have key : ∀ (i : Nat) (b : Bool) d, (ds.map (fun d => some (false, d)) ++ List.replicate (N.length - ar) (none : Option (Bool × D)))[i]? = some (some (b, d)) → b = false ∧ ds[i]? = some d := by
        intro i b d e
        by_cases hi : i < ds.length
        · rw [List.getElem?_append_left (by simpa using hi), List.getElem?_map, List.getElem?_eq_getElem hi] at e
          simp only [Option.map_some, Option.some.injEq, Prod.mk.injEq] at e
          obtain ⟨rfl, rfl⟩ := e
          exact ⟨rfl, List.getElem?_eq_getElem hi⟩
        · rw [List.getElem?_append_right (by simpa using hi)] at e
          rw [List.getElem?_replicate] at e
          split at e <;> cases e
      refine ⟨r.i, r.nt, r.tb, r.dd, r.dh, r.dj, r.rs, fun i d e => ?_, fun i d e => ?_, fun i j a d d' e => ?_, ?_, r.nb⟩
      · obtain ⟨_, e2⟩ := key i false d e
        obtain ⟨v, g1, g2⟩ := p.get e2
        refine ⟨v, ?_, g2⟩
        unfold L2.start
        have hi : i < vs.length := (List.getElem?_eq_some_iff.mp g1).1
        rw [List.getElem?_append_left (by simpa using hi), List.getElem?_map, g1]; rfl
      · cases (key i true d e).1
      · cases (key i true d e).1
      · unfold L2.start
        simp only [List.length_append, List.length_map, List.length_replicate]
        omega
    refine h E R dr _ _ G H n _ r0 (wp_mono (wp_bind' w) (fun dr n o q => ?_) fun _ _ _ z => z)
    cases o with
    | nx e => exact fun σ2 G2 H2 l r2 => q .non G2 H2 l r2.bare Rp.non
    | rt v => exact fun x G2 H2 l r2 rv => q x G2 H2 l r2 rv
    | bk e => exact q.elim
    | ct e => exact q.elim
  · unfold bodyM at w
    rw [if_neg hl] at w; exact w.elim
end
end Y

namespace Y
open PySem PySem.Spec PyProof.Rows L2 Z
/-! ### draws -/
def sp_takeC : Sp := fun vs H Q E => ∃ (m w c : Addr) (n : Nat) (tot : Int) (ws cs : List Int) (r t : Int), vs = [.ref m, .int tot] ∧ H m = some (.dK (dkv w c r t)) ∧ H w = some (.lst (ws.map .int)) ∧ H c = some (.lst (cs.map .int)) ∧ c ≠ w ∧ (∀ x ∈ cs, 0 ≤ x ∧ x < 2147483648) ∧ 0 ≤ t ∧ t + (n + 1 : Nat) ≤ 1000000000000 ∧ 0 < tot ∧ tot < 1000000000 ∧
  ∀ v H2, 0 ≤ v → v < tot → (∀ a, a ≠ m → a ≠ w → ∀ o, H a = some o → H2 a = some o) → (∃ (ws' : List Int) (r' t' : Int), H2 m = some (.dK (dkv w c r' t')) ∧ H2 w = some (.lst (ws'.map .int)) ∧ 0 ≤ t' ∧ t' ≤ t + 1) → Q (.int v) H2
theorem pure_takeC {K : PySem.W.Frag} {ca : Str → Addr} (vs : List V) (H : Hp) (Q : VK) (E : XK) (h : sp_takeC vs H Q E) : vs.length = 2 ∧ t__law_take K ca E { nx := fun _ H2 => Q .non H2, rt := Q } (start ["_law_draw", "_law_total", "_law_found"] vs) H := by
  obtain ⟨m, w, c, n, tot, ws, cs, r, t, rfl, hm, hw, hc, hcw, hcs, ht, htn, h0, h1, k⟩ := h
  refine ⟨rfl, ?_⟩
  have nmw : m ≠ w := fun e => by rw [e, hw] at hm; cases hm
  have ncm : c ≠ m := fun e => by rw [e, hm] at hc; cases hc
  -- what follows the first statement
  have tail : ∀ (H' : Hp) (ws' : List Int) (r' t' : Int), H' m = some (.dK (dkv w c r' t')) → H' w = some (.lst (ws'.map .int)) → (∀ a, a ≠ m → a ≠ w → ∀ o, H a = some o → H' a = some o) → 0 ≤ t' → t' ≤ t + 1 →
      tSeq (tAsg (tOp (rI (fun _ j => j ≠ 0) fun i j => .int (i.fmod j)) (tCB rInt1 (tCons (tDGet (tVar 0) (tC (.str "rest"))) tNil)) (tVar 1)) (gName 2)) (tSeq (sDPut (tVar 0) (tC (.str "rest")) (tOp (rI CDivN fun i j => .int (i.fdiv j)) (tDGet (tVar 0) (tC (.str "rest"))) (tVar 1))) (tRet (tVar 2)))
        { nx := fun _ H2 => Q .non H2, rt := Q } (start ["_law_draw", "_law_total", "_law_found"] [.ref m, .int tot]) H' := by
    intro H' ws' r' t' hm' hw' hk ht' htn'
    refine ⟨.ref m, rfl, m, .int r', rfl, dget_of hm' (g_rest w c r' t'), .inl ⟨r', rfl, .int tot, rfl, r', tot, rfl, rfl, by omega, ?_⟩⟩
    refine ⟨.ref m, rfl, m, .int r', rfl, dget_of hm' (g_rest w c r' t'), .int tot, rfl, r', tot, rfl, rfl, ⟨by omega, by omega⟩, .ref m, rfl, m, upd H' m (.dK (dkv w c (r'.fdiv tot) t')), rfl, .inl ⟨_, kq "rest", hm', rfl, by show 4 < sizeLine; decide, by rw [p_rest]⟩, ?_⟩
    have hf := fmod_bd r' tot h0
    have hc' : H' c = some (.lst (cs.map .int)) := hk c ncm hcw _ hc
    refine ⟨.int (r'.fmod tot), rfl, k _ _ hf.1 hf.2 (fun a h1 h2 o e => by rw [upd_ne h1]; exact hk a h1 h2 o e) ⟨ws', r'.fdiv tot, t', upd_same, by rw [upd_ne nmw.symm]; exact hw', ht', htn'⟩⟩
  refine ⟨.ref m, rfl, m, .int r, rfl, dget_of hm (g_rest w c r t), rfl, _, rfl, ?_⟩
  by_cases hr : V.int r = V.int 0
  · dsimp only
    rw [if_pos (decide_eq_true hr)]
    refine ⟨.ref m, rfl, m, .ref w, rfl, dget_of hm (g_wide w c r t), Nat.zero_le _, fun p hp => ?_⟩
    have npm : p ≠ m := fun e => by rw [e, hm] at hp; cases hp
    have npw : p ≠ w := fun e => by rw [e, hw] at hp; cases hp
    have npc : p ≠ c := fun e => by rw [e, hc] at hp; cases hp
    have hm1 : upd H p (.lst []) m = some (.dK (dkv w c r t)) := by rw [upd_ne npm.symm]; exact hm
    have hw1 : upd H p (.lst []) w = some (.lst (ws.map .int)) := by rw [upd_ne npw.symm]; exact hw
    have hc1 : upd H p (.lst []) c = some (.lst (cs.map .int)) := by rw [upd_ne npc.symm]; exact hc
    have dws : ∀ xs : List Int, DpAll K (upd H p (.lst [])) (xs.map V.int) (xs.map .int) := by
      intro xs
      induction xs with
      | nil => exact .nil
      | cons x xs ih => exact .cons (.int x) ih
    refine ⟨dL dI ws, dL dI [], .lst (.inl (.inl hw1)) (dws ws), .lst (.inl (.inl upd_same)) .nil, (eqt_L eqt_I).shaped (by decide) (fun _ _ => trivial), (eqt_L eqt_I).shaped (by decide) (fun _ _ => trivial), _, rfl, ?_⟩
    dsimp only
    rw [(eqt_L eqt_I).eq]
    cases ws with
    | nil =>
      rw [if_neg (by simp)]
      refine ⟨.ref m, rfl, m, w, c, n, [], cs, r, t, rfl, hm1, hw1, hc1, hcs, ht, by omega, fun v H2 k2 e2 => ?_⟩
      refine ⟨.ref m, rfl, m, upd H2 m (.dK (dkv w c v (t + 1))), rfl, .inl ⟨_, kq "rest", e2, rfl, by show 4 < sizeLine; decide, by rw [p_rest]⟩, ?_⟩
      refine tail _ [] v (t + 1) upd_same (by rw [upd_ne nmw.symm]; exact k2 w nmw.symm _ hw1) (fun a n1 n2 o e => ?_) (by omega) (by omega)
      have nap : a ≠ p := fun z => by rw [z, hp] at e; cases e
      rw [upd_ne n1]
      exact k2 a n1 o (by rw [upd_ne nap]; exact e)
    | cons x ws =>
      rw [if_pos (by simp)]
      refine ⟨.ref m, rfl, m, .ref w, rfl, dget_of hm1 (g_wide w c r t), .inl ⟨rfl, _, .inl (.inl hw1)⟩, w, _, 0, 0, .int x, rfl, rfl, hw1, by decide, by decide, ?_, rfl, ?_⟩
      · show seqIndex? 0 ((x :: ws).map V.int).length = some 0
        rw [List.length_map, List.length_cons]
        unfold seqIndex?
        simp
      · have hm2 : upd (upd H p (.lst [])) w (.lst (((x :: ws).map V.int).eraseIdx 0)) m = some (.dK (dkv w c r t)) := by rw [upd_ne nmw]; exact hm1
        refine ⟨.ref m, rfl, m, upd (upd (upd H p (.lst [])) w (.lst (((x :: ws).map V.int).eraseIdx 0))) m (.dK (dkv w c x t)), rfl, .inl ⟨_, kq "rest", hm2, rfl, by show 4 < sizeLine; decide, by rw [p_rest]⟩, ?_⟩
        refine tail _ ws x t upd_same (by rw [upd_ne nmw.symm, upd_same]; rfl) (fun a n1 n2 o e => ?_) ht (by omega)
        have nap : a ≠ p := fun z => by rw [z, hp] at e; cases e
        rw [upd_ne n1, upd_ne n2, upd_ne nap]
        exact e
  · dsimp only
    rw [if_neg (by simpa using hr)]
    exact tail H ws r t hm hw (fun _ _ _ _ e => e) ht (by omega)
def sp_begunC (K : PySem.W.Frag) : Sp := fun vs H Q E => ∃ (G : Hp) (a : Addr) (ns : List Int), vs = [.ref a] ∧ In G H ∧ SqL K G a (ns.map .int) ∧ ns.length ≤ 1000 ∧
  ∀ m w c (ws cs : List Int) H2, H m = none → H w = none → H c = none → c ≠ w → Le H H2 → H2 m = some (.dK (dkv w c 0 0)) → H2 w = some (.lst (ws.map .int)) → H2 c = some (.lst (cs.map .int)) → (∀ x ∈ cs, 0 ≤ x ∧ x < 2147483648) → Q (.ref m) H2
theorem pure_begunC {K : PySem.W.Frag} {ca : Str → Addr} (vs : List V) (H : Hp) (Q : VK) (E : XK) (h : sp_begunC K vs H Q E) : vs.length = 1 ∧ t__law_begun K ca E { nx := fun _ H2 => Q .non H2, rt := Q } (start ["_law_script", "_law_wide", "_law_cell"] vs) H := by
  obtain ⟨G, a, ns, rfl, hin, hs, hl, k⟩ := h
  refine ⟨rfl, ?_⟩
  unfold t__law_begun tSeq tAsg tRet tDisp
  refine lc_new (D := dI) (xs := ns) (p := fun c => decide ((10 : Int) ^ (18 : Int).toNat ≤ (c.natAbs : Int))) (f := fun c => dI ((c.natAbs : Int) - (10 : Int) ^ (18 : Int).toNat)) (B := fun z σ2 G => ∃ x, σ2 = (wipe (start ["_law_script", "_law_wide", "_law_cell"] [.ref a]) [2]).set 2 (some x) ∧ Z.Rp K G x (dI z)) (ei_scr (k := 0) rfl hs) (fun z _ => bnd_name) (fun z _ σ2 G ⟨x, e, _⟩ => by rw [e]; exact wipe1) (fun z _ G1 σ2 l1 ⟨x, e, r⟩ => ?_) (fun z _ _ G1 σ2 l1 ⟨x, e, r⟩ => ?_) (fun z σ2 G1 G2 l2 ⟨x, e, r⟩ => ⟨x, e, r.mono l2⟩) (by omega) (Le.refl _) hin ?_
  · subst e
    exact et_test (ev_op (ev_cb (ea_cons (ev_var rfl r) ea_nil) cav_abs) (ev_op ev_int ev_int (opv_pow ⟨by decide, by decide, by decide⟩)) opv_ge)
  · subst e
    exact ev_op (ev_cb (ea_cons (ev_var rfl r) ea_nil) cav_abs) (ev_op ev_int ev_int (opv_pow ⟨by decide, by decide, by decide⟩)) opv_sub
  intro w G3 H3 acc hw gw u3 i3 e3 r3
  intro p hp
  unfold tPairs tC tPairs tVar
  refine ⟨.ref w, rfl, ?_⟩
  have i4 : In G3 (upd H3 p (.dK [])) := i3.mut (i3.no hp)
  refine lc_new (D := dI) (xs := ns) (p := fun _ => true) (f := fun c => dI ((c.natAbs : Int).fmod 2147483629)) (B := fun z σ2 G => ∃ x, σ2 = (wipe ((start ["_law_script", "_law_wide", "_law_cell"] [.ref a]).set 1 (some (.ref w))) [2]).set 2 (some x) ∧ Z.Rp K G x (dI z)) (ei_scr (k := 0) rfl (sql_le hs u3.g)) (fun z _ => bnd_name) (fun z _ σ2 G ⟨x, e, _⟩ => by rw [e]; exact wipe1) (fun z _ G1 σ2 l1 ⟨x, e, r⟩ => ?_) (fun z _ _ G1 σ2 l1 ⟨x, e, r⟩ => ?_) (fun z σ2 G1 G2 l2 ⟨x, e, r⟩ => ⟨x, e, r.mono l2⟩) (by omega) (Le.refl _) i4 ?_
  · exact fun G1 H1 l i Q q => q G1 H1 (Up.refl i)
  · subst e
    exact ev_op (ev_cb (ea_cons (ev_cb (ea_cons (ev_var rfl r) ea_nil) cav_abs) ea_nil) cav_int) ev_int (opv_mod (by decide))
  intro c G5 H5 acc2 hc gc u5 i5 e5 r5
  have nwp : w ≠ p := fun e => by rw [e, hp] at e3; cases e3
  have ncp : c ≠ p := fun e => by rw [e, upd_same] at hc; cases hc
  have ncw : c ≠ w := fun e => by rw [e, upd_ne nwp, e3] at hc; cases hc
  have up5 : ∀ b, b ≠ c → ∀ o, upd H3 p (.dK []) b = some o → H5 b = some o := fun b nb o e => by
    have := u5.h b o e
    simp only [if_neg nb] at this
    exact this
  have hp5 : H5 p = some (.dK []) := up5 p ncp.symm _ upd_same
  have hw5 : H5 w = some (.lst acc) := up5 w ncw.symm _ (by rw [upd_ne nwp]; exact e3)
  have hp0 : H p = none := by
    cases q : H p with
    | none => rfl
    | some o =>
      have := u3.h p o q
      simp only [if_neg nwp.symm] at this
      rw [hp] at this; cases this
  have le5 : Le H H5 := fun b o e => by
    have nw : b ≠ w := fun z => by rw [z, hw] at e; cases e
    have np : b ≠ p := fun z => by rw [z, hp0] at e; cases e
    have h3 := u3.h b o e
    simp only [if_neg nw] at h3
    have nc : b ≠ c := fun z => by rw [← z, upd_ne np, h3] at hc; cases hc
    exact up5 b nc o (by rw [upd_ne np]; exact h3)
  refine ⟨hp5, [(kq "wide", V.ref w), (kq "cells", .ref c), (kq "rest", .int 0), (kq "turn", .int 0)], rfl, by show 4 ≤ 15; decide, ?_⟩
  rw [merge4]
  have gw0 : G w = none := hin.no hw
  have gp0 : G p = none := hin.no hp0
  have hc0 : H c = none := by
    cases q : H c with
    | none => rfl
    | some o =>
      have := u3.h c o q
      simp only [if_neg ncw] at this
      rw [upd_ne ncp, this] at hc; cases hc
  have gc0 : G c = none := hin.no hc0
  have le6 : Le H (upd H5 p (.dK (dkv w c 0 0))) := fun b o e => by
    rw [upd_ne (fun z => by rw [z, hp0] at e; cases e)]; exact le5 b o e
  have ea := Z.rpa_ints (ns := (ns.filter fun c => decide ((10 : Int) ^ (18 : Int).toNat ≤ (c.natAbs : Int))).map fun c => (c.natAbs : Int) - (10 : Int) ^ (18 : Int).toNat) (by rw [List.map_map]; exact r3)
  have eb := Z.rpa_ints (ns := ns.map fun c => (c.natAbs : Int).fmod 2147483629) (by rw [List.map_map]; rw [List.filter_eq_self.mpr (fun _ _ => rfl)] at r5; exact r5)
  refine k p w c _ _ _ hp0 hw hc0 ncw le6 upd_same (by rw [upd_ne nwp, hw5, ea]) (by rw [upd_ne ncp, e5, eb]) fun x hx => ?_
  obtain ⟨y, _, rfl⟩ := List.mem_map.mp hx
  have := fmod_bd (y.natAbs : Int) 2147483629 (by decide)
  omega

def m_take : List D → M Vl
  | [.drw q, .int tot] => .take q tot fun i => .ok (.s, .int i)
  | _ => .bad
def m_begun : List D → M Vl
  | [.scr ns] => if ns.length ≤ 1000 then .beg fun q => .ok (.s, .drw q) else .bad
  | _ => .bad
section
variable {k : Kx} {vs : List V} {H : Hp} {Q : VK} {E : XK}
theorem take_ok (h : spM k m_take vs H Q E) : sp_takeC vs H Q E := by
  obtain ⟨R, dr, G, n, ds, r, p, w⟩ := h
  unfold m_take at w
  split at w
  · rename_i q tot
    obtain ⟨hq, h0, h1, n', rfl, w⟩ := w
    obtain ⟨x, y, rfl, p1, p2⟩ := rpa_two p
    cases p1
    rw [rp_int p2]
    obtain ⟨ws, cs, r0, t, e1, e2, e3, e4, e5, e6, e7⟩ := r.dd q hq
    refine ⟨q.1, q.2.1, q.2.2, n', tot, ws, cs, r0, t, rfl, e1, e2, e3, e4, e5, e6, e7, h0, h1, fun v H2 v0 v1 hk hd => ?_⟩
    obtain ⟨ws', r', t', f1, f2, f3, f4⟩ := hd
    have hm : inDr dr q.1 := ⟨q, hq, .inl rfl⟩
    have hw : inDr dr q.2.1 := ⟨q, hq, .inr (.inl rfl)⟩
    have nmc : q.2.2 ≠ q.1 := fun z => by rw [z, e1] at e3; cases e3
    have keep : ∀ a o, ¬ isDr q a → H a = some o → H2 a = some o := fun a o nd e => hk a (fun z => nd (.inl z)) (fun z => nd (.inr (.inl z))) o e
    have ng : ∀ a o, G a = some o → ¬ isDr q a := fun a o e z => by rw [r.dh a ⟨q, hq, z⟩] at e; cases e
    have nt : ∀ a ps, H a = some (.tbl ps) → ¬ isDr q a := fun a ps e z => by
      obtain ⟨o, g1, g2⟩ := (r.dd q hq).there z
      rw [e] at g1; cases g1; exact g2 ps rfl
    refine w v v0 v1 (.int v) G H2 (Le.refl _) ⟨fun a o e => ?_, r.nt, fun p hp => ?_, fun q' hq' => ?_, r.dh, r.dj, fun a o e => ?_, fun i d e => by simp at e, fun i d e => by simp at e, fun i j a d d' e => by simp at e, Nat.le_refl _, by have := r.nb; omega⟩ (Rp.int _)
    · rcases r.i a o e with z | ⟨z1, ob, z⟩
      · exact .inl (keep a o (ng a o e) z)
      · exact .inr ⟨z1, ob, keep a _ (ng a o e) z⟩
    · obtain ⟨ps, t1, t2, t3⟩ := r.tb p hp
      refine ⟨ps, keep _ _ (nt _ _ t1) t1, t2, fun pos cv hc => ?_⟩
      obtain ⟨c, a1, a2⟩ := t3 pos cv hc
      refine ⟨c, a1, keep _ _ (fun z => ?_) a2⟩
      rcases z with z | z | z
      · rw [z, e1] at a2; unfold LamX.CodeO at a2; cases a2
      · rw [z, e2] at a2; unfold LamX.CodeO at a2; cases a2
      · rw [z, e3] at a2; unfold LamX.CodeO at a2; cases a2
    · by_cases hqq : q' = q
      · subst hqq
        exact ⟨ws', cs, r', t', f1, f2, hk _ nmc e4 _ e3, e4, e5, f3, by omega⟩
      · have dis : ∀ a, isDr q' a → ¬ isDr q a := by
          obtain ⟨i, hi, ei⟩ := List.getElem_of_mem hq
          obtain ⟨j, hj, ej⟩ := List.getElem_of_mem hq'
          have pw := List.pairwise_iff_getElem.mp r.dj
          have nij : i ≠ j := fun z => by subst z; exact hqq (ej.symm.trans ei)
          intro a h1 h2
          rcases Nat.lt_or_gt_of_ne nij with z | z
          · exact pw i j hi hj z a (by rw [ei]; exact h2) (by rw [ej]; exact h1)
          · exact pw j i hj hi z a (by rw [ej]; exact h1) (by rw [ei]; exact h2)
        exact ((r.dd q' hq').ext fun a ha o e => keep a o (dis a ha) e).mono (by omega)
    · obtain ⟨g1, g2, g3, g4⟩ := r.rs a o e
      exact ⟨keep a o (fun z => g3 ⟨q, hq, z⟩) g1, g2, g3, g4⟩
  · exact w.elim
theorem begun_ok (h : spM k m_begun vs H Q E) : ∃ (hn : True), sp_begunC k.K vs H Q E := by
  obtain ⟨R, dr, G, n, ds, r, p, w⟩ := h
  unfold m_begun at w
  split at w
  · rename_i ns
    split at w
    · rename_i hl
      obtain ⟨x, rfl, p1⟩ := rpa_one p
      cases p1 with
      | scr hs =>
      refine ⟨trivial, G, _, ns, rfl, r.i, hs, hl, fun m w' c ws cs H2 hm hw hc ncw le e1 e2 e3 hcs => ?_⟩
      have fr : ∀ a, isDr (m, w', c) a → H a = none := fun a z => by
        rcases z with rfl | rfl | rfl
        · exact hm
        · exact hw
        · exact hc
      have nd : ∀ q ∈ dr, ∀ a, isDr (m, w', c) a → ¬ isDr q a := fun q hq a h1 h2 => by
        obtain ⟨o, g1, _⟩ := (r.dd q hq).there h2
        rw [fr a h1] at g1; cases g1
      have r2 := r.keep (extN_le le) (tabs_le r.tb le)
      refine w (m, w', c) (.ref m) G H2 (Le.refl _) ⟨r2.i, r2.nt, r2.tb, fun q hq => ?_, fun a ha => ?_, List.pairwise_cons.mpr ⟨fun q hq a h1 => nd q hq a h1, r.dj⟩, fun a o e => ?_, fun i d e => by simp at e, fun i d e => by simp at e, fun i j a d d' e => by simp at e, Nat.le_refl _, r.nb⟩ (Rp.drw (m, w', c))
      · rcases List.mem_cons.mp hq with rfl | hq
        · exact ⟨ws, cs, 0, 0, e1, e2, e3, ncw, hcs, by decide, by have := r.nb; omega⟩
        · exact r2.dd q hq
      · obtain ⟨q, hq, hd⟩ := ha
        rcases List.mem_cons.mp hq with rfl | hq
        · exact r.i.no (fr a hd)
        · exact r.dh a ⟨q, hq, hd⟩
      · obtain ⟨g1, g2, g3, g4⟩ := r2.rs a o e
        refine ⟨g1, g2, fun z => ?_, g4⟩
        obtain ⟨q, hq, hd⟩ := z
        rcases List.mem_cons.mp hq with rfl | hq
        · have := (r.rs a o e).1
          rw [fr a hd] at this; cases this
        · exact g3 ⟨q, hq, hd⟩
    · exact w.elim
  · exact w.elim
end
end Y

namespace Z
open PySem PySem.Spec PyProof.Rows L2
/-! ### text[::-1] -/
def revT (z : Str) : Str := ⟨z.cps.toList.reverse.toArray⟩
def tRevS (te : TE) : TE := fun σ H Q => te σ H fun x H1 => ∃ z, x = .str z ∧ z.length ≤ sizeLine ∧ Q (.str (revT z)) H1
theorem rev_ix (z : Str) : ((Builtin.Str.strSliceIndices none none (-1) z.length).filterMap (z.cps[·]?)).toArray = z.cps.toList.reverse.toArray := by
  have e : Builtin.Str.strSliceIndices none none (-1) z.length = sliceRange ((z.cps.size : Int) - 1) (-1) (-1) := rfl
  rw [e, PySem.W.krv_sliceRange, PySem.W.krv_range, List.filterMap_reverse, PySem.W.krv_all]
theorem pe_revS {X : Cx} {e : Expr} {te : TE} {k : Nat} {p1 p2 p3 pos : Pos} (he : PE X e te) : PE X (.Subscript e (.Slice none none (some (.UnaryOp .USub (.Constant (.int 1) k p1) p2)) p3) pos) (tRevS te) := by
  refine ⟨fun pins s σ H Q I h => ?_⟩
  refine Subscript_ (thn (he.run pins s σ H _ I h) fun v s1 ⟨x, H1, I1, r1, q1⟩ => ?_)
  obtain ⟨z, ex, hz, q⟩ := q1
  subst ex
  obtain ⟨t, rfl⟩ := r1
  have st : PO X (some (.UnaryOp .USub (.Constant (.int 1) k p1) p2)) (tPart (tUn (rU fun i => .int (-i)) (tC (.int 1)))) := po_some (pe_un un_neg pe_int)
  refine wpAny_Slice (thn (po_none.run pins s1 σ H1 (fun o H2 => o = none ∧ H2 = H1) I1 ⟨rfl, rfl⟩) fun vl s2 ⟨l, H2, I2, pl, el, e2⟩ => ?_)
  subst el e2
  refine thn (po_none.run pins s2 σ H2 (fun o H3 => o = none ∧ H3 = H2) I2 ⟨rfl, rfl⟩) fun vu s3 ⟨u, H3, I3, pu, eu, e3⟩ => ?_
  subst eu e3
  refine thn (st.run pins s3 σ H3 (fun o H4 => o = some (-1) ∧ H4 = H3) I3 ⟨1, rfl, -1, rfl, rfl, rfl⟩) fun vs s4 ⟨o, H4, I4, ps, eo, e4⟩ => ?_
  subst eo e4
  have I5 : Inv X pins σ H4 { s4 with heap := s4.heap.push { cls := .type "slice", data := .fields #[vl, vu, vs] } } := I4.kept (t' := s4.toks) fun b ob q => Heap.get?_push_of_some _ q
  show wpAny (model X.prog X.w) X.A (subscriptTail e (.Slice none none (some (.UnaryOp .USub (.Constant (.int 1) k p1) p2)) p3) (.str z t) (.ref s4.heap.objs.size)) (EP X pins σ Q) X.xe { s4 with heap := s4.heap.push { cls := .type "slice", data := .fields #[vl, vu, vs] } }
  refine tail_any (ops := [.ref s4.heap.objs.size, .str z t]) (typeIs_str _ _ _) (F.slot_str_getitem.lookup) ?_ (by with_unfolding_all rfl)
  obtain ⟨l1, rfl, h1⟩ := IsPart.raw pl
  obtain ⟨u1, rfl, h2⟩ := IsPart.raw pu
  obtain ⟨c1, rfl, h3⟩ := IsPart.raw ps
  refine wpAny_getItem_str_slice (l := l1) (u := u1) (st := c1) ⟨_, Heap.get?_push_size _ rfl, rfl, rfl⟩ (by rw [h3]; rfl) ?_
  have hmk : sliceMade z t l1 u1 c1 = Made.str ⟨z.cps.toList.reverse.toArray⟩ := by
    rw [← rev_ix]
    unfold sliceMade slicePicked
    rw [h1, h2, h3]
    rfl
  rw [hmk]
  refine ⟨?_, .str (revT z), H4, I5.tok _, ⟨_, rfl⟩, q⟩
  show z.cps.toList.reverse.toArray.size ≤ sizeLine
  have : z.cps.toList.reverse.toArray.size = z.length := by simp; rfl
  rw [this]; exact hz
theorem revT_S (l : List Nat) : revT (S l) = S l.reverse := by
  unfold revT
  rw [S_cps]; rfl
section
variable {K : PySem.W.Frag} {σ : L2.St} {G : Hp} {te : TE}
theorem ev_revS {l : W} (h : Ev K te σ G (dS l)) (hz : l.length ≤ 1000000) : Ev K (tRevS te) σ G (dS l.reverse) := fun G1 H1 le i Q q => h G1 H1 le i _ fun v G2 H2 u2 p2 => by
  refine ⟨S l, rp_str p2, by rw [S_len]; exact Nat.le_trans hz (by decide), ?_⟩
  rw [revT_S]
  exact q _ G2 H2 u2 (.str _)
end
end Z

namespace Y
open PySem PySem.Spec PyProof.Rows L2 Z
section
variable {X : Cx}
theorem CallR.or {f : Value} {r r' : List V → Hp → VK → Prop} (h : CallR X f r) (h' : CallR X f r') : CallR X f (fun xs H Q => r xs H Q ∨ r' xs H Q) := fun pins s σ H xs us Q I v q => q.elim (h pins s σ H xs us Q I v) (h' pins s σ H xs us Q I v)
end
section
variable {k : Kx} {G H : Hp}
/-! ### + - * // % ** -/
def qAdd (K : PySem.W.Frag) : R2 := fun x y H Q => (rI0 fun i j => .int (i + j)) x y H Q ∨ (rAddS x y H Q ∨ (rCat x y H Q ∨ rCatA K x y H Q))
theorem or_add {X : Cx} : OpR X (binaryOp .Add) (qAdd X.K) := op_add.or (OpR.or (r := rAddS) op_add_str (op_cat.or op_catA))
def addD : D → D → Option D
  | .int i, .int j => some (.int (i + j))
  | .str a, .str b => if a.length + b.length ≤ 10000000 then some (.str (a ++ b)) else none
  | .lst a, .lst b => if a.length + b.length ≤ 1000000 then some (.lst (a ++ b)) else none
  | _, _ => none
theorem os_add : OpS k (qAdd k.K) addD := fun G H x y a b d hi px py hd Q q => by
  unfold addD at hd
  split at hd
  · cases hd
    rw [rp_int px, rp_int py]
    exact .inl ⟨_, _, rfl, rfl, q _ G H (Up.refl hi) (.int _)⟩
  · split at hd
    · rename_i hl
      cases hd
      rw [rp_str px, rp_str py]
      refine .inr (.inl ?_)
      exact opv_addS (K := k.K) hl G H _ _ hi (.str _) (.str _) Q fun v G2 H2 u p => q v G2 H2 u (of_z (.str _) (by simp [Y.py]) p)
    · cases hd
  · split at hd
    · rename_i hl
      cases hd
      obtain ⟨p, xs, rfl, h1, h2⟩ := rp_lst px
      obtain ⟨p', ys, rfl, h3, h4⟩ := rp_lst py
      refine .inr (.inr (.inl ⟨p, p', xs, ys, rfl, rfl, hi.ex h1 rfl, hi.ex h3 rfl, by rw [h2.len, h4.len]; exact Nat.le_trans hl (by decide), fun r hr => ?_⟩))
      have u := Up.new (o := .lst (xs ++ ys)) hi hr
      exact q _ _ _ u (.lst upd_same ((h2.app h4).mono u.g))
    · cases hd
  · cases hd
def iop (C : Int → Int → Prop) [∀ i j, Decidable (C i j)] (f : Int → Int → Int) : D → D → Option D
  | .int i, .int j => if C i j then some (.int (f i j)) else none
  | _, _ => none
def subD : D → D → Option D := iop (fun _ _ => True) fun i j => i - j
instance (i j : Int) : Decidable (CMul i j) := by unfold CMul; infer_instance
instance (i j : Int) : Decidable (CDivN i j) := by unfold CDivN; infer_instance
instance (i j : Int) : Decidable (CPow i j) := by unfold CPow; infer_instance
theorem os_sub : OpS k (rI0 fun i j => .int (i - j)) subD := fun G H x y a b d hi px py hd Q q => by
  unfold subD iop at hd
  split at hd
  · rw [if_pos trivial] at hd
    cases hd
    rw [rp_int px, rp_int py]
    exact ⟨_, _, rfl, rfl, q _ G H (Up.refl hi) (.int _)⟩
  · cases hd
theorem os_I {C : Int → Int → Prop} [∀ i j, Decidable (C i j)] {f : Int → Int → Int} : OpS k (rI C fun i j => .int (f i j)) (iop C f) := fun G H x y a b d hi px py hd Q q => by
  unfold iop at hd
  split at hd
  · split at hd
    · rename_i hc
      cases hd
      rw [rp_int px, rp_int py]
      exact ⟨_, _, rfl, rfl, hc, q _ G H (Up.refl hi) (.int _)⟩
    · cases hd
  · cases hd
def fdivD : D → D → Option D := iop CDivN fun i j => i.fdiv j
def modD : D → D → Option D := iop (fun _ j => j ≠ 0) fun i j => i.fmod j
def powD : D → D → Option D := iop CPow fun i j => i ^ j.toNat
theorem os_fdiv : OpS k (rI CDivN fun i j => .int (i.fdiv j)) fdivD := os_I
theorem os_mod : OpS k (rI (fun _ j => j ≠ 0) fun i j => .int (i.fmod j)) modD := os_I
theorem os_pow : OpS k (rI CPow fun i j => .int (i ^ j.toNat)) powD := os_I
def qMul : R2 := fun x y H Q => (rI CMul fun i j => .int (i * j)) x y H Q ∨ (rMulS x y H Q ∨ rRep x y H Q)
theorem or_mul {X : Cx} : OpR X (binaryOp .Mult) qMul := op_mul.or (op_mulS.or op_rep)
def mulD : D → D → Option D
  | .int i, .int j => if CMul i j then some (.int (i * j)) else none
  | .str a, .int n => if a.length * n.toNat ≤ 10000000 ∧ -1000000 ≤ n ∧ n ≤ 1000000 then some (.str (List.replicate n.toNat a).flatten) else none
  | .lst a, .int n => if 0 ≤ n ∧ n ≤ 1000 ∧ a.length * n.toNat ≤ 1000000 then some (.lst (List.replicate n.toNat a).flatten) else none
  | _, _ => none
theorem RpA.rep {vs : List V} {ds : List D} (h : RpA k G vs ds) : ∀ n : Nat, RpA k G (List.replicate n vs).flatten (List.replicate n ds).flatten
  | 0 => .nil
  | n + 1 => by
    rw [List.replicate_succ, List.replicate_succ, List.flatten_cons, List.flatten_cons]
    exact h.app (RpA.rep h n)
theorem os_mul : OpS k qMul mulD := fun G H x y a b d hi px py hd Q q => by
  unfold mulD at hd
  split at hd
  · split at hd
    · rename_i hc
      cases hd
      rw [rp_int px, rp_int py]
      exact .inl ⟨_, _, rfl, rfl, hc, q _ G H (Up.refl hi) (.int _)⟩
    · cases hd
  · split at hd
    · rename_i hl
      cases hd
      rw [rp_str px, rp_int py]
      refine .inr (.inl ?_)
      exact opv_mulSI (K := k.K) hl.1 hl.2 G H _ _ hi (.str _) (.int _) Q fun v G2 H2 u p => q v G2 H2 u (of_z (.str _) (by simp [Y.py]) p)
    · cases hd
  · split at hd
    · rename_i hl
      cases hd
      obtain ⟨p, xs, rfl, h1, h2⟩ := rp_lst px
      rw [rp_int py]
      rename_i a n
      refine .inr (.inr ⟨p, n, xs, rfl, rfl, hi.ex h1 rfl, by omega, by omega, by rw [h2.len]; exact Nat.le_trans hl.2.2 (by decide), fun r hr => ?_⟩)
      have u := Up.new (o := .lst (List.replicate n.toNat xs).flatten) hi hr
      exact q _ _ _ u (.lst upd_same ((h2.rep _).mono u.g))
    · cases hd
  · cases hd
def negD : D → Option D
  | .int i => some (.int (-i))
  | _ => none
theorem us_neg : UnS k (rU fun i => .int (-i)) negD := fun G H x a d hi px hd Q q => by
  unfold negD at hd
  split at hd
  · cases hd
    rw [rp_int px]
    exact ⟨_, rfl, q _ G H (Up.refl hi) (.int _)⟩
  · cases hd
/-! ### comparisons -/
def flatEq : D → D → Bool
  | .int i, .int j => i == j
  | .str a, .str b => a == b
  | .bl a, .bl b => a == b
  | .non, .non => true
  | _, _ => false
def sameD (es fs : List (Ky × D)) : Bool := es.length == fs.length && es.all fun e => match getD fs e.1 with
  | some d => flatEq e.2 d
  | none => false
def eqD (a b : D) : Option Bool := match a, b with
  | .int i, .int j => some (decide (i = j))
  | .str i, .str j => some (decide (i = j))
  | .bl i, .bl j => some (decide (i = j))
  | .dic es, .dic fs => if sameD es fs then some true else none
  | _, _ => match py a, py b with
    | some p, some q => if SeqAt.shaped p && SeqAt.shaped q then some (PyData.eqv p q) else none
    | _, _ => none
def qEq (K : PySem.W.Frag) : R2 := fun x y H Q => rEq x y H Q ∨ (rEqD K x y H Q ∨ rEqDic x y H Q)
def qNe (K : PySem.W.Frag) : R2 := fun x y H Q => rNe x y H Q ∨ (rNeD K x y H Q ∨ rNeDic x y H Q)
theorem or_eq {X : Cx} (hu : X.A.units + 100 < cLine) : OpR X (compareOp .Eq) (qEq X.K) := op_eq.or ((op_eqD (by omega)).or (op_eqDic (by omega)))
theorem or_ne {X : Cx} (hu : X.A.units + 100 < cLine) : OpR X (compareOp .NotEq) (qNe X.K) := op_ne.or ((op_neD (by omega)).or (op_neDic (by omega)))
theorem flat_eq {a b : D} (h : flatEq a b = true) : a = b ∧ ∀ v, Rp k G v a → flatB v = true ∧ ∀ w, Rp k G w b → v = w := by
  cases a <;> cases b <;> simp only [flatEq] at h <;> first
    | (cases h; done)
    | skip
  · exact ⟨rfl, fun v r => ⟨by cases r; rfl, fun w s => by cases r; cases s; rfl⟩⟩
  · have := eq_of_beq h; subst this
    exact ⟨rfl, fun v r => ⟨by cases r; rfl, fun w s => by cases r; cases s; rfl⟩⟩
  · have := eq_of_beq h; subst this
    exact ⟨rfl, fun v r => ⟨by cases r; rfl, fun w s => by cases r; cases s; rfl⟩⟩
  · have := eq_of_beq h; subst this
    exact ⟨rfl, fun v r => ⟨by cases r; rfl, fun w s => by cases r; cases s; rfl⟩⟩
theorem RpD.mem : ∀ {kvs : List (Key × V)} {es : List (Ky × D)} {p : Key × V}, RpD k G kvs es → p ∈ kvs → ∃ q d, p.1 = kk q ∧ (q, d) ∈ es ∧ Rp k G p.2 d
  | _, _, _, .nil, h => by cases h
  | _, _, _, .cons r a, h => by
    rcases List.mem_cons.mp h with e | e
    · subst e; exact ⟨_, _, rfl, List.mem_cons_self, r⟩
    · obtain ⟨q, d, h1, h2, h3⟩ := RpD.mem a e
      exact ⟨q, d, h1, List.mem_cons_of_mem _ h2, h3⟩
theorem same_eq {es fs : List (Ky × D)} {x y : V} (hi : In G H) (h : sameD es fs = true) (px : Rp k G x (.dic es)) (py : Rp k G y (.dic fs)) : DicEq H x y := by
  obtain ⟨a, ks, rfl, h1, h2⟩ := rp_dic px
  obtain ⟨b, ls, rfl, h3, h4⟩ := rp_dic py
  simp only [sameD, Bool.and_eq_true, beq_iff_eq] at h
  refine ⟨a, b, ks, ls, rfl, rfl, hi.rd h1, hi.rd h3, by rw [h2.len, h4.len, h.1], fun p hp => ?_⟩
  obtain ⟨q, d, e1, e2, e3⟩ := h2.mem hp
  have := List.all_eq_true.mp h.2 _ e2
  cases hg : getD fs q with
  | none => simp only [hg] at this; cases this
  | some d' =>
    simp only [hg] at this
    obtain ⟨_, f1⟩ := flat_eq (k := k) (G := G) this
    obtain ⟨g1, g2⟩ := f1 _ e3
    rcases h4.val (q := q) with ⟨_, z⟩ | ⟨v', d'', z1, z2, z3⟩
    · rw [hg] at z; cases z
    · rw [hg] at z2; cases z2
      exact ⟨by rw [e1, z1, g2 _ z3], g1⟩
theorem eqD_cases {a b : D} {r : Bool} (h : eqD a b = some r) : (∀ G (x y : V), Rp k G x a → Rp k G y b → L2.scal x y = true ∧ decide (x = y) = r) ∨ (∃ es fs, a = .dic es ∧ b = .dic fs ∧ sameD es fs = true ∧ r = true) ∨ ∃ p q, py a = some p ∧ py b = some q ∧ SeqAt.shaped p = true ∧ SeqAt.shaped q = true ∧ r = PyData.eqv p q := by
  unfold eqD at h
  split at h
  · cases h
    exact .inl fun G x y p q => by rw [rp_int p, rp_int q]; exact ⟨rfl, by simp⟩
  · cases h
    refine .inl fun G x y p q => ?_
    rename_i i j
    rw [rp_str p, rp_str q]
    refine ⟨rfl, ?_⟩
    by_cases e : i = j
    · subst e; simp
    · have : S i ≠ S j := fun z => e (S_inj z)
      simp [e, this]
  · cases h
    exact .inl fun G x y p q => by rw [rp_bl p, rp_bl q]; exact ⟨rfl, by simp⟩
  · split at h
    · rename_i hs; cases h; exact .inr (.inl ⟨_, _, rfl, rfl, hs, rfl⟩)
    · cases h
  · split at h
    · rename_i p q e1 e2
      split at h
      · rename_i hs
        cases h
        rw [Bool.and_eq_true] at hs
        exact .inr (.inr ⟨p, q, e1, e2, hs.1, hs.2, rfl⟩)
      · cases h
    · cases h
def eqB (a b : D) : Option D := (eqD a b).map .bl
def neB (a b : D) : Option D := (eqD a b).map fun r => .bl (!r)
theorem os_eq : OpS k (qEq k.K) eqB := fun G H x y a b d hi px py' hd Q q => by
  unfold eqB at hd
  simp only [Option.map_eq_some_iff] at hd
  obtain ⟨r, hr, rfl⟩ := hd
  rcases eqD_cases (k := k) hr with h | ⟨es, fs, rfl, rfl, hs, rfl⟩ | ⟨p, p', e1, e2, s1, s2, rfl⟩
  · obtain ⟨h1, h2⟩ := h G x y px py'
    exact .inl ⟨h1, by rw [h2]; exact q _ G H (Up.refl hi) (.bl _)⟩
  · exact .inr (.inr ⟨same_eq hi hs px py', q _ G H (Up.refl hi) (.bl _)⟩)
  · exact .inr (.inl (opv_eqD (K := k.K) s1 s2 G H x y hi (px.z e1) (py'.z e2) Q fun v G2 H2 u z => q v G2 H2 u (of_z (.bl _) (by simp [Y.py]) z)))
theorem os_ne : OpS k (qNe k.K) neB := fun G H x y a b d hi px py' hd Q q => by
  unfold neB at hd
  simp only [Option.map_eq_some_iff] at hd
  obtain ⟨r, hr, rfl⟩ := hd
  rcases eqD_cases (k := k) hr with h | ⟨es, fs, rfl, rfl, hs, rfl⟩ | ⟨p, p', e1, e2, s1, s2, rfl⟩
  · obtain ⟨h1, h2⟩ := h G x y px py'
    exact .inl ⟨h1, by rw [h2]; exact q _ G H (Up.refl hi) (.bl _)⟩
  · exact .inr (.inr ⟨same_eq hi hs px py', q _ G H (Up.refl hi) (.bl _)⟩)
  · exact .inr (.inl (opv_neD (K := k.K) s1 s2 G H x y hi (px.z e1) (py'.z e2) Q fun v G2 H2 u z => q v G2 H2 u (of_z (.bl _) (by simp [Y.py]) z)))
def qLt : R2 := fun x y H Q => (rI0 fun i j => .bl (decide (i < j))) x y H Q ∨ rLtS x y H Q
theorem or_lt {X : Cx} : OpR X (compareOp .Lt) qLt := op_lt.or (r' := rLtS) op_lt_str
def ltD : D → D → Option D
  | .int i, .int j => some (.bl (decide (i < j)))
  | .str a, .str b => some (.bl (decide (a < b)))
  | _, _ => none
theorem os_lt : OpS k qLt ltD := fun G H x y a b d hi px py hd Q q => by
  unfold ltD at hd
  split at hd
  · cases hd
    rw [rp_int px, rp_int py]
    exact .inl ⟨_, _, rfl, rfl, q _ G H (Up.refl hi) (.bl _)⟩
  · cases hd
    rw [rp_str px, rp_str py]
    exact .inr (opv_ltS (K := k.K) G H _ _ hi (.str _) (.str _) Q fun v G2 H2 u p => q v G2 H2 u (of_z (.bl _) (by simp [Y.py]) p))
  · cases hd
def cop (f : Int → Int → Bool) : D → D → Option D
  | .int i, .int j => some (.bl (f i j))
  | _, _ => none
theorem os_C {f : Int → Int → Bool} : OpS k (rI0 fun i j => .bl (f i j)) (cop f) := fun G H x y a b d hi px py hd Q q => by
  unfold cop at hd
  split at hd
  · cases hd
    rw [rp_int px, rp_int py]
    exact ⟨_, _, rfl, rfl, q _ G H (Up.refl hi) (.bl _)⟩
  · cases hd
def leD : D → D → Option D := cop fun i j => decide (i ≤ j)
def gtD : D → D → Option D := cop fun i j => decide (j < i)
def geD : D → D → Option D := cop fun i j => decide (j ≤ i)
theorem os_le : OpS k (rI0 fun i j => .bl (decide (i ≤ j))) leD := os_C
theorem os_gt : OpS k (rI0 fun i j => .bl (decide (j < i))) gtD := os_C
theorem os_ge : OpS k (rI0 fun i j => .bl (decide (j ≤ i))) geD := os_C
/-! in -/
def inS (a b : List Nat) : Bool := !(Builtin.Str.occurrences (S b) (S a) 0 (S b).length 1).isEmpty
theorem inS_one (c : Nat) (w : List Nat) : inS [c] w = decide (c ∈ w) := by
  have := PySem.StrLaws.found_one (S w) c
  rw [S_cps] at this
  exact this
def flE : D → D → Bool
  | .non, .non => true
  | .bl a, .bl b => a == b
  | .bl a, .int b => (if a then 1 else 0) == b
  | .int a, .bl b => a == (if b then 1 else 0)
  | .int a, .int b => a == b
  | .str a, .str b => a == b
  | _, _ => false
def flat : D → Bool
  | .non => true
  | .bl _ => true
  | .int _ => true
  | .str _ => true
  | _ => false
theorem rp_flat {v : V} {d : D} (h : flat d = true) (r : Rp k G v d) : flatV v = true := by
  cases r <;> first
    | rfl
    | (simp [flat] at h; done)
theorem S_beq (a b : List Nat) : (S a == S b) = (a == b) := by
  by_cases h : a = b
  · subst h; simp
  · have : S a ≠ S b := fun e => h (S_inj e)
    rw [beq_eq_false_iff_ne.mpr this, beq_eq_false_iff_ne.mpr h]
theorem rp_flE {v w : V} {d e : D} (r : Rp k G v d) (s : Rp k G w e) (h1 : flat d = true) (h2 : flat e = true) : eqV v w = flE d e := by
  cases d <;> simp [flat] at h1 <;> cases e <;> simp [flat] at h2 <;> cases r <;> cases s <;> first
    | rfl
    | exact S_beq _ _
theorem any_flE {v : V} {d : D} (r : Rp k G v d) (hd : flat d = true) : ∀ {vs : List V} {ds : List D}, RpA k G vs ds → ds.all flat = true → inV v vs = ds.any (fun y => flE y d) ∧ vs.all flatV = true
  | _, _, .nil, _ => ⟨rfl, rfl⟩
  | _, _, .cons h a, hf => by
    simp only [List.all_cons, Bool.and_eq_true] at hf
    obtain ⟨i1, i2⟩ := any_flE r hd a hf.2
    refine ⟨?_, by simp [rp_flat hf.1 h, i2]⟩
    rename_i v' vs' d' ds'
    have e : inV v (v' :: vs') = (eqV v' v || inV v vs') := rfl
    rw [e, i1, rp_flE h r hf.1 hd]
    rfl
def rNotS : R2 := fun x y H Q => ∃ i j, x = .str i ∧ y = .str j ∧ Q (.bl (!(!(Builtin.Str.occurrences j i 0 j.length 1).isEmpty))) H
def qIn (K : PySem.W.Frag) : R2 := fun x y H Q => rInS x y H Q ∨ rIn K false x y H Q
def qNotIn (K : PySem.W.Frag) : R2 := fun x y H Q => rNotS x y H Q ∨ rIn K true x y H Q
theorem or_in {X : Cx} : OpR X (compareOp .In) (qIn X.K) := OpR.or (r := rInS) op_in_str op_in_seq
theorem or_notin {X : Cx} : OpR X (compareOp .NotIn) (qNotIn X.K) := OpR.or (r := rNotS) op_notin_str op_notIn_seq
def inD : D → D → Option Bool
  | .str a, .str b => some (inS a b)
  | x, .lst ds => if flat x && ds.all flat then some (ds.any fun y => flE y x) else none
  | x, .tup ds => if flat x && ds.all flat then some (ds.any fun y => flE y x) else none
  | _, _ => none
def inB (a b : D) : Option D := (inD a b).map .bl
def notInB (a b : D) : Option D := (inD a b).map fun r => .bl (!r)
theorem in_core {x y : V} {a b : D} {r : Bool} (hi : In G H) (px : Rp k G x a) (py : Rp k G y b) (h : inD a b = some r) (neg : Bool) {Q : VK} (q : Q (.bl (neg ^^ r)) H) : (if neg then rNotS x y H Q ∨ rIn k.K true x y H Q else rInS x y H Q ∨ rIn k.K false x y H Q) := by
  unfold inD at h
  split at h
  · cases h
    rw [rp_str px, rp_str py]
    cases neg with
    | true => rw [if_pos rfl]; exact .inl ⟨_, _, rfl, rfl, by simpa [inS] using q⟩
    | false => rw [if_neg (by simp)]; exact .inl ⟨_, _, rfl, rfl, by simpa [inS] using q⟩
  · split at h
    · rename_i hf
      cases h
      rw [Bool.and_eq_true] at hf
      obtain ⟨p, xs, rfl, h1, h2⟩ := rp_lst py
      obtain ⟨e1, e2⟩ := any_flE px hf.1 h2 hf.2
      cases neg with
      | true => rw [if_pos rfl]; exact .inr ⟨p, xs, rfl, .inl (.inl (.inl (hi.ex h1 rfl))), rp_flat hf.1 px, e2, by rw [e1]; simpa using q⟩
      | false => rw [if_neg (by simp)]; exact .inr ⟨p, xs, rfl, .inl (.inl (.inl (hi.ex h1 rfl))), rp_flat hf.1 px, e2, by rw [e1]; simpa using q⟩
    · cases h
  · split at h
    · rename_i hf
      cases h
      rw [Bool.and_eq_true] at hf
      obtain ⟨p, xs, rfl, h1, h2⟩ := rp_tup py
      obtain ⟨e1, e2⟩ := any_flE px hf.1 h2 hf.2
      cases neg with
      | true => rw [if_pos rfl]; exact .inr ⟨p, xs, rfl, .inr (in_t hi h1), rp_flat hf.1 px, e2, by rw [e1]; simpa using q⟩
      | false => rw [if_neg (by simp)]; exact .inr ⟨p, xs, rfl, .inr (in_t hi h1), rp_flat hf.1 px, e2, by rw [e1]; simpa using q⟩
    · cases h
  · cases h
theorem os_in : OpS k (qIn k.K) inB := fun G H x y a b d hi px py hd Q q => by
  unfold inB at hd
  simp only [Option.map_eq_some_iff] at hd
  obtain ⟨r, hr, rfl⟩ := hd
  have := in_core hi px py hr false (Q := Q) (by simpa using q _ G H (Up.refl hi) (.bl _))
  simpa [qIn] using this
theorem os_notin : OpS k (qNotIn k.K) notInB := fun G H x y a b d hi px py hd Q q => by
  unfold notInB at hd
  simp only [Option.map_eq_some_iff] at hd
  obtain ⟨r, hr, rfl⟩ := hd
  have := in_core hi px py hr true (Q := Q) (by simpa using q _ G H (Up.refl hi) (.bl _))
  simpa [qNotIn] using this
/-! is -/
def isNonD : D → Bool
  | .non => true
  | _ => false
theorem non_dec {v : V} {d : D} (r : Rp k G v d) : decide (v = .non) = isNonD d := by
  cases r <;> rfl
def eIsN (neg : Bool) (fa : Env → M Vl) : Env → M Vl := fun env => (fa env).bind fun x => .ok (.s, .bl (neg ^^ isNonD x.2))
theorem se_isN {E : XK} {ta : TE} {fa : Env → M Vl} (ha : SE k E ta fa) : SE k E (tIsN ta) (eIsN false fa) := fun R dr env σ G H n Q rl w => by
  refine ha.run rl (wp_bind' w) (fun _ _ _ h => h) fun dr n1 v x G1 H1 w1 l1 r1 s1 => ?_
  obtain ⟨G', l, i, _, q1, _⟩ := r1.revealA
  rw [non_dec (q1 x v s1)]
  exact w1 _ G1 H1 l1 r1 (by simpa [RV] using Rp.bl _)
theorem se_notN {E : XK} {ta : TE} {fa : Env → M Vl} (ha : SE k E ta fa) : SE k E (tNotN ta) (eIsN true fa) := fun R dr env σ G H n Q rl w => by
  refine ha.run rl (wp_bind' w) (fun _ _ _ h => h) fun dr n1 v x G1 H1 w1 l1 r1 s1 => ?_
  obtain ⟨G', l, i, _, q1, _⟩ := r1.revealA
  have := w1 (.bl (!isNonD v.2)) G1 H1 l1 r1 (by simpa [RV] using Rp.bl _)
  rw [← non_dec (q1 x v s1)] at this
  exact this
def isBlD : D → D → Option D
  | .bl a, .bl b => some (.bl (decide (a = b)))
  | _, _ => none
def notBlD : D → D → Option D
  | .bl a, .bl b => some (.bl (!decide (a = b)))
  | _, _ => none
theorem os_isBl : OpS k rIsB isBlD := fun G H x y a b d hi px py hd Q q => by
  unfold isBlD at hd
  split at hd
  · cases hd
    rw [rp_bl px, rp_bl py]
    exact ⟨_, _, rfl, rfl, q _ G H (Up.refl hi) (.bl _)⟩
  · cases hd
theorem os_notBl : OpS k rNotB notBlD := fun G H x y a b d hi px py hd Q q => by
  unfold notBlD at hd
  split at hd
  · cases hd
    rw [rp_bl px, rp_bl py]
    exact ⟨_, _, rfl, rfl, q _ G H (Up.refl hi) (.bl _)⟩
  · cases hd
/-! ### slices -/
def SO (k : Kx) (E : XK) (t : TO) (f : Env → M (Option Int)) : Prop := ∀ R dr env σ G H n (Q : Option Int → Hp → Prop), Rl k R dr env σ G H n →
  wp dr n (f env) (fun dr n' o => ∀ G2 H2, Le G G2 → Rl k R dr env σ G2 H2 n' → Q o H2) (XP k R G E) → t σ H Q
def eNo : Env → M (Option Int) := fun _ => .ok none
def ePart (fa : Env → M Vl) : Env → M (Option Int) := fun env => (fa env).bind fun x => match x.2 with
  | .int i => .ok (some i)
  | _ => .bad
theorem so_no {E : XK} : SO k E tNoPart eNo := fun R dr env σ G H n Q r w => w G H (Le.refl _) r
theorem so_part {E : XK} {ta : TE} {fa : Env → M Vl} (ha : SE k E ta fa) : SO k E (tPart ta) (ePart fa) := fun R dr env σ G H n Q rl w => by
  refine ha.run rl (wp_bind' w) (fun _ _ _ h => h) fun dr n1 v x G1 H1 w1 l1 r1 s1 => ?_
  split at w1
  · rename_i i e
    exact ⟨i, rs_int r1 e s1, w1 G1 H1 l1 r1⟩
  · exact w1.elim
def qSl (K : PySem.W.Frag) : V → Option Int → Option Int → Hp → VK → Prop := fun x lo hi H Q => rSlS x lo hi H Q ∨ (rSlL K x lo hi H Q ∨ rSlA K x lo hi H Q)
theorem or_sl {X : Cx} : L2.SlR X (qSl X.K) := sl_str.or (sl_list.or sl_tupA)
def slD (d : D) (lo hi : Option Int) : Option D := match d with
  | .str w => if w.length ≤ 10000000 then some (.str (cutL w lo hi)) else none
  | .lst ds => some (.lst (cutL ds lo hi))
  | _ => none
def eSl (fa : Env → M Vl) (fl fh : Env → M (Option Int)) : Env → M Vl := fun env => (fa env).bind fun x => (fl env).bind fun lo => (fh env).bind fun hi => (M.of (slD x.2 lo hi)).bind fun d => fin (isV x) d
theorem RpA.cut {vs : List V} {ds : List D} (h : RpA k G vs ds) (lo hi : Option Int) : RpA k G (cutL vs lo hi) (cutL ds lo hi) := by
  unfold cutL
  rw [h.len]
  exact h.drop.take
theorem se_sl {E : XK} {ta : TE} {fa : Env → M Vl} {tl th : TO} {fl fh : Env → M (Option Int)} (ha : SE k E ta fa) (hl : SO k E tl fl) (hh : SO k E th fh) : SE k E (L2.tSl (qSl k.K) ta tl th) (eSl fa fl fh) := fun R dr env σ G H n Q rl w => by
  refine ha.run rl (wp_bind' w) (fun _ _ _ h => h) fun dr n1 v x G1 H1 w1 l1 r1 s1 => ?_
  refine hl R dr env σ G1 H1 n1 _ r1 (wp_mono (wp_bind' w1) (fun dr n2 lo w2 G2 H2 l2 r2 => ?_) fun _ _ _ h => h.mono l1)
  refine hh R dr env σ G2 H2 n2 _ r2 (wp_mono (wp_bind' w2) (fun dr n3 hi w3 G3 H3 l3 r3 => ?_) fun _ _ _ h => h.mono (l1.trans l2))
  obtain ⟨d, hd, w4⟩ := wp_of.mp (wp_bind' w3)
  refine op_end (P := qSl k.K x lo hi H3 Q) r3 (wp_mono w4 (fun dr n' r q x G5 H5 l5 => q x G5 H5 ((l1.trans (l2.trans l3)).trans l5)) (fun _ _ _ h => h)) fun G' l' i' _ q1 q2 fin => ?_
  have p := q1 x v (fun z => z) (s1.mono (l2.trans l3))
  unfold slD at hd
  split at hd
  · rename_i w' e
    split at hd
    · rename_i hl
      cases hd
      rw [e] at p
      rw [rp_str p]
      refine .inl ⟨S w', rfl, by rw [S_len]; exact Nat.le_trans hl (by decide), ?_⟩
      rw [cutS_S]
      exact fin _ G' H3 (Up.refl i') (.str _)
    · cases hd
  · rename_i ds e
    cases hd
    rw [e] at p
    obtain ⟨a, vs, rfl, h1, h2⟩ := rp_lst p
    refine .inr (.inl ⟨a, vs, rfl, .inl (.inl (i'.ex h1 rfl)), fun r hr => ?_⟩)
    have u := Up.new (o := .lst (cutV vs lo hi)) i' hr
    exact fin _ _ _ u (.lst upd_same ((h2.cut lo hi).mono u.g))
  · cases hd
/-- x[::-1] of a text -/
def revD : D → Option D
  | .str w => if w.length ≤ 1000000 then some (.str w.reverse) else none
  | _ => none
theorem se_rev {E : XK} {ta : TE} {fa : Env → M Vl} (ha : SE k E ta fa) : SE k E (tRevS ta) (eUn revD fa) := by
  refine se_un (r := fun x H1 Q => ∃ z, x = .str z ∧ z.length ≤ sizeLine ∧ Q (.str (revT z)) H1) (fun G H x a d hi px hd Q q => ?_) ha
  unfold revD at hd
  split at hd
  · split at hd
    · rename_i hl
      cases hd
      refine ⟨_, rp_str px, by rw [S_len]; exact Nat.le_trans hl (by decide), ?_⟩
      rw [revT_S]
      exact q _ G H (Up.refl hi) (.str _)
    · cases hd
  · cases hd
end
end Y

namespace Y
open PySem PySem.Spec PyProof.Rows L2 Z
section
variable {k : Kx} {G H : Hp}
/-! ### len and numbers -/
def qLen (K : PySem.W.Frag) : List V → Hp → VK → Prop := fun xs H Q => rLenU K xs H Q ∨ rLenDc xs H Q
theorem cr_len {X : Cx} : CallR X (.builtin "len") (qLen X.K) := CallR.or (r := rLenU X.K) call_len cr_lenD
def lenD : List D → Option D
  | [.lst ds] => some (.int ds.length)
  | [.tup ds] => some (.int ds.length)
  | [.dic ds] => some (.int ds.length)
  | [.str w] => if w.length ≤ 10000000 then some (.int w.length) else none
  | [.scr ns] => some (.int ns.length)
  | _ => none
theorem cs_len : CaS k (qLen k.K) lenD := fun G H xs ds d hi px hd Q q => by
  unfold lenD at hd
  split at hd
  · cases hd
    obtain ⟨v, rfl, p⟩ := rpa_one px
    obtain ⟨a, vs, rfl, h1, h2⟩ := rp_lst p
    exact .inl ⟨.ref a, _, rfl, .inl ⟨vs, .inl (.inl (hi.ex h1 rfl)), h2.len.symm⟩, q _ G H (Up.refl hi) (.int _)⟩
  · cases hd
    obtain ⟨v, rfl, p⟩ := rpa_one px
    obtain ⟨a, vs, rfl, h1, h2⟩ := rp_tup p
    exact .inl ⟨.ref a, _, rfl, .inr ⟨vs, in_t hi h1, h2.len.symm⟩, q _ G H (Up.refl hi) (.int _)⟩
  · cases hd
    obtain ⟨v, rfl, p⟩ := rpa_one px
    obtain ⟨a, vs, rfl, h1, h2⟩ := rp_dic p
    exact .inr ⟨a, vs, rfl, hi.rd h1, by rw [h2.len]; exact q _ G H (Up.refl hi) (.int _)⟩
  · split at hd
    · rename_i hl
      cases hd
      obtain ⟨v, rfl, p⟩ := rpa_one px
      rw [rp_str p]
      exact .inl ⟨_, _, rfl, ⟨by rw [S_len]; exact Nat.le_trans hl (by decide), by rw [S_len]⟩, q _ G H (Up.refl hi) (.int _)⟩
    · cases hd
  · cases hd
    obtain ⟨v, rfl, p⟩ := rpa_one px
    cases p with
    | scr hs => exact .inl ⟨_, _, rfl, .inl ⟨_, sql_in hs hi, by rw [List.length_map]⟩, q _ G H (Up.refl hi) (.int _)⟩
  · cases hd
def absD : List D → Option D
  | [.int i] => some (.int (i.natAbs : Int))
  | _ => none
theorem cs_abs : CaS k rAbs absD := fun G H xs ds d hi px hd Q q => by
  unfold absD at hd
  split at hd
  · cases hd
    obtain ⟨v, rfl, p⟩ := rpa_one px
    rw [rp_int p]
    exact cav_abs (K := k.K) G H _ hi (.cons (.int _) .nil) Q fun v G2 H2 u p => q v G2 H2 u (of_z (.int _) (by simp [Y.py]) p)
  · cases hd
def minD2 : List D → Option D
  | [.int i, .int j] => some (.int (min i j))
  | _ => none
def maxD2 : List D → Option D
  | [.int i, .int j] => some (.int (max i j))
  | _ => none
theorem cs_min2 : CaS k rMin2 minD2 := fun G H xs ds d hi px hd Q q => by
  unfold minD2 at hd
  split at hd
  · cases hd
    obtain ⟨v, w, rfl, p, p'⟩ := rpa_two px
    rw [rp_int p, rp_int p']
    exact cav_min2 (K := k.K) G H _ hi (.cons (.int _) (.cons (.int _) .nil)) Q fun v G2 H2 u p => q v G2 H2 u (of_z (.int _) (by simp [Y.py]) p)
  · cases hd
theorem cs_max2 : CaS k rMax2 maxD2 := fun G H xs ds d hi px hd Q q => by
  unfold maxD2 at hd
  split at hd
  · cases hd
    obtain ⟨v, w, rfl, p, p'⟩ := rpa_two px
    rw [rp_int p, rp_int p']
    exact cav_max2 (K := k.K) G H _ hi (.cons (.int _) (.cons (.int _) .nil)) Q fun v G2 H2 u p => q v G2 H2 u (of_z (.int _) (by simp [Y.py]) p)
  · cases hd
def intD : List D → Option D
  | [.int i] => some (.int i)
  | _ => none
theorem cs_int : CaS k rInt1 intD := fun G H xs ds d hi px hd Q q => by
  unfold intD at hd
  split at hd
  · cases hd
    obtain ⟨v, rfl, p⟩ := rpa_one px
    rw [rp_int p]
    exact .inl ⟨_, rfl, q _ G H (Up.refl hi) (.int _)⟩
  · cases hd
/-! ### lists of one kind -/
def blsOf : List D → Option (List Bool)
  | [] => some []
  | .bl b :: ds => (blsOf ds).map (b :: ·)
  | _ => none
def intsOf : List D → Option (List Int)
  | [] => some []
  | .int b :: ds => (intsOf ds).map (b :: ·)
  | _ => none
def strsOf : List D → Option (List (List Nat))
  | [] => some []
  | .str b :: ds => (strsOf ds).map (b :: ·)
  | _ => none
@[simp] theorem blsOf_map : ∀ xs : List Bool, blsOf (xs.map .bl) = some xs
  | [] => rfl
  | x :: xs => by simp [blsOf, blsOf_map xs]
@[simp] theorem intsOf_map : ∀ xs : List Int, intsOf (xs.map .int) = some xs
  | [] => rfl
  | x :: xs => by simp [intsOf, intsOf_map xs]
@[simp] theorem strsOf_map : ∀ xs : List (List Nat), strsOf (xs.map .str) = some xs
  | [] => rfl
  | x :: xs => by simp [strsOf, strsOf_map xs]
theorem of_bls : ∀ {ds : List D} {xs : List Bool}, blsOf ds = some xs → ds = xs.map .bl
  | [], xs, h => by cases h; rfl
  | d :: ds, xs, h => by
    cases d <;> simp only [blsOf, Option.map_eq_some_iff] at h <;> first
      | (cases h; done)
      | skip
    obtain ⟨ys, h1, rfl⟩ := h
    rw [of_bls h1]; rfl
theorem of_dints : ∀ {ds : List D} {xs : List Int}, intsOf ds = some xs → ds = xs.map .int
  | [], xs, h => by cases h; rfl
  | d :: ds, xs, h => by
    cases d <;> simp only [intsOf, Option.map_eq_some_iff] at h <;> first
      | (cases h; done)
      | skip
    obtain ⟨ys, h1, rfl⟩ := h
    rw [of_dints h1]; rfl
theorem of_strs : ∀ {ds : List D} {xs : List (List Nat)}, strsOf ds = some xs → ds = xs.map .str
  | [], xs, h => by cases h; rfl
  | d :: ds, xs, h => by
    cases d <;> simp only [strsOf, Option.map_eq_some_iff] at h <;> first
      | (cases h; done)
      | skip
    obtain ⟨ys, h1, rfl⟩ := h
    rw [of_strs h1]; rfl
theorem rpa_bls : ∀ {vs : List V} {xs : List Bool}, RpA k G vs (xs.map .bl) → vs = xs.map .bl
  | vs, [], h => rpa_nil h
  | vs, x :: xs, h => by
    obtain ⟨v, ws, rfl, h1, h2⟩ := rpa_cons h
    rw [rp_bl h1, rpa_bls h2]; rfl
theorem rpa_dints : ∀ {vs : List V} {xs : List Int}, RpA k G vs (xs.map .int) → vs = xs.map .int
  | vs, [], h => rpa_nil h
  | vs, x :: xs, h => by
    obtain ⟨v, ws, rfl, h1, h2⟩ := rpa_cons h
    rw [rp_int h1, rpa_dints h2]; rfl
theorem rpa_strs : ∀ {vs : List V} {xs : List (List Nat)}, RpA k G vs (xs.map .str) → vs = xs.map fun w => .str (S w)
  | vs, [], h => rpa_nil h
  | vs, x :: xs, h => by
    obtain ⟨v, ws, rfl, h1, h2⟩ := rpa_cons h
    rw [rp_str h1, rpa_strs h2]; rfl
theorem strs_rpa : ∀ xs : List (List Nat), RpA k G (xs.map fun w => .str (S w)) (xs.map .str)
  | [] => .nil
  | x :: xs => .cons (.str x) (strs_rpa xs)
theorem ints_rpa' : ∀ xs : List Int, RpA k G (xs.map .int) (xs.map .int)
  | [] => .nil
  | x :: xs => .cons (.int x) (ints_rpa' xs)
theorem pys_strs : ∀ l : List (List Nat), pys (l.map .str) = some (l.map dS)
  | [] => by simp [pys]
  | c :: w => by
    simp only [List.map_cons]
    rw [pys, pys_strs w]
    simp [py]
theorem pys_ints' (l : List Int) : pys (l.map .int) = some (l.map dI) := pys_dInts l
def allD : List D → Option D
  | [.lst ds] => (blsOf ds).map fun bs => .bl (bs.all id)
  | _ => none
def anyD : List D → Option D
  | [.lst ds] => (blsOf ds).map fun bs => .bl (bs.any id)
  | _ => none
def sumD : List D → Option D
  | [.lst ds] => (intsOf ds).map fun bs => .int bs.sum
  | _ => none
theorem cs_all : CaS k (rAll k.K) allD := fun G H xs ds d hi px hd Q q => by
  unfold allD at hd
  split at hd
  · simp only [Option.map_eq_some_iff] at hd
    obtain ⟨bs, h1, rfl⟩ := hd
    obtain ⟨v, rfl, p⟩ := rpa_one px
    rw [of_bls h1] at p
    obtain ⟨a, vs, rfl, h2, h3⟩ := rp_lst p
    rw [rpa_bls h3] at h2
    exact ⟨a, bs, rfl, .inl (.inl (hi.ex h2 rfl)), q _ G H (Up.refl hi) (.bl _)⟩
  · cases hd
theorem cs_any : CaS k (rAny k.K) anyD := fun G H xs ds d hi px hd Q q => by
  unfold anyD at hd
  split at hd
  · simp only [Option.map_eq_some_iff] at hd
    obtain ⟨bs, h1, rfl⟩ := hd
    obtain ⟨v, rfl, p⟩ := rpa_one px
    rw [of_bls h1] at p
    obtain ⟨a, vs, rfl, h2, h3⟩ := rp_lst p
    rw [rpa_bls h3] at h2
    exact ⟨a, bs, rfl, .inl (.inl (hi.ex h2 rfl)), q _ G H (Up.refl hi) (.bl _)⟩
  · cases hd
theorem cs_sum : CaS k (rSum k.K) sumD := fun G H xs ds d hi px hd Q q => by
  unfold sumD at hd
  split at hd
  · simp only [Option.map_eq_some_iff] at hd
    obtain ⟨bs, h1, rfl⟩ := hd
    obtain ⟨v, rfl, p⟩ := rpa_one px
    rw [of_dints h1] at p
    obtain ⟨a, vs, rfl, h2, h3⟩ := rp_lst p
    rw [rpa_dints h3] at h2
    exact ⟨a, bs, rfl, .inl (.inl (hi.ex h2 rfl)), q _ G H (Up.refl hi) (.int _)⟩
  · cases hd
/-! ### the least text, texts and numbers in order -/
def minL : List D → Option D
  | [.lst ds] => match strsOf ds with
    | some (x :: xs) => some (.str (minS (x :: xs)))
    | _ => none
  | _ => none
theorem cs_min : CaS k (rMinD k.K) minL := fun G H xs ds d hi px hd Q q => by
  unfold minL at hd
  split at hd
  · split at hd
    · rename_i x ws h1
      cases hd
      obtain ⟨v, rfl, p⟩ := rpa_one px
      rw [of_strs h1] at p
      have pz : Z.Rp k.K G v (dL dS (x :: ws)) := p.z (by simp only [py, pys_strs]; rfl)
      exact cav_minS (K := k.K) (xs := x :: ws) (by simp) trivial G H _ hi (.cons pz .nil) Q fun v G2 H2 u p => q v G2 H2 u (of_z (.str _) (by simp [Y.py]) p)
    · cases hd
  · cases hd
def sortI (xs : List Int) : List Int := xs.mergeSort fun a b => decide (a ≤ b)
theorem dataLe_str (a b : List Nat) : PySem.W.dataLe false (fun d => d) (dS a) (dS b) = leW a b := by
  have e : PySem.W.dataLe false (fun d => d) (dS a) (dS b) = !PySem.W.dataLt (dS b) (dS a) := rfl
  rw [e, PySem.W.dataLt_str, S_cps, S_cps]
  unfold leW
  by_cases h : b < a
  · rw [decide_eq_true h, decide_eq_false (fun z => absurd h (Std.not_lt.mpr z))]; rfl
  · rw [decide_eq_false h, decide_eq_true (Std.not_lt.mp h)]; rfl
theorem dataLe_int (a b : Int) : PySem.W.dataLe false (fun d => d) (dI a) (dI b) = decide (a ≤ b) := by
  have e : PySem.W.dataLe false (fun d => d) (dI a) (dI b) = !PySem.W.dataLt (dI b) (dI a) := rfl
  rw [e, PySem.W.dataLt_int]
  by_cases h : b < a
  · rw [decide_eq_true h, decide_eq_false (by omega)]; rfl
  · rw [decide_eq_false h, decide_eq_true (by omega)]; rfl
theorem sortD_strs (xs : List (List Nat)) : sortD (xs.map dS) = (sortW xs).map dS := by
  unfold sortD sortW
  rw [List.map_mergeSort]
  intro a _ b _; exact (dataLe_str a b).symm
theorem sortD_ints (xs : List Int) : sortD (xs.map dI) = (sortI xs).map dI := by
  unfold sortD sortI
  rw [List.map_mergeSort]
  intro a _ b _; exact (dataLe_int a b).symm
def sortL (ds : List D) : Option (List D) := match strsOf ds with
  | some ws => some ((sortW ws).map .str)
  | none => match intsOf ds with
    | some is => some ((sortI is).map .int)
    | none => none
def keysOf : List (Ky × D) → Option (List (List Nat))
  | [] => some []
  | (.inr w, _) :: es => (keysOf es).map (w :: ·)
  | _ => none
def sortedD : List D → Option D
  | [.lst ds] => (sortL ds).map .lst
  | [.dic es] => if es.length < 64 then (keysOf es).map fun ws => .lst ((sortW ws).map .str) else none
  | _ => none
def qSorted (K : PySem.W.Frag) : List V → Hp → VK → Prop := fun xs H Q => rSortD K xs H Q ∨ rSortDk xs H Q
theorem cr_sorted {X : Cx} (hc : X.calm = true) (hu : X.A.units + 100 < cLine) : CallR X (.builtin "sorted") (qSorted X.K) := CallR.or (r' := rSortDk) (cr_sortD hu) (call_sortedD hc)
theorem sort_str_ok (xs : List (List Nat)) : PySem.W.AllAlike (xs.map dS) ∧ PySem.W.Sortable (xs.map dS) ∧ (∀ d ∈ xs.map dS, d.depth ≤ 64) := by
  have key : ∀ d ∈ xs.map dS, ∃ l, d = dS l := fun d hd => by
    obtain ⟨l, _, e⟩ := List.mem_map.mp hd
    exact ⟨l, e.symm⟩
  refine ⟨fun a ha b hb => ?_, ?_, fun a ha => ?_⟩
  · obtain ⟨l, rfl⟩ := key a ha
    obtain ⟨m, rfl⟩ := key b hb
    simp [PySem.W.alike]
  · refine .inr fun a ha => ?_
    obtain ⟨l, rfl⟩ := key a ha
    exact ⟨(by intro z; cases z), fun xs z => by cases z⟩
  · obtain ⟨l, rfl⟩ := key a ha
    simp [PyData.depth]
theorem sort_int_ok (xs : List Int) : PySem.W.AllAlike (xs.map dI) ∧ PySem.W.Sortable (xs.map dI) ∧ (∀ d ∈ xs.map dI, d.depth ≤ 64) := by
  have key : ∀ d ∈ xs.map dI, ∃ l, d = dI l := fun d hd => by
    obtain ⟨l, _, e⟩ := List.mem_map.mp hd
    exact ⟨l, e.symm⟩
  refine ⟨fun a ha b hb => ?_, ?_, fun a ha => ?_⟩
  · obtain ⟨l, rfl⟩ := key a ha
    obtain ⟨m, rfl⟩ := key b hb
    simp [PySem.W.alike]
  · refine .inr fun a ha => ?_
    obtain ⟨l, rfl⟩ := key a ha
    exact ⟨(by intro z; cases z), fun xs z => by cases z⟩
  · obtain ⟨l, rfl⟩ := key a ha
    simp [PyData.depth]
theorem dp_of {vs : List V} {ds : List D} {ps : List PyData} (hi : In G H) (h : RpA k G vs ds) (e : pys ds = some ps) (hf : dicFs ps = true) : DpAll k.K H vs ps := (h.z e).dp hi hf
theorem dicFs_I : ∀ xs : List Int, dicFs (xs.map dI) = true
  | [] => by simp [dicFs]
  | x :: xs => by simp only [List.map_cons, dicFs, Bool.and_eq_true]; exact ⟨by simp [dicF], dicFs_I xs⟩
theorem keys_of : ∀ {kvs : List (Key × V)} {es : List (Ky × D)} {ws : List (List Nat)}, RpD k G kvs es → keysOf es = some ws → kvs.map (·.1) = (ws.map S).map Sum.inr
  | _, _, _, .nil, h => by cases h; rfl
  | _, _, _, .cons (q := q) _ a, h => by
    cases q with
    | inl i => cases h
    | inr w =>
      simp only [keysOf, Option.map_eq_some_iff] at h
      obtain ⟨ys, h1, rfl⟩ := h
      simp only [List.map_cons, kk]
      rw [keys_of a h1]
theorem keysOf_len : ∀ {es : List (Ky × D)} {ws : List (List Nat)}, keysOf es = some ws → ws.length = es.length
  | [], _, h => by cases h; rfl
  | (q, _) :: es, ws, h => by
    cases q with
    | inl i => cases h
    | inr w =>
      simp only [keysOf, Option.map_eq_some_iff] at h
      obtain ⟨ys, h1, rfl⟩ := h
      simp [keysOf_len h1]
theorem co_sorted : CaO k (qSorted k.K) sortedD := fun G H xs ds d hi px hd Q q => by
  unfold sortedD at hd
  split at hd
  · rename_i es
    simp only [Option.map_eq_some_iff] at hd
    obtain ⟨rs, h1, rfl⟩ := hd
    obtain ⟨v, rfl, p⟩ := rpa_one px
    obtain ⟨a, vs, rfl, h2, h3⟩ := rp_lst p
    unfold sortL at h1
    split at h1
    · rename_i ws hw
      cases h1
      obtain ⟨o1, o2, o3⟩ := sort_str_ok ws
      have ep : pys es = some (ws.map dS) := by rw [of_strs hw]; exact pys_strs ws
      refine .inl ⟨a, vs, _, rfl, .inl (.inl (hi.ex h2 rfl)), dp_of hi h3 ep (dicFs_S ws), o1, o2, o3, fun p ys hp hy => ?_⟩
      obtain ⟨y1, y2⟩ := hy (fun x d => x = .str (match d with | .str z => z | _ => S [])) (fun i x d hx hd => by
        rw [List.getElem?_map] at hd
        cases hz : ws[i]? with
        | none => rw [hz] at hd; cases hd
        | some z =>
          rw [hz] at hd
          simp only [Option.map_some, Option.some.injEq] at hd
          subst hd
          obtain ⟨v', g1, g2⟩ := h3.get (i := i) (d := .str z) (by rw [of_strs hw, List.getElem?_map, hz]; rfl)
          rw [hx] at g1; cases g1
          exact rp_str g2)
      rw [sortD_strs] at y1 y2
      have ey : ys = (sortW ws).map fun w => .str (S w) := by
        apply List.ext_getElem?
        intro i
        rw [List.getElem?_map]
        cases hz : (sortW ws)[i]? with
        | none =>
          rw [List.getElem?_eq_none_iff] at hz
          rw [List.getElem?_eq_none (by rw [y1, List.length_map]; exact hz)]; rfl
        | some z =>
          have hlt : i < ys.length := by rw [y1, List.length_map]; exact (List.getElem?_eq_some_iff.mp hz).1
          have := y2 i ys[i] (dS z) (List.getElem?_eq_getElem hlt) (by rw [List.getElem?_map, hz]; rfl)
          rw [List.getElem?_eq_getElem hlt, this]; rfl
      rw [ey]
      exact q p _ hp (.lst (strs_rpa _))
    · split at h1
      · rename_i is hw
        cases h1
        obtain ⟨o1, o2, o3⟩ := sort_int_ok is
        have ep : pys es = some (is.map dI) := by rw [of_dints hw]; exact pys_dInts is
        refine .inl ⟨a, vs, _, rfl, .inl (.inl (hi.ex h2 rfl)), dp_of hi h3 ep (dicFs_I is), o1, o2, o3, fun p ys hp hy => ?_⟩
        obtain ⟨y1, y2⟩ := hy (fun x d => x = .int (match d with | .int z => z | _ => 0)) (fun i x d hx hd => by
          rw [List.getElem?_map] at hd
          cases hz : is[i]? with
          | none => rw [hz] at hd; cases hd
          | some z =>
            rw [hz] at hd
            simp only [Option.map_some, Option.some.injEq] at hd
            subst hd
            obtain ⟨v', g1, g2⟩ := h3.get (i := i) (d := .int z) (by rw [of_dints hw, List.getElem?_map, hz]; rfl)
            rw [hx] at g1; cases g1
            exact rp_int g2)
        rw [sortD_ints] at y1 y2
        have ey : ys = (sortI is).map .int := by
          apply List.ext_getElem?
          intro i
          rw [List.getElem?_map]
          cases hz : (sortI is)[i]? with
          | none =>
            rw [List.getElem?_eq_none_iff] at hz
            rw [List.getElem?_eq_none (by rw [y1, List.length_map]; exact hz)]; rfl
          | some z =>
            have hlt : i < ys.length := by rw [y1, List.length_map]; exact (List.getElem?_eq_some_iff.mp hz).1
            have := y2 i ys[i] (dI z) (List.getElem?_eq_getElem hlt) (by rw [List.getElem?_map, hz]; rfl)
            rw [List.getElem?_eq_getElem hlt, this]; rfl
        rw [ey]
        exact q p _ hp (.lst (ints_rpa' _))
      · cases h1
  · rename_i es
    split at hd
    · rename_i hl
      simp only [Option.map_eq_some_iff] at hd
      obtain ⟨ws, h1, rfl⟩ := hd
      obtain ⟨v, rfl, p⟩ := rpa_one px
      obtain ⟨a, vs, rfl, h2, h3⟩ := rp_dic p
      refine .inr ⟨a, vs, ws.map S, rfl, hi.rd h2, keys_of h3 h1, by rw [List.length_map, keysOf_len h1]; exact hl, fun ys r pm so hr => ?_⟩
      have e2 : ys.map (fun y => y.cps.toList) = sortW ws := by
        apply sortW_unique
        · have := pm.map (fun y : Str => y.cps.toList)
          rw [List.map_map] at this
          have e3 : ws.map ((fun y : Str => y.cps.toList) ∘ S) = ws := by
            conv => rhs; rw [← List.map_id ws]
            exact List.map_congr_left fun w _ => S_cps w
          rw [e3] at this
          exact this
        · exact List.pairwise_map.mpr (sorted_pw so)
      have e4 : ys.map V.str = (sortW ws).map fun w => .str (S w) := by
        rw [← e2, List.map_map]
        exact List.map_congr_left fun y _ => by
          show V.str y = V.str (S y.cps.toList)
          rw [S_eta]
      rw [e4]
      exact q r _ hr (.lst (strs_rpa _))
    · cases hd
  · cases hd
/-! ### list(x), tuple(x), join -/
def listD : List D → Option D
  | [.lst ds] => some (.lst ds)
  | [.tup ds] => some (.lst ds)
  | [.str w] => if w.length ≤ 1000000 then some (.lst (chars w)) else none
  | _ => none
def qList (K : PySem.W.Frag) : List V → Hp → VK → Prop := fun xs H Q => rListOf K xs H Q ∨ rListS xs H Q
theorem cr_list {X : Cx} (hc : X.calm = true) : CallR X (.type "list") (qList X.K) := CallR.or (r := rListOf X.K) call_list_of (cr_listS hc)
theorem chars_rpa (w : List Nat) : RpA k G (w.map fun c => .str (S [c])) (chars w) := by
  induction w with
  | nil => exact .nil
  | cons c w ih => exact .cons (.str [c]) ih
theorem co_list : CaO k (qList k.K) listD := fun G H xs ds d hi px hd Q q => by
  unfold listD at hd
  split at hd
  · cases hd
    obtain ⟨v, rfl, p⟩ := rpa_one px
    obtain ⟨a, vs, rfl, h1, h2⟩ := rp_lst p
    exact .inl ⟨a, vs, rfl, .inl (.inl (.inl (hi.ex h1 rfl))), fun l hl => q l _ hl (.lst h2)⟩
  · cases hd
    obtain ⟨v, rfl, p⟩ := rpa_one px
    obtain ⟨a, vs, rfl, h1, h2⟩ := rp_tup p
    exact .inl ⟨a, vs, rfl, .inr (in_t hi h1), fun l hl => q l _ hl (.lst h2)⟩
  · split at hd
    · rename_i hl
      cases hd
      obtain ⟨v, rfl, p⟩ := rpa_one px
      rw [rp_str p]
      refine .inr ⟨_, rfl, by rw [S_len]; exact Nat.le_trans hl (by decide), fun l hl => ?_⟩
      rw [S_cps]
      exact q l _ hl (.lst (chars_rpa _))
    · cases hd
  · cases hd
def tupD : D → Option D
  | .lst ds => some (.tup ds)
  | .tup ds => some (.tup ds)
  | _ => none
theorem se_tupleOf {E : XK} {ta : TE} {fa : Env → M Vl} (ha : SE k E ta fa) : SE k E (tThen ta (kTup k.K)) (eUn tupD fa) := by
  refine se_un (r := kTup k.K) (fun G H x a d hi px hd Q q => ?_) ha
  unfold tupD at hd
  split at hd
  · cases hd
    obtain ⟨a, vs, rfl, h1, h2⟩ := rp_lst px
    refine .inl ⟨a, vs, rfl, .inl (.inl (hi.ex h1 rfl)), fun l hl => ?_⟩
    have u := Up.new (o := .tup vs) hi hl
    exact q _ _ _ u (.tup (.inl (.inl upd_same)) (h2.mono u.g))
  · cases hd
    obtain ⟨a, vs, rfl, h1, h2⟩ := rp_tup px
    exact .inr ⟨a, vs, rfl, in_t hi h1, q _ G H (Up.refl hi) (.tup h1 h2)⟩
  · cases hd
/-- "".join(texts) -/
def joinD : D → D → Option D
  | .str [], .lst ds => match strsOf ds with
    | some ws => if (ws.map List.length).sum ≤ 10000000 then some (.str ws.flatten) else none
    | none => none
  | _, _ => none
def eJoin (fa fb : Env → M Vl) : Env → M Vl := fun env => (fa env).bind fun x => match x.2 with
  | .str w => (fb env).bind fun y => (M.of (joinD (.str w) y.2)).bind fun d => fin (isV x || isV y) d
  | _ => .bad
theorem se_join {E : XK} {ta tb : TE} {fa fb : Env → M Vl} (ha : SE k E ta fa) (hb : SE k E tb fb) : SE k E (tM1 (rJoin k.K) ta tb) (eJoin fa fb) := fun R dr env σ G H n Q rl w => by
  refine ha.run rl (wp_bind' w) (fun _ _ _ h => h) fun dr n1 v x G1 H1 w1 l1 r1 s1 => ?_
  split at w1
  · rename_i w0 e0
    obtain ⟨G', lg, ig, _, qr, _⟩ := r1.revealA
    have px := qr x v s1
    rw [e0] at px
    refine ⟨⟨_, rp_str px⟩, ?_⟩
    refine hb.run r1 (wp_bind' w1) (fun _ _ _ h => h.mono l1) fun dr n2 v2 y G2 H2 w2 l2 r2 s2 => ?_
    obtain ⟨d, hd, w3⟩ := wp_of.mp (wp_bind' w2)
    refine op_end (P := rJoin k.K x [y] H2 Q) r2 (wp_mono w3 (fun dr n' r q x G3 H3 l3 => q x G3 H3 ((l1.trans l2).trans l3)) (fun _ _ _ h => h)) fun G' l' i' _ q1 q2 fin => ?_
    have py' := q1 y v2 (fun z => by revert z; cases isV v2 <;> simp) s2
    unfold joinD at hd
    split at hd
    · rename_i ds e1 e2
      cases e1
      split at hd
      · rename_i ws hw
        split at hd
        · rename_i hl
          cases hd
          rw [e2, of_strs hw] at py'
          obtain ⟨a, vs, rfl, h1, h2⟩ := rp_lst py'
          rw [rpa_strs h2] at h1
          rw [rp_str px]
          refine ⟨S [], a, ws.map S, rfl, rfl, .inl (.inl (.inl ?_)), ?_, ?_⟩
          · have := i'.ex h1 rfl
            rw [List.map_map]; exact this
          · have e1 : (ws.map S).map (·.length) = ws.map List.length := by
              rw [List.map_map]
              exact List.map_congr_left fun l _ => S_len l
            rw [e1, S_len]
            simp only [List.length_nil, Nat.mul_zero, Nat.add_zero]
            exact Nat.le_trans hl (by decide)
          · rw [Z.join_nil]
            exact fin _ G' H2 (Up.refl i') (.str _)
        · cases hd
      · cases hd
    · cases hd
  · exact w1.elim
end
end Y

namespace Y
open PySem PySem.Spec PyProof.Rows L2 Z
/-! ### isinstance -/
def rIsXd (K : PySem.W.Frag) : List V → Hp → VK → Prop := fun xs H Q => ∃ (a D : Addr) (dd : Option Addr) (c : V) (cv : Value) (b : Bool), xs = [.ref a, c] ∧ H a = some (ExV (.ref D) dd a) ∧ (∀ b, dd = some b → ∃ fs, H b = some (.xd fs)) ∧ ExcC K D ∧ (∀ u, RelV c u → u = cv) ∧ PySem.W.kitOne K (.ref D) cv = some b ∧ Q (.bl b) H
def qIsi (K : PySem.W.Frag) : List V → Hp → VK → Prop := rIsA K
def tyName : D → Option String
  | .non => some "NoneType"
  | .bl _ => some "bool"
  | .int _ => some "int"
  | .str _ => some "str"
  | .lst _ => some "list"
  | .tup _ => some "tuple"
  | .dic _ => some "dict"
  | _ => none
/-- what is known of the classes of errors -/
def XTab (k : Kx) (tab : List (Str × Str × Bool)) : Prop := ∀ p ∈ tab, ExcC k.K (k.ca p.1) ∧ PySem.W.kitOne k.K (.ref (k.ca p.1)) (.ref (k.ca p.2.1)) = some p.2.2
def lookX (tab : List (Str × Str × Bool)) (a b : Str) : Option Bool := (tab.find? fun p => decide (p.1 = a ∧ p.2.1 = b)).map (·.2.2)
def isiD (tab : List (Str × Str × Bool)) : List D → Option D
  | [d, .ty c] => (tyName d).bind fun n => (kitB n c).map .bl
  | [.exc C [], .glo B] => (lookX tab C B).map .bl
  | _ => none
section
variable {k : Kx} {G H : Hp}
theorem tyX_of {x : V} {d : D} {n : String} (hi : In G H) (p : Rp k G x d) (h : tyName d = some n) : TyX k.K H x (.type n) := by
  cases p with
  | non => cases h; exact .base .non
  | bl b => cases h; exact .base (.bl b)
  | int i => cases h; exact .base (.int i)
  | str s => cases h; exact .base (.str _)
  | lst g _ => cases h; exact .base (.lst (hi.ex g rfl))
  | tup g _ =>
    cases h
    rcases g with q | q
    · rcases q with q | ⟨o, q⟩
      · exact .base (.tup (hi.ex q rfl))
      · exact .fTuple (hi.ex q rfl)
    · obtain ⟨o, its, n, h1, h2, _⟩ := q
      exact .kTuple h1 h2
  | dic g _ =>
    cases h
    rcases hi _ _ g with q | ⟨_, o, q⟩
    · exact .base (.dK q)
    · exact .fDict q
  | _ => cases h
theorem cs_isi {tab : List (Str × Str × Bool)} (ht : XTab k tab) : CaS k (rIsA k.K) (isiD tab) := fun G H xs ds d hi px hd Q q => by
  unfold isiD at hd
  split at hd
  · rename_i d0 c
    simp only [Option.bind_eq_some_iff, Option.map_eq_some_iff] at hd
    obtain ⟨n, h1, b, h2, rfl⟩ := hd
    obtain ⟨v, w, rfl, p1, p2⟩ := rpa_two px
    cases p2
    exact .inl ⟨v, .ty c, .type n, .type c, b, rfl, by constructor, tyX_of hi p1 h1, kit_ty h2, q _ G H (Up.refl hi) (.bl _)⟩
  · rename_i C B
    simp only [Option.map_eq_some_iff] at hd
    obtain ⟨b, h1, rfl⟩ := hd
    obtain ⟨v, w, rfl, p1, p2⟩ := rpa_two px
    unfold lookX at h1
    simp only [Option.map_eq_some_iff] at h1
    obtain ⟨p, hp, rfl⟩ := h1
    have hm := List.mem_of_find?_eq_some hp
    have he := List.find?_some hp
    obtain ⟨e1, e2⟩ := of_decide_eq_true he
    obtain ⟨t1, t2⟩ := ht p hm
    cases p2
    cases p1 with
    | exc g =>
      rw [e1] at t1 t2
      rw [e2] at t2
      exact .inr ⟨_, k.ca C, .ref (k.ca B), .ref (k.ca B), p.2.2, rfl, hi.ex g rfl, t1, fun u r => r, t2, q _ G H (Up.refl hi) (.bl _)⟩
    | excF _ _ _ h => exact absurd rfl h
  · cases hd
/-- isinstance(x, (A, B)) of built-in types -/
def isiT (cs : List String) (d : D) : Option Bool := (tyName d).bind fun n => if cs.any (fun c => kitB n c == some true) then some true else if cs.all (fun c => kitB n c == some false) then some false else none
def tysA : List String → TA
  | [] => tNil
  | c :: cs => tCons (tC (.ty c)) (tysA cs)
theorem tysA_run : ∀ (cs : List String) {σ : L2.St} {H : Hp} {Q : List V → Hp → Prop}, Q (cs.map V.ty) H → tysA cs σ H Q
  | [], _, _, _, h => h
  | c :: cs, _, _, _, h => tysA_run cs (Q := fun vs H => _) h
theorem kitAny_of {n : String} : ∀ (cs : List String) {b : Bool}, (b = true → cs.any (fun c => kitB n c == some true) = true) → (b = false → cs.all (fun c => kitB n c == some false) = true) → (∀ c ∈ cs, (kitB n c).isSome = true) → PySem.W.kitAny k.K (.type n) (cs.map Value.type) = some b
  | [], b, h1, h2, h3 => by
    cases b with
    | true => have := h1 rfl; simp at this
    | false => rfl
  | c :: cs, b, h1, h2, h3 => by
    obtain ⟨b0, hb0⟩ := Option.isSome_iff_exists.mp (h3 c List.mem_cons_self)
    refine kitAny_cons (b := b0) (kit_ty hb0) (fun hf => ?_) (fun ht => ?_)
    · subst hf
      refine kitAny_of cs (fun z => ?_) (fun z => ?_) fun c' hc' => h3 c' (List.mem_cons_of_mem _ hc')
      · have := h1 z
        simp only [List.any_cons, hb0] at this
        simpa using this
      · have := h2 z
        simp only [List.all_cons, Bool.and_eq_true] at this
        exact this.2
    · subst ht
      cases b with
      | true => rfl
      | false =>
        have := h2 rfl
        simp only [List.all_cons, hb0, Bool.and_eq_true] at this
        exact absurd this.1 (by simp)
theorem paired_ty : ∀ cs : List String, Paired ClsV (cs.map V.ty) (cs.map Value.type)
  | [] => .nil
  | c :: cs => .cons (by constructor) (paired_ty cs)
def eIsiT (cs : List String) (fa : Env → M Vl) : Env → M Vl := fun env => (fa env).bind fun x => if cs.length ≤ 10 ∧ (cs.all fun c => ((tyName x.2).bind fun n => kitB n c).isSome) = true then (M.of (isiT cs x.2)).bind fun b => .ok (.s, .bl b) else .bad
theorem se_isiT {E : XK} {ta : TE} {fa : Env → M Vl} {cs : List String} (ha : SE k E ta fa) : SE k E (tCB (rIsiT k.K) (tCons ta (tCons (tTup (tysA cs)) tNil))) (eIsiT cs fa) := fun R dr env σ G H n Q rl w => by
  refine ha.run rl (wp_bind' w) (fun _ _ _ h => h) fun dr n1 v x G1 H1 w1 l1 r1 s1 => ?_
  by_cases hc : cs.length ≤ 10 ∧ (cs.all fun c => ((tyName v.2).bind fun n => kitB n c).isSome) = true
  · rw [if_pos hc] at w1
    obtain ⟨b, hb, w2⟩ := wp_of.mp (wp_bind' w1)
    refine tysA_run cs ⟨?_, fun p hp => ?_⟩
    · rw [List.length_map]; exact Nat.le_trans hc.1 (by decide)
    · obtain ⟨G', lg, ig, _, qr, _⟩ := r1.revealA
      have px := qr x v s1
      unfold isiT at hb
      simp only [Option.bind_eq_some_iff] at hb
      obtain ⟨nm, e1, e2⟩ := hb
      have ty := tyX_of ig px e1
      have r2 := r1.new (o := .tup (cs.map V.ty)) hp
      have hk : PySem.W.kitAny k.K (.type nm) (cs.map Value.type) = some b := by
        refine kitAny_of cs (fun z => ?_) (fun z => ?_) fun c hc' => ?_
        · subst z
          split at e2
          · assumption
          · split at e2 <;> cases e2
        · subst z
          split at e2
          · cases e2
          · split at e2
            · assumption
            · cases e2
        · have := List.all_eq_true.mp hc.2 c hc'
          simpa [e1] using this
      have px' : TyX k.K (upd H1 p (.tup (cs.map V.ty))) x (.type nm) := by
        have i2 : In G' (upd H1 p (.tup (cs.map V.ty))) := ig.ge (le_upd hp)
        exact tyX_of i2 px e1
      exact ⟨x, p, cs.map V.ty, .type nm, cs.map Value.type, b, rfl, upd_same, paired_ty cs, px', hk, w2 _ G1 _ l1 r2 (Rp.bl _)⟩
  · rw [if_neg hc] at w1; exact w1.elim
/-! ### repr -/
def shw (p : PyData) : List Nat := p.shown.cps.toList
def reprD : List D → Option D
  | [d] => match py d with
    | some p => if p.showable = true ∧ p.hasDict = false ∧ p.depth ≤ 60 ∧ p.shown.length ≤ 10000000 ∧ dicF p = true then some (.str (shw p)) else none
    | none => none
  | _ => none
theorem cs_repr : CaS k (rRepr k.K) reprD := fun G H xs ds d hi px hd Q q => by
  unfold reprD at hd
  split at hd
  · split at hd
    · rename_i p hp
      split at hd
      · rename_i hc
        cases hd
        obtain ⟨v, rfl, pv⟩ := rpa_one px
        refine ⟨v, p, rfl, (pv.z hp).dp hi hc.2.2.2.2, hc.1, hc.2.1, hc.2.2.1, Nat.le_trans hc.2.2.2.1 (by decide), ?_⟩
        have : p.shown = S (shw p) := (S_eta _).symm
        rw [this]
        exact q _ G H (Up.refl hi) (.str _)
      · cases hd
    · cases hd
  · cases hd
/-! ### methods of texts -/
def MtS (k : Kx) (r : V → List V → Hp → VK → Prop) (g : D → List D → Option D) : Prop := ∀ G H x xs a ds d, In G H → Rp k G x a → RpA k G xs ds → g a ds = some d → ∀ Q : VK, (∀ v G2 H2, Up G H G2 H2 → Rp k G2 v d → Q v H2) → r x xs H Q
def tyStr : D → Bool
  | .str _ => true
  | _ => false
def eMt (g : D → List D → Option D) (fo : Env → M Vl) (fa : Env → M (List Vl)) : Env → M Vl := fun env => (fo env).bind fun x => if tyStr x.2 && !isV x then (fa env).bind fun xs => (M.of (g x.2 (dats xs))).bind fun d => fin (xs.any isV) d else .bad
def eMt0 (g : D → List D → Option D) (fo : Env → M Vl) : Env → M Vl := fun env => (fo env).bind fun x => if tyStr x.2 && !isV x then (M.of (g x.2 [])).bind fun d => .ok (.s, d) else .bad
theorem tyV_str {x : V} {d : D} (h : tyStr d = true) (p : Rp k G x d) : tyV k.K "str" x H := by
  cases d <;> simp [tyStr] at h
  rw [rp_str p]
  first
    | exact .inr ⟨_, rfl⟩
    | exact rfl
    | (unfold tyV; simp)
theorem se_mt {E : XK} {to : TE} {fo : Env → M Vl} {tr : TA} {fr : Env → M (List Vl)} {r : V → List V → Hp → VK → Prop} {g : D → List D → Option D} (hm : MtS k r g) (ho : SE k E to fo) (hr : SA k E tr fr) : SE k E (tBM k.K "str" r to tr) (eMt g fo fr) := fun R dr env σ G H n Q rl w => by
  refine ho.run rl (wp_bind' w) (fun _ _ _ h => h) fun dr n1 v x G1 H1 w1 l1 r1 s1 => ?_
  by_cases hc : (tyStr v.2 && !isV v) = true
  · rw [if_pos hc] at w1
    simp only [Bool.and_eq_true, Bool.not_eq_true'] at hc
    have px := rs_s hc.2 s1
    refine ⟨tyV_str hc.1 px, ?_⟩
    refine hr R dr env σ G1 H1 n1 _ r1 (wp_mono (wp_bind' w1) (fun dr n2 vs w2 xs G2 H2 l2 r2 s2 => ?_) fun _ _ _ h => h.mono l1)
    obtain ⟨d, hd, w3⟩ := wp_of.mp (wp_bind' w2)
    refine op_end (P := r x xs H2 Q) r2 (wp_mono w3 (fun dr n' r q x G3 H3 l3 => q x G3 H3 ((l1.trans l2).trans l3)) (fun _ _ _ h => h)) fun G' l' i' _ q1 q2 fin => ?_
    exact hm G' H2 x xs _ _ d i' (px.mono (l2.trans l')) (q2 xs vs (fun z => z) s2) hd Q fin
  · rw [if_neg hc] at w1; exact w1.elim
theorem se_mt0 {E : XK} {to : TE} {fo : Env → M Vl} {r : V → List V → Hp → VK → Prop} {g : D → List D → Option D} (hm : MtS k r g) (ho : SE k E to fo) : SE k E (tBM0 k.K "str" r to) (eMt0 g fo) := fun R dr env σ G H n Q rl w => by
  refine ho.run rl (wp_bind' w) (fun _ _ _ h => h) fun dr n1 v x G1 H1 w1 l1 r1 s1 => ?_
  by_cases hc : (tyStr v.2 && !isV v) = true
  · rw [if_pos hc] at w1
    simp only [Bool.and_eq_true, Bool.not_eq_true'] at hc
    have px := rs_s hc.2 s1
    refine ⟨tyV_str hc.1 px, ?_⟩
    obtain ⟨d, hd, w3⟩ := wp_of.mp (wp_bind' w1)
    refine hm G1 H1 x [] _ [] d r1.i px .nil hd Q fun v G2 H2 u p => ?_
    obtain ⟨r2, l2⟩ := r1.up u
    exact w3 v _ H2 (l1.trans l2) r2 p.clean
  · rw [if_neg hc] at w1; exact w1.elim
def rUpper : V → List V → Hp → VK → Prop := fun x xs H Q => ∃ a, x = .str a ∧ xs = [] ∧ a.length ≤ 5592405 ∧ Q (.str (Txt.upper a)) H
def upperD : D → List D → Option D
  | .str w, [] => if w.length ≤ 1000000 then some (.str (Txt.upper (S w)).cps.toList) else none
  | _, _ => none
theorem ms_upper : MtS k rUpper upperD := fun G H x xs a ds d hi px ps hd Q q => by
  unfold upperD at hd
  split at hd
  · split at hd
    · rename_i hl
      cases hd
      rw [rp_str px, rpa_nil ps]
      refine ⟨_, rfl, rfl, by rw [S_len]; omega, ?_⟩
      rw [← S_eta (Txt.upper _)]
      exact q _ G H (Up.refl hi) (.str _)
    · cases hd
  · cases hd
def rCountS : V → List V → Hp → VK → Prop := fun x xs H Q => ∃ a b, x = .str a ∧ xs = [.str b] ∧ Q (.int (Txt.count a b)) H
def countD : D → List D → Option D
  | .str w, [.str z] => some (.int (Txt.count (S w) (S z)))
  | _, _ => none
theorem ms_count : MtS k rCountS countD := fun G H x xs a ds d hi px ps hd Q q => by
  unfold countD at hd
  split at hd
  · cases hd
    obtain ⟨y, rfl, p⟩ := rpa_one ps
    rw [rp_str px, rp_str p]
    exact ⟨_, _, rfl, rfl, q _ G H (Up.refl hi) (.int _)⟩
  · cases hd
/-! ### x(lambda: ..), x catches -/
def noOwns (env : Env) : Bool := env.all fun o => match o with
  | some (true, _) => false
  | _ => true
def eCaught (cat : List Str) (fb : Env → M Vl) : Env → M Vl := fun env => if noOwns env then (fb env).all (fun _ => .ok (.s, .non)) (fun x => if cat.contains x.C then .ok (.s, .exc x.C x.fs) else .bad) else .bad
theorem se_caught {E : XK} {cat : List Str} {CS : Addr} {t : XK → TE} {fb : Env → M Vl} (hc : ∀ C ∈ cat, PySem.W.exmOne k.K (.ref (k.ca C)) (.ref CS) = some true) (hb : ∀ E, SE k E (t E) fb) : SE k E (LamX.tLam k.T (TCaught k.K CS) t) (eCaught cat fb) := fun R dr env σ G H n Q rl w => by
  unfold eCaught at w
  by_cases ho : noOwns env = true
  · rw [if_pos ho] at w
    have nown : ∀ (i : Nat) d, env[i]? = some (some (true, d)) → False := fun i d h => by
      have := List.all_eq_true.mp ho _ (List.mem_of_getElem? h)
      simp at this
    refine ⟨rl.tb, fun H1 e1 t1 Q' hq' => ?_⟩
    have r1 := rl.keep e1 t1
    refine hb _ R dr env σ G H1 n Q' r1 (wp_mono (wp_all.mp w) (fun dr n v q x G2 H2 l r2 _ => hq' _ _ (q _ G2 H2 l r2 Rp.non)) fun dr n x q dd G2 H2 l r2 hd => ?_)
    by_cases hm : cat.contains x.C = true
    · rw [if_pos hm] at q
      refine ⟨true, hc _ (by simpa using hm), fun _ a ha => ?_, fun z => by cases z⟩
      have r3 := r1.back r2 l fun i d h => (nown i d h).elim
      have u := Up.new (o := ExV (.ref (k.ca x.C)) dd a) r3.i ha
      obtain ⟨r4, l4⟩ := r3.up u
      refine q _ _ _ (l.trans l4) r4 ?_
      have ga : clean (upd G2 a (ExV (.ref (k.ca x.C)) dd a)) a = some (ExV (.ref (k.ca x.C)) dd a) := clean_some upd_same (by intro ps z; unfold ExV at z; cases z)
      cases dd with
      | none =>
        have hd : x.fs = [] := hd
        rw [hd]
        exact Rp.exc ga
      | some b =>
        obtain ⟨h1, fv, h2, h3⟩ := hd
        exact Rp.excF ga (l4 _ _ h2) (h3.mono l4) h1
    · rw [if_neg hm] at q; exact q.elim
  · rw [if_neg ho] at w; exact w.elim
end
end Y

namespace Y
open PySem PySem.Spec PyProof.Rows L2 Z
/-! ### dicts walked -/
/-- behind e a dict that came of it is locked -/
def tLockP (te : TE) : TE := fun σ H Q => te σ H fun x H1 => (∃ d kvs, x = .ref d ∧ H1 d = some (.dK kvs) ∧ ∀ o, Q x (upd H1 d (.frz o (.dK kvs)))) ∨ Q x H1
theorem pe_lockP {X : Cx} {e : Expr} {te : TE} (he : PE X e te) : PE X e (tLockP te) := by
  refine ⟨fun pins s σ H Q I h => ?_⟩
  refine thn (he.run pins s σ H _ I h) fun u s1 ⟨x, H1, I1, rx, q⟩ => ?_
  rcases q with ⟨d, kvs, rfl, hd, q⟩ | q
  · obtain ⟨o, I2⟩ := I1.lock hd trivial
    exact ⟨_, _, I2, rx, q o⟩
  · exact ⟨x, H1, I1, rx, q⟩
/-- whatever may be walked -/
def iAnyD (K : PySem.W.Frag) (te : TE) : TI := fun σ H P => tLockP te σ H fun x H1 => (∃ a, x = .ref a ∧ (∃ xs, SqL K H1 a xs) ∧ P (Itl K a) H1) ∨ (∃ a, x = .ref a ∧ (∃ xs, SqT K H1 a xs) ∧ P (Itt K a) H1) ∨ (∃ z, x = .str z ∧ P (Its z) H1) ∨ ∃ d o kvs, x = .ref d ∧ H1 d = some (.frz o (.dK kvs)) ∧ P (Itk d o kvs) H1
theorem pi_anyD {X : Cx} {tg e : Expr} {te : TE} (he : PE X e te) : PI X tg e (iAnyD X.K te) := by
  refine ⟨fun pins s σ H R I h => ?_⟩
  refine thn ((pe_lockP he).run pins s σ H _ I h) fun v s1 ⟨x, H1, I1, r1, q1⟩ => ?_
  rcases q1 with ⟨a, e, ⟨xs, hq⟩, q⟩ | ⟨a, e, ⟨xs, hq⟩, q⟩ | ⟨z, e, q⟩ | ⟨d, o, kvs, e, hd, q⟩
  · subst e
    cases r1
    obtain ⟨its, rv, p, hz⟩ := I1.list hq
    exact wpAny_pyIter_list p.isList (pi_one (tk := s1.toks) I1 _ (turn_list a _) ⟨_, Heap.get?_push_size _ rfl, rfl, rfl⟩ q)
  · subst e
    cases r1
    obtain ⟨its, rv, p, hz⟩ := I1.tuple hq
    exact wpAny_pyIter_tuple (show s1.heap.IsTuple a its.toArray from p) (pi_one (tk := s1.toks) I1 _ (turn_tuple a _) ⟨_, Heap.get?_push_size _ rfl, rfl, rfl⟩ q)
  · subst e
    obtain ⟨t, rfl⟩ := r1
    cases ha : z.cps.all (· < 128)
    · exact wpAny_pyIter_wide ha (pi_one (tk := s1.toks) I1 _ (turn_str _ z t "str_iterator" (.inr rfl)) ⟨_, Heap.get?_push_size _ rfl, rfl, rfl⟩ q)
    · exact wpAny_pyIter_ascii ha (pi_one (tk := s1.toks) I1 _ (turn_str _ z t "str_ascii_iterator" (.inl rfl)) ⟨_, Heap.get?_push_size _ rfl, rfl, rfl⟩ q)
  · subst e
    obtain rfl : v = Value.ref d := r1
    obtain ⟨hs, hgd, hx, es, ep, vs, hdt, hsz, kv, hm⟩ := I1.frzK hd
    refine iter_keys hs hgd hx hdt (pi_one (tk := s1.toks) I1 _ (turn_keys _ hdt) ⟨_, Heap.get?_push_size _ rfl, rfl, ?_⟩ q)
    rw [hsz] <;> rfl
section
variable {k : Kx} {E : XK} {R : Hp} {dr : Dr} {env : Env} {σ : L2.St} {G G2 H H2 : Hp} {n n' : Nat} {te td : TE} {fe fd : Env → M Vl}
/-- a locked dict pinned -/
theorem Rl.pin {d : Addr} {kvs : List (Key × V)} {ob : Obj} (r : Rl k R dr env σ G H n) (hg : G d = some (.dK kvs)) (hh : H d = some (.frz ob (.dK kvs))) : Rl k (upd R d (.frz ob (.dK kvs))) dr env σ G H n ∧ Le R (upd R d (.frz ob (.dK kvs))) := by
  have nd : ¬ inDr dr d := fun z => by rw [r.dh d z] at hg; cases hg
  refine ⟨⟨r.i, r.nt, r.tb, r.dd, r.dh, r.dj, fun b u e => ?_, r.sh, fun i d' e => ?_, r.inj, r.len, r.nb⟩, fun b u e => ?_⟩
  · by_cases hb : b = d
    · subst hb; rw [upd_same] at e; cases e
      exact ⟨hh, fun z => (by cases z), nd, fun ps z => (by cases z)⟩
    · rw [upd_ne hb] at e; exact r.rs b u e
  · obtain ⟨b, e1, u, e2, e3, e4⟩ := r.ow i d' e
    have nb : b ≠ d := fun z => by rw [z] at e4; rw [e4.g] at hg; cases hg
    exact ⟨b, e1, u, e2, e3, e4.g, by rw [upd_ne nb]; exact e4.r, e4.d⟩
  · by_cases hb : b = d
    · subst hb
      have := (r.rs b u e).1
      rw [hh] at this; cases this
      exact upd_same
    · rw [upd_ne hb]; exact e
def keyOf : Ky → D
  | .inl i => .int i
  | .inr w => .str w
theorem rp_key (q : Ky) : Rp k G (kV (kk q)) (keyOf q) := by
  cases q with
  | inl i => exact .int i
  | inr w => exact .str w
theorem RpD.at : ∀ {kvs : List (Key × V)} {es : List (Ky × D)} {i : Nat} {q : Ky} {d : D}, RpD k G kvs es → es[i]? = some (q, d) → ∃ v, kvs[i]? = some (kk q, v) ∧ Rp k G v d
  | _, _, _, _, _, .nil, e => by simp at e
  | _, _, 0, _, _, .cons h _, e => by simp at e; obtain ⟨rfl, rfl⟩ := e; exact ⟨_, rfl, h⟩
  | _, _, i + 1, _, _, .cons _ a, e => by
    obtain ⟨v, h1, h2⟩ := RpD.at (i := i) a (by simpa using e)
    exact ⟨v, by simpa using h1, h2⟩
theorem wk_keys {d : Addr} {o : Obj} {kvs : List (Key × V)} {es : List (Ky × D)} (hR : R d = some (.frz o (.dK kvs))) (r : RpD k G kvs es) : Wk k R (Itk d o kvs) G (es.map fun e => keyOf e.1) := fun G' H' l i pin => by
  have e := pin d _ hR
  refine ⟨⟨e, by rw [r.len, List.length_map]; exact Nat.le_refl _⟩, fun j x hx => ?_⟩
  rw [List.getElem?_map] at hx
  cases hz : es[j]? with
  | none => rw [hz] at hx; cases hx
  | some p =>
    rw [hz] at hx; cases hx
    obtain ⟨q, d'⟩ := p
    obtain ⟨v, g1, g2⟩ := r.at hz
    have hj : j < kvs.length := (List.getElem?_eq_some_iff.mp g1).1
    refine ⟨⟨e, hj⟩, fun x H2 y => ?_⟩
    obtain ⟨rfl, k', v', e1, rfl⟩ := y
    rw [g1] at e1; cases e1
    exact ⟨G', Up.refl i, rp_key q⟩
def itA : D → Option (List D)
  | .dic es => some (es.map fun e => keyOf e.1)
  | d => itD d
def eItA (fe : Env → M Vl) : Env → M (List D) := fun env => (fe env).bind fun x => if isV x then .bad else M.of (itA x.2)
/-- a shown dict becomes a pinned one -/
theorem lock_at (r : Rl k R dr env σ G H n) {a : Addr} {kvs : List (Key × V)} (hg : G a = some (.dK kvs)) (P : VK) (h : ∀ o Rx H2, Le R Rx → Rx a = some (.frz o (.dK kvs)) → H2 a = some (.frz o (.dK kvs)) → Rl k Rx dr env σ G H2 n → P (.ref a) H2) : (∃ d kvs, V.ref a = .ref d ∧ H d = some (.dK kvs) ∧ ∀ o, P (.ref a) (upd H d (.frz o (.dK kvs)))) ∨ P (.ref a) H := by
  rcases r.i a _ hg with z | ⟨_, o, z⟩
  · refine .inl ⟨a, kvs, rfl, z, fun o => ?_⟩
    obtain ⟨r2, l2⟩ := r.lock (ob := o) hg z
    exact h o _ _ l2 upd_same upd_same r2
  · refine .inr ?_
    obtain ⟨r2, l2⟩ := r.pin hg z
    exact h o _ _ l2 upd_same z r2
theorem si_anyD (he : SE k E te fe) : SI k E (iAnyD k.K te) (eItA fe) := fun R dr env σ G H n P rl w => by
  refine he.run rl (wp_bind' w) (fun _ _ _ h => h) fun dr n1 v x G1 H1 w1 l1 r1 s1 => ?_
  cases hv : isV v with
  | true => rw [hv, if_pos rfl] at w1; exact w1.elim
  | false =>
    rw [hv, if_neg (by simp)] at w1
    have p := rs_s hv s1
    obtain ⟨ds, e, w2⟩ := wp_of.mp w1
    obtain ⟨m, d⟩ := v
    cases d <;> try (simp [itA, itD] at e; done)
    · simp only [itA, itD, Option.some.injEq] at e
      subst e
      exact .inr (.inr (.inr (.inl ⟨_, rp_str p, w2 _ R G1 H1 (Le.refl _) l1 r1 (wk_of rfl (pys_chars _) wk_str)⟩)))
    · simp only [itA, itD, Option.some.injEq] at e
      subst e
      obtain ⟨a, xs, rfl, h1, h2⟩ := rp_lst p
      exact .inr (.inl ⟨a, rfl, ⟨xs, .inl (.inl (r1.i.ex h1 rfl))⟩, w2 _ R G1 H1 (Le.refl _) l1 r1 (wk_lst h1 h2)⟩)
    · simp only [itA, itD, Option.some.injEq] at e
      subst e
      obtain ⟨a, xs, rfl, h1, h2⟩ := rp_tup p
      exact .inr (.inr (.inl ⟨a, rfl, ⟨xs, in_t r1.i h1⟩, w2 _ R G1 H1 (Le.refl _) l1 r1 (wk_tup h1 h2)⟩))
    · simp only [itA, Option.some.injEq] at e
      subst e
      obtain ⟨a, xs, rfl, h1, h2⟩ := rp_dic p
      exact lock_at r1 h1 (fun x H1 => (∃ a, x = .ref a ∧ (∃ xs, SqL k.K H1 a xs) ∧ P (Itl k.K a) H1) ∨ (∃ a, x = .ref a ∧ (∃ xs, SqT k.K H1 a xs) ∧ P (Itt k.K a) H1) ∨ (∃ z, x = .str z ∧ P (Its z) H1) ∨ ∃ d o kvs, x = .ref d ∧ H1 d = some (.frz o (.dK kvs)) ∧ P (Itk d o kvs) H1) fun o Rx H2 lx hR hH r2 => .inr (.inr (.inr ⟨a, o, xs, rfl, hH, w2 _ Rx G1 H2 lx l1 r2 (wk_keys hR h2)⟩))
/-! values(), items() -/
theorem wk_vals {d : Addr} {o : Obj} {kvs : List (Key × V)} {es : List (Ky × D)} (hR : R d = some (.frz o (.dK kvs))) (r : RpD k G kvs es) : Wk k R (Itd d o kvs) G (es.map (·.2)) := fun G' H' l i pin => by
  have e := pin d _ hR
  refine ⟨⟨e, by rw [r.len, List.length_map]; exact Nat.le_refl _⟩, fun j x hx => ?_⟩
  rw [List.getElem?_map] at hx
  cases hz : es[j]? with
  | none => rw [hz] at hx; cases hx
  | some p =>
    rw [hz] at hx; cases hx
    obtain ⟨q, d'⟩ := p
    obtain ⟨v, g1, g2⟩ := r.at hz
    have hj : j < kvs.length := (List.getElem?_eq_some_iff.mp g1).1
    refine ⟨⟨e, hj⟩, fun x H2 y => ?_⟩
    obtain ⟨rfl, k', e1⟩ := y
    rw [g1] at e1; cases e1
    exact ⟨G', Up.refl i, g2.mono l⟩
theorem wk_items {d : Addr} {o : Obj} {kvs : List (Key × V)} {es : List (Ky × D)} (hR : R d = some (.frz o (.dK kvs))) (r : RpD k G kvs es) : Wk k R (Iti d o kvs) G (es.map fun e => .tup [keyOf e.1, e.2]) := fun G' H' l i pin => by
  have e := pin d _ hR
  refine ⟨⟨e, by rw [r.len, List.length_map]; exact Nat.le_refl _⟩, fun j x hx => ?_⟩
  rw [List.getElem?_map] at hx
  cases hz : es[j]? with
  | none => rw [hz] at hx; cases hx
  | some p =>
    rw [hz] at hx; cases hx
    obtain ⟨q, d'⟩ := p
    obtain ⟨v, g1, g2⟩ := r.at hz
    have hj : j < kvs.length := (List.getElem?_eq_some_iff.mp g1).1
    refine ⟨⟨e, hj⟩, fun x H2 y => ?_⟩
    obtain ⟨T, k', v', e1, rfl, hT, rfl⟩ := y
    rw [g1] at e1; cases e1
    have u := Up.new (o := .tup [kV (kk q), v]) i hT
    exact ⟨_, u, .tup (.inl (.inl upd_same)) (.cons (rp_key q) (.cons (g2.mono (l.trans u.g)) .nil))⟩
def valsD : D → Option (List D)
  | .dic es => some (es.map (·.2))
  | _ => none
def itemsD : D → Option (List D)
  | .dic es => some (es.map fun e => .tup [keyOf e.1, e.2])
  | _ => none
def eItV (g : D → Option (List D)) (fe : Env → M Vl) : Env → M (List D) := fun env => (fe env).bind fun x => if isV x then .bad else M.of (g x.2)
theorem si_vals (he : SE k E te fe) : SI k E (iVals (tLockP te)) (eItV valsD fe) := fun R dr env σ G H n P rl w => by
  refine he.run rl (wp_bind' w) (fun _ _ _ h => h) fun dr n1 v x G1 H1 w1 l1 r1 s1 => ?_
  cases hv : isV v with
  | true => rw [hv, if_pos rfl] at w1; exact w1.elim
  | false =>
    rw [hv, if_neg (by simp)] at w1
    have p := rs_s hv s1
    obtain ⟨ds, e, w2⟩ := wp_of.mp w1
    obtain ⟨m, d⟩ := v
    cases d <;> try (simp [valsD] at e; done)
    simp only [valsD, Option.some.injEq] at e
    subst e
    obtain ⟨a, xs, rfl, h1, h2⟩ := rp_dic p
    exact lock_at r1 h1 (fun x H1 => ∃ d o kvs, x = .ref d ∧ H1 d = some (.frz o (.dK kvs)) ∧ P (Itd d o kvs) H1) fun o Rx H2 lx hR hH r2 => ⟨a, o, xs, rfl, hH, w2 _ Rx G1 H2 lx l1 r2 (wk_vals hR h2)⟩
theorem si_items (he : SE k E te fe) : SI k E (iItems (tLockP te)) (eItV itemsD fe) := fun R dr env σ G H n P rl w => by
  refine he.run rl (wp_bind' w) (fun _ _ _ h => h) fun dr n1 v x G1 H1 w1 l1 r1 s1 => ?_
  cases hv : isV v with
  | true => rw [hv, if_pos rfl] at w1; exact w1.elim
  | false =>
    rw [hv, if_neg (by simp)] at w1
    have p := rs_s hv s1
    obtain ⟨ds, e, w2⟩ := wp_of.mp w1
    obtain ⟨m, d⟩ := v
    cases d <;> try (simp [itemsD] at e; done)
    simp only [itemsD, Option.some.injEq] at e
    subst e
    obtain ⟨a, xs, rfl, h1, h2⟩ := rp_dic p
    exact lock_at r1 h1 (fun x H1 => ∃ d o kvs, x = .ref d ∧ H1 d = some (.frz o (.dK kvs)) ∧ P (Iti d o kvs) H1) fun o Rx H2 lx hR hH r2 => ⟨a, o, xs, rfl, hH, w2 _ Rx G1 H2 lx l1 r2 (wk_items hR h2)⟩
/-! ### list(d), {}, {k: v, ..} -/
def rListD' : List V → Hp → VK → Prop := fun xs H Q => ∃ (a : Addr) (kvs : List (Key × V)), xs = [.ref a] ∧ Rd H a (.dK kvs) ∧ ∀ p, H p = none → Q (.ref p) (upd H p (.lst (kvs.map fun kv => kV kv.1)))
def qListA (K : PySem.W.Frag) : List V → Hp → VK → Prop := fun xs H Q => qList K xs H Q ∨ rListD' xs H Q
theorem cr_listA {X : Cx} (hc : X.calm = true) : CallR X (.type "list") (qListA X.K) := CallR.or (cr_list hc) (call_listD hc)
def listA : List D → Option D
  | [.dic es] => some (.lst (es.map fun e => keyOf e.1))
  | ds => listD ds
theorem keys_rpa : ∀ {kvs : List (Key × V)} {es : List (Ky × D)}, RpD k G kvs es → RpA k G (kvs.map fun kv => kV kv.1) (es.map fun e => keyOf e.1)
  | _, _, .nil => .nil
  | _, _, .cons _ a => .cons (rp_key _) (keys_rpa a)
theorem co_listA : CaO k (qListA k.K) listA := fun G H xs ds d hi px hd Q q => by
  unfold listA at hd
  split at hd
  · cases hd
    obtain ⟨v, rfl, p⟩ := rpa_one px
    obtain ⟨a, vs, rfl, h1, h2⟩ := rp_dic p
    exact .inr ⟨a, vs, rfl, hi.rd h1, fun l hl => q l _ hl (.lst (keys_rpa h2))⟩
  · exact .inl (co_list G H xs ds d hi px hd Q q)
def eDNew : Env → M Vl := fun _ => .ok (.o, .dic [])
theorem se_dnew : SE k E tDNewK eDNew := fun R dr env σ G H n Q r w p hp => w _ G _ (Le.refl _) (r.new hp) ⟨p, rfl, (r.newO hp (.dic .nil)).1, (r.newO hp (.dic .nil)).2⟩
def ePairs : List ((Env → M Vl) × (Env → M Vl)) → Env → M (List (Ky × D))
  | [], _ => .ok []
  | (fk, fv) :: fs, env => (fk env).bind fun x => (M.of (keyD x.2)).bind fun q => (fv env).bind fun y => if isV y then .bad else (ePairs fs env).bind fun es => .ok ((q, y.2) :: es)
inductive SPs (k : Kx) (E : XK) : List (TE × TE) → List ((Env → M Vl) × (Env → M Vl)) → Prop
  | nil : SPs k E [] []
  | cons {tk tv : TE} {fk fv : Env → M Vl} {ts : List (TE × TE)} {fs : List ((Env → M Vl) × (Env → M Vl))} : SE k E tk fk → SE k E tv fv → SPs k E ts fs → SPs k E ((tk, tv) :: ts) ((fk, fv) :: fs)
def mrgD (es : List (Ky × D)) : List (Ky × D) := es.foldl (fun acc e => putD acc e.1 e.2) []
theorem pairs_run {ts : List (TE × TE)} {fs : List ((Env → M Vl) × (Env → M Vl))} (h : SPs k E ts fs) : ∀ {R : Hp} {dr : Dr} {env : Env} {σ : L2.St} {G H : Hp} {n : Nat} {Q : List (V × V) → Hp → Prop}, Rl k R dr env σ G H n →
    wp dr n (ePairs fs env) (fun dr n es => ∀ kvs G2 H2, Le G G2 → Rl k R dr env σ G2 H2 n → RpD k G2 kvs es → Q (kvs.map fun e => (kV e.1, e.2)) H2) (XP k R G E) → tPairs ts σ H Q := by
  induction h with
  | nil => intro R dr env σ G H n Q r w; exact w [] G H (Le.refl _) r .nil
  | cons hk hv _ ih =>
    intro R dr env σ G H n Q r w
    refine hk.run r (wp_bind' w) (fun _ _ _ h => h) fun dr n1 v x G1 H1 w1 l1 r1 s1 => ?_
    obtain ⟨q, hq, w1⟩ := wp_of.mp (wp_bind' w1)
    refine hv.run r1 (wp_bind' w1) (fun _ _ _ h => h.mono l1) fun dr n2 v2 y G2 H2 w2 l2 r2 s2 => ?_
    cases hv2 : isV v2 with
    | true => rw [hv2, if_pos rfl] at w2; exact w2.elim
    | false =>
      rw [hv2, if_neg (by simp)] at w2
      refine ih r2 (wp_mono (wp_bind' w2) (fun dr n3 es w3 kvs G3 H3 l3 r3 p3 => ?_) fun _ _ _ h => h.mono (l1.trans l2))
      rw [rs_key r1 hq s1]
      exact w3 ((kk q, y) :: kvs) G3 H3 ((l1.trans l2).trans l3) r3 (.cons ((rs_s hv2 s2).mono l3) p3)
def eDisp (fs : List ((Env → M Vl) × (Env → M Vl))) : Env → M Vl := fun env => (ePairs fs env).bind fun es => if es.length ≤ 15 then .ok (.o, .dic (mrgD es)) else .bad
theorem RpD.merge : ∀ {kvs : List (Key × V)} {es : List (Ky × D)}, RpD k G kvs es → ∀ {k0 : List (Key × V)} {e0 : List (Ky × D)}, RpD k G k0 e0 → RpD k G (kvs.foldl (fun acc kv => putK acc kv.1 kv.2) k0) (es.foldl (fun acc e => putD acc e.1 e.2) e0)
  | _, _, .nil, _, _, h => h
  | _, _, .cons p a, _, _, h => RpD.merge a (h.put p)
theorem se_disp {ts : List (TE × TE)} {fs : List ((Env → M Vl) × (Env → M Vl))} (h : SPs k E ts fs) : SE k E (tDisp ts) (eDisp fs) := fun R dr env σ G H n Q r w p hp => by
  obtain ⟨hid, ap⟩ := r.no hp
  have r1 : Rl k (upd R p (.dK [])) dr env σ G (upd H p (.dK [])) n := (r.new hp).res upd_same (by intro ps z; cases z) hid ap
  refine pairs_run h r1 (wp_mono (wp_bind' w) (fun dr n1 es w1 kvs G1 H1 l1 r2 pe => ?_) fun _ _ _ z => XP.sub (le_upd hid.r) z)
  obtain ⟨hp2, _, _, _⟩ := r2.rs p _ upd_same
  by_cases hl : es.length ≤ 15
  · rw [if_pos hl] at w1
    refine ⟨hp2, kvs, rfl, by rw [pe.len]; exact hl, ?_⟩
    have r3 := r2.rput (o' := .dK (mergeK [] kvs)) hid.r rfl (by intro ps z; cases z) (not_code (.inr ⟨_, rfl⟩))
    obtain ⟨r4, h4, hid4, ap4⟩ := r3.unres hid.r rfl
    exact w1 _ G1 _ l1 r4 ⟨p, rfl, ⟨_, h4, .dic (pe.merge .nil), hid4⟩, ap4⟩
  · rw [if_neg hl] at w1; exact w1.elim
end
end Y

namespace Z
open PySem PySem.Spec PyProof.Rows L2
/-! ### lambda at: text[at:], as a key -/
section
variable {prog : Program} {w : World} {A : Around} {E : Value → Shared → Prop} {s : Shared}
/-- a text's slice by its makings -/
theorem made_from {z : Str} {t u : Tok} {i : Int} {Q : Value → Shared → Prop} (hz : z.length ≤ sizeLine) (q1 : ∀ t', Q (.str (cutS z (some i) none) t') s) (q2 : Q (.str (cutS z (some i) none) s.toks) { s with toks := s.toks + 1 }) : (sliceMade z t (some (i, u)) none none).post Q s := by
  have e := sliceText_cut z (some i) none
  have hl : (PySem.StrLaws.sliceText z (some i) none).length ≤ sizeLine := by
    rw [e]; exact Nat.le_trans (cutS_length z _ _) hz
  rw [← e] at q1 q2
  unfold PySem.StrLaws.sliceText at q1 q2 hl
  show Made.post (if ((1 : Int) == 1 && (Builtin.Str.strSliceIndices (some i) none 1 z.length).length == z.length) = true then Made.val (.str z t)
    else Made.str ⟨((Builtin.Str.strSliceIndices (some i) none 1 z.length).filterMap (z.cps[·]?)).toArray⟩) Q s
  by_cases c : ((1 : Int) == 1 && (Builtin.Str.strSliceIndices (some i) none 1 z.length).length == z.length) = true
  · rw [if_pos c] at q1 ⊢
    exact q1 t
  · rw [if_neg c] at q2 hl ⊢
    exact ⟨hl, q2⟩
theorem lam_from {f c' cw : Addr} {q x y : Str} {params : Arguments} {scope : Scope} {clos : List (Str × Addr)} {pm ctv : Value} {z : Str} {t0 u0 : Tok} {i : Int} {p1 p2 p3 p4 : Pos}
    (hroom : A.depth < recursionLimit) (lim : s.heap.NoLimit) (ho : s.heap.get? f = some (PySem.W.kla_obj "<lambda>" q params (.Subscript (.Name x p1) (.Slice (some (.Name y p2)) none none p3) p4) scope clos pm c' ctv))
    (hcd : s.heap.CodeRec (.ref c') q) (hk : scope.kind = .function) (hco : scope.isCoroutine = false) (hgen : scope.isGenerator = false) (hcell : ∀ n ∈ scope.names, n.2 ≠ .cell) (hx : scope.names.lookup x = some .free) (hy : scope.names.lookup y = some .local)
    (hcl : clos.lookup x = some cw) (hcv : s.heap.IsCell cw (some (.str z t0))) (hz : z.length ≤ sizeLine)
    (hbind : bindArgs (PySem.W.kla_fn "<lambda>" q params (.Subscript (.Name x p1) (.Slice (some (.Name y p2)) none none p3) p4) scope clos pm (.ref c') ctv) ⟨[.int i u0], []⟩ = pure [(y, .int i u0)])
    (hdx : (x == ("__debug__" : Str)) = false) (hcx : (x == ("__classdict__" : Str)) = false) (hdy : (y == ("__debug__" : Str)) = false) :
    wpAny (model prog w) A (call (.ref f) [.int i u0]) (PySem.W.KeyPure (.str (cutS z (some i) none)) s) E s := by
  refine wpAny_call ?_
  refine PySem.W.kla_callFunE hroom ho rfl hco hgen rfl hcd ?_
  rw [hbind]
  refine wpAny_pure (wpAny_newFunctionEnv hcell (fun n hn => ?_) (fun h1 hns hsb => ⟨lim.fresh _ hsb, ?_⟩) hk)
  · rw [List.mem_singleton.mp hn]; exact hy
  have kp : ∀ b o, s.heap.get? b = some o → h1.get? b = some o := fun b o e => hsb.extBut b o (Nat.ne_of_lt (Heap.lt_size e)) (Heap.get?_push_of_some _ e)
  refine PySem.W.kla_codeExpr ?_
  refine wpAny_Subscript_str_slice ?_ ?_
  · refine wpAny_Name (wpAny_loadName_free (v := .str z t0) hk hx hcl ?_ ?_ hcx) hdx
    · obtain ⟨o, e, d⟩ := hcv
      exact ⟨o, kp _ _ e, d⟩
    · rw [evalPart_some]
      refine wpAny_Name (wpAny_loadName_local (v := .int i u0) hk hy hns ?_ ?_) hdy
      · simp
      · rw [evalPart_none]
        refine wpAny_pure ⟨z, t0, some (i, u0), none, rfl, rfl, rfl, made_from hz (fun t' => ?_) ?_⟩
        · exact ⟨_, _, rfl, fun b o e => Heap.get?_push_of_some _ (kp b o e), .str _ _⟩
        · exact ⟨_, _, rfl, fun b o e => Heap.get?_push_of_some _ (kp b o e), .str _ _⟩
  · intro o r
    rfl
end
end Z

namespace Z
open PySem PySem.Spec PyProof.Rows L2 PySem.W
/-! ### sorted(range(n), key=f) -/
def isI (v : Value) (x : Int) : Prop := ∃ t, v = .int x t
theorem each_of {acc : List Value} {n : Nat} (hl : acc.length = n) (h : ∀ (i : Nat) v, acc[i]? = some v → isI v (i : Int)) : EachIs isI acc ((List.range n).map fun (i : Nat) => (i : Int)) := by
  have go : ∀ (acc : List Value) (m : Nat), (∀ (i : Nat) v, acc[i]? = some v → isI v ((m + i : Nat) : Int)) → EachIs isI acc ((List.range acc.length).map fun (i : Nat) => ((m + i : Nat) : Int)) := by
    intro acc
    induction acc with
    | nil => intro m _; exact .nil
    | cons a r ih =>
      intro m h
      rw [List.length_cons, List.range_succ_eq_map, List.map_cons, List.map_map]
      refine .cons (h 0 a rfl) ?_
      have := ih (m + 1) fun i v e => by
        have := h (i + 1) v e
        have e2 : m + (i + 1) = m + 1 + i := by omega
        rw [e2] at this; exact this
      have e3 : ((fun (i : Nat) => ((m + i : Nat) : Int)) ∘ Nat.succ) = fun (i : Nat) => ((m + 1 + i : Nat) : Int) := by
        funext i
        have : m + Nat.succ i = m + 1 + i := by omega
        simp only [Function.comp, this]
      rw [e3]; exact this
  subst hl
  have := go acc 0 fun i v e => by rw [Nat.zero_add]; exact h i v e
  simpa using this
section
variable {prog : Program} {w : World} {A : Around} {E : Value → Shared → Prop} {s : Shared} {r : Addr} {t u v : Tok} {n : Nat}
theorem sorted_range_key {f : Addr} {Q : Value → Shared → Prop} (k : Int → PyData) (hh : A.handled = none) (hr : IsRange s.heap r 0 (n : Int) 1 t u v) (hn : n ≤ 1000000)
    (hal : AllAlike (((List.range n).map fun (i : Nat) => (i : Int)).map k)) (hk : Sortable (((List.range n).map fun (i : Nat) => (i : Int)).map k)) (hu : ∀ x, A.units + 2 + (k x).depth < cLine)
    (turn : ∀ (i : Int) (t : Tok), 0 ≤ i → i < n → ∀ (h : Heap) (tk : Nat), (∀ b o, s.heap.get? b = some o → h.get? b = some o) →
      wpAny (model prog w) A.in1.in1 (call (.ref f) [.int i t]) (KeyPure (k i) { s with heap := h, toks := tk }) (fun _ _ => False) { s with heap := h, toks := tk })
    (hq : ∀ (D : Addr) out c h' tk, (∀ b o, s.heap.get? b = some o → h'.get? b = some o) → s.heap.get? D = none → h'.get? D = some (seqObj "list" (List.toArray out) c) → EachIs isI out (((List.range n).map fun (i : Nat) => (i : Int)).mergeSort (dataLe false k)) →
      Q (.ref D) { s with heap := h', toks := tk }) :
    wpAny (model prog w) A (call (.builtin "sorted") [.ref r] [(Str.ofString "key", .ref f)]) Q E s := by
  refine call_function_entry_kw kind_sorted plain_sorted entry_sorted (ksk_s1 _ _) ?_
  unfold Builtin.«sorted»
  refine wpAny_bind (m := checkCount "sorted" 1 1 _) (wpAny_pure ?_)
  refine wpAny_bind (collect_range (A := A.in1) hh hr ?_ (n := n) ?_ (by omega) fun h1 tk1 acc kp hi => ?_)
  · exact small_one (by omega) (by omega) (by omega) (by omega)
  · have e := rangeSize_nat 0 (n : Int)
    rw [e]; omega
  have hacc : acc.toList.length = n := by rw [Array.length_toList]; exact hi.1
  refine wpAny_bind (wpAny_newList ?_ (by rw [hacc]; exact Nat.le_trans hn (by decide)))
  have hE : EachIs isI acc.toList ((List.range n).map fun (i : Nat) => (i : Int)) := each_of hacc fun i v e => by
    obtain ⟨t, rfl⟩ := hi.2 i v (by rw [← e, Array.getElem?_toList])
    exact ⟨t, by rw [Int.mul_one, Int.zero_add]⟩
  have hlen : ((List.range n).map fun (i : Nat) => (i : Int)).length = n := by simp
  have kp2 : ∀ b o, s.heap.get? b = some o → (h1.push { cls := .type "list", data := .seq acc.toList.toArray }).get? b = some o := fun b o e => Heap.get?_push_of_some _ (kp b o e)
  have nD : ∀ b o, s.heap.get? b = some o → b ≠ h1.objs.size := fun b o e => Nat.ne_of_lt (Heap.lt_size (kp b o e))
  have up : ∀ {g : Heap}, KeepsBut h1.objs.size (h1.push { cls := .type "list", data := .seq acc.toList.toArray }) g → ∀ b o, s.heap.get? b = some o → g.get? b = some o := fun {g} q b o e => q b o (nD b o e) (kp2 b o e)
  have hsz : s.heap.get? h1.objs.size = none := by
    cases q : s.heap.get? h1.objs.size with
    | none => rfl
    | some o => exact absurd (Heap.lt_size (kp _ _ q)) (Nat.lt_irrefl _)
  refine wpAny_bind (wpAny_holding (list_sort_key_data (A := A.in1) (R := isI) (vs := acc.toList) (bs := (List.range n).map fun (i : Nat) => (i : Int)) (b := false) (f := .ref f) (n := 0) k (Heap.get?_push_size _ rfl) hE hal hk (by rw [hlen]; exact Nat.le_trans hn (by decide)) (fun x _ => hu x) (ksk_l1 _ _) (ksk_t1 _ _) (fun v x hv hx h tk q => ?_) fun out c h2 tk2 q hD hl he => ?_))
  · obtain ⟨t, rfl⟩ := hv
    obtain ⟨i, hi1, rfl⟩ := List.mem_map.mp hx
    have := List.mem_range.mp hi1
    exact turn _ t (by omega) (by omega) h tk (up q)
  · exact wpAny_pure ⟨_, rfl, hq _ out c h2 tk2 (up q) hsz hD he⟩
end
/-! ### the rule: sorted(range(e), key=lambda y: x[y:]) -/
def sortFrom (z : Str) (n : Nat) : List Int := ((List.range n).map fun (i : Nat) => (i : Int)).mergeSort (dataLe false fun i => .str (cutS z (some i) none))
def tSortFrom (T : List (Addr × Str)) (j : Nat) (tn : TE) : TE := fun σ H Q => tn σ H fun x H1 => ∃ (n : Nat) (z : Str), x = .int (n : Int) ∧ σ[j]? = some (some (.str z)) ∧ n ≤ 1000000 ∧ z.length ≤ 1000000 ∧ LamX.Tabs T H1 ∧
  ∀ H2, LamX.ExtN H1 H2 → LamX.Tabs T H2 → ∀ p, H2 p = none → Q (.ref p) (upd H2 p (.lst ((sortFrom z n).map .int)))
theorem vals_each : ∀ {out : List Value} {ns : List Int}, EachIs isI out ns → Vals (ns.map V.int) out
  | _, _, .nil => .nil
  | _, _, .cons ⟨t, h⟩ a => .cons ⟨t, h⟩ (vals_each a)
theorem sortFrom_len (z : Str) (n : Nat) : (sortFrom z n).length = n := by
  unfold sortFrom
  rw [List.length_mergeSort]; simp
theorem pe_sortFrom {X : Cx} {T : List (Addr × Str)} {c P : Addr} {e : Expr} {tn : TE} {j : Nat} {x y : Str} {params : Arguments} {scope : Scope} {p p0 p1 p2 p3 p4 p5 p6 p7 kpos pos : Pos}
    (hg : Gl X "sorted") (hm : X.mg "sorted" = none) (hgr : Gl X "range") (hmr : X.mg "range" = none) (hc : X.calm = true) (hun : X.A.units + 10 < cLine) (hdp : X.A.depth < recursionLimit) (he : PE X e tn)
    (TB : LamX.TabB X.base X.mg c P) (hcode : X.env.code = .ref c) (hmT : (P, X.env.qual ++ "<lambda>") ∈ T) (hu : ∀ p ∈ T, p.1 = P → p.2 = X.env.qual ++ "<lambda>") (hdef : defaultsOf params X.env = ([], []))
    (hfr : ∀ n ∈ scope.names, n.2 = .free → X.env.scope.names.lookup n.1 = some .cell) (hN : X.N[j]? = some x) (hk : scope.kind = .function) (hco : scope.isCoroutine = false) (hgen : scope.isGenerator = false) (hcell : ∀ n ∈ scope.names, n.2 ≠ .cell)
    (hx : scope.names.lookup x = some .free) (hy : scope.names.lookup y = some .local) (hdx : (x == ("__debug__" : Str)) = false) (hcx : (x == ("__classdict__" : Str)) = false) (hdy : (y == ("__debug__" : Str)) = false)
    (hbind : ∀ (q : Str) (cl : List (Str × Addr)) (pm cv ctv : Value) (i : Int) (u0 : Tok), bindArgs (PySem.W.kla_fn "<lambda>" q params (.Subscript (.Name x p1) (.Slice (some (.Name y p2)) none none p3) p4) scope cl pm cv ctv) ⟨[.int i u0], []⟩ = pure [(y, .int i u0)])
    (na : starEach [.Call (.Name "range" p5) [e] [] p6] X.env = (false, eval (.Call (.Name "range" p5) [e] [] p6) X.env) :: starEach [] X.env := by rfl) (nb : starEach [e] X.env = (false, eval e X.env) :: starEach [] X.env := by rfl) :
    PE X (.Call (.Name "sorted" p) [.Call (.Name "range" p5) [e] [] p6] [⟨some "key", .Lambda params (.Subscript (.Name x p1) (.Slice (some (.Name y p2)) none none p3) p4) scope p7, kpos⟩] pos) (tSortFrom T j tn) := by
  refine ⟨fun pins s σ H Q I h => ?_⟩
  refine wpAny_Call_Name_kw (ld_blt (u := .builtin "sorted") I hg hm (by decide +kernel) ?_)
  refine PyProof.Rows.callWith_kw ?_ (by rfl) (by rfl) (by rfl) (by rfl)
  refine args_cons ?_ na
  refine Call_ (ld_blt (u := .type "range") I hgr hmr boot_range (PyProof.Rows.callWith_type1 (one_arg he I h (fun v s2 x2 H2 I2 r2 q2 => ?_) nb) nb))
  obtain ⟨n, z, rfl, hz, hn, hzl, hT, q⟩ := q2
  obtain ⟨t2, rfl⟩ := r2
  refine call_range_1 (args_nil ?_)
  -- the range is pinned while the lambda is made
  have I3 : L2.Inv X pins σ H2 { s2 with heap := s2.heap.push { cls := .type "range", data := .fields #[.int 0 s2.toks, .int (n : Int) t2, .int 1 (s2.toks + 1)] }, toks := s2.toks + 1 + 1 } := I2.kept fun b u e => Heap.get?_push_of_some _ e
  have I4 : L2.Inv X ((s2.heap.objs.size, { cls := .type "range", data := .fields #[.int 0 s2.toks, .int (n : Int) t2, .int 1 (s2.toks + 1)] }) :: pins) σ H2 { s2 with heap := s2.heap.push { cls := .type "range", data := .fields #[.int 0 s2.toks, .int (n : Int) t2, .int 1 (s2.toks + 1)] }, toks := s2.toks + 1 + 1 } := I3.pins_of fun p hp => by
    rcases List.mem_cons.mp hp with z | z
    · rw [z]
      exact ⟨Heap.get?_push_size _ rfl, I2.hok.fresh (Nat.le_refl _), Nat.ne_of_gt I2.lt, I2.nofs (Nat.le_refl _), fun v z => by cases z⟩
    · exact I3.pin p (List.mem_append_right _ z)
  have hfree : ∀ n ∈ scope.names, n.2 = .free → ∃ c, X.env.cells.lookup n.1 = some c := fun n hn e => I4.ok.has _ (.inl (hfr n hn e))
  show wpAny _ _ (evalAll ((do let v ← eval (.Lambda params (.Subscript (.Name x p1) (.Slice (some (.Name y p2)) none none p3) p4) scope p7) X.env; standAt pos; pure v) :: [])) _ _ _
  refine wpAny_evalAll_cons (wpAny_bind (LamX.lam_make2 I4 TB hcode hmT hu hT hdef hfree fun f c' pm ctv H5 s5 I5 eN T5 hf hfn hfs hcd => wpAny_bind (wpAny_standAt (wpAny_pure (wpAny_evalAll_nil ?_)))))
  show wpAny (model X.prog X.w) X.A (call (.builtin "sorted") [.ref s2.heap.objs.size] [(Str.ofString "key", .ref f)]) (EP X pins σ Q) X.xe s5
  have P5 := (I5.pin (s2.heap.objs.size, _) (List.mem_append_right _ List.mem_cons_self)).1
  obtain ⟨⟨oc, vs, tq, hoc, hdc, hvc⟩, _, _⟩ := I5.hok c' _ hcd
  -- the captured text
  obtain ⟨m5, hn5, hl5⟩ := I5.loc
  have hcx5 : X.env.scope.names.lookup x = some .cell := hfr (x, .free) (PySem.mem_of_lookup hx) rfl
  obtain ⟨uz, rz, lz⟩ := hl5 j x (.str z) hN hz (.inr (.inl hcx5))
  obtain ⟨t0, rfl⟩ := rz
  obtain ⟨cw, hcw, hcv⟩ : ∃ cw, X.env.cells.lookup x = some cw ∧ s5.heap.IsCell cw (some (.str z t0)) := by
    rcases lz with ⟨k1, _⟩ | ⟨_, cw, e1, e2⟩
    · have k1 : X.env.scope.names.lookup x = some .local := k1
      rw [hcx5] at k1; cases k1
    · exact ⟨cw, e1, e2⟩
  have hclo : (cloFrom X.env.cells scope.names []).lookup x = some cw := by
    obtain ⟨c2, h2⟩ := mem_lookup (cloFrom_has (cells := X.env.cells) (acc := []) (PySem.mem_of_lookup hx))
    rcases cloFrom_mem (PySem.mem_of_lookup h2) with hm' | ⟨h1, h3⟩
    · cases hm'
    · have h3 : c2 = _ := h3
      have hcw : X.env.cells.lookup x = some cw := hcw
      rw [h2, h3, hcw]; rfl
  refine sorted_range_key (n := n) (fun i => .str (cutS z (some i) none)) (I5.ok.hd hc) P5 hn (fun d hd d' hd' => ?_) (.inr fun d hd => ?_) (fun x => by show X.A.units + 2 + 0 < cLine; omega) (fun i t i0 i1 hh tk kp => ?_) fun D out c2 h2 tk kp hno hD hE => ?_
  · obtain ⟨i, _, rfl⟩ := List.mem_map.mp hd
    obtain ⟨i', _, rfl⟩ := List.mem_map.mp hd'
    rfl
  · obtain ⟨i, _, rfl⟩ := List.mem_map.mp hd
    exact ⟨(fun z => nomatch z), (fun _ z => nomatch z)⟩
  · refine lam_from (t0 := t0) (A := X.A.in1.in1) (s := { s5 with heap := hh, toks := tk }) hdp (I5.nolimit.keeps kp) (kp _ _ hf) ⟨c', oc, vs, tq, rfl, kp _ _ hoc, hdc, hvc⟩ hk hco hgen hcell hx hy hclo ?_ (Nat.le_trans hzl (by decide)) (hbind _ _ _ _ _ _ _) hdx hcx hdy
    obtain ⟨o, e1, e2⟩ := hcv
    exact ⟨o, kp _ _ e1, e2⟩
  · have J5 : L2.Inv X pins σ H5 s5 := I5.pins_of fun p hp => I5.pin p (List.mem_append_right _ (List.mem_cons_of_mem _ hp))
    have hD0 : H5 D = none := I5.hok.gone hno
    have new : ObjOk X.prog X.w (upd H5 D (.lst ((sortFrom z n).map .int))) h2 D (.lst ((sortFrom z n).map .int)) := ⟨by rw [List.length_map, sortFrom_len]; exact Nat.le_trans hn (by decide), out, c2, vals_each hE, hD⟩
    exact ⟨.ref D, upd H5 D (.lst ((sortFrom z n).map .int)), J5.laidN kp hno hD0 new, rfl, q H5 eN T5 D hD0⟩
end Z

namespace Z
open PySem PySem.Spec PyProof.Rows L2
section
variable {P : Program} {w : World} {K : PySem.W.Frag} {mg : Str → Option Value} {base : Heap} {x qual : Str} {params : Arguments} {body : List Stmt} {scope : Scope} {dvs : List V} {kws : List (Str × V)} {f : Addr} {fd : FuncData} {C : CXT} {N ps : List Str} {k : Nat} {sp : Sp}
/-- a def's rule with its code told -/
theorem okC (F : FunD K x qual params body scope dvs kws f fd) (S : FnScope N ps scope) (len : ∀ vs H Q E, sp vs H Q E → vs.length = ps.length)
    (hb : ∀ (cdv : Value) (A : Around) (outer : List Env) (s : Shared) (H : Hp) (vs : List V) (Q : VK) (E : XK), fd.code = cdv → Room k (A.deeper (envOfC qual scope s.heap.objs.size f cdv)) → sp vs H Q E →
      ∃ t, PSs (cxOf C P w K mg base N qual scope f cdv A outer s H E) body t ∧ t { nx := fun _ H' => Q .non H', rt := Q } (start N vs) H) : FnOk P w K mg base C (k + 1) f fd ps sp := by
  obtain ⟨oc, od, dV, kV, doc, pm, an, cdv, ct, osl, rfl, lk, hcd, _, _⟩ := F.ex
  exact fn_of lk hcd S len fun A outer s H vs Q E hr h => hb cdv A outer s H vs Q E rfl hr h
end
end Z

namespace Z
open PySem PySem.Spec PyProof.Rows L2
/-! ### a dict of the module, texts to texts -/
def rKd (K : PySem.W.Frag) (d : Addr) : R2 := fun x y H Q => ∃ (z : Str) (u0 : Value) (v0 : V), x = .ref d ∧ y = .str z ∧ PySem.W.nsIn K d z = some (some u0) ∧ RelV v0 u0 ∧ Q v0 H
/-- what stands in it -/
def KTab (K : PySem.W.Frag) (d : Addr) (kvs : List (Str × Str)) : Prop := ∀ p ∈ kvs, ∃ u, PySem.W.nsIn K d p.1 = some (some u) ∧ RelV (.str p.2) u
section
variable {K : PySem.W.Frag} {σ : L2.St} {G : Hp} {te : TE} {d : Addr}
theorem ev_kd {kvs : List (Str × Str)} {x y : Str} (t : KTab K d kvs) (hm : (x, y) ∈ kvs) (h : Ev K te σ G (.str x)) : Ev K (tOp (rKd K d) (tC (.ref d)) te) σ G (.str y) := fun G1 H1 l i Q q => h G1 H1 l i _ fun v G2 H2 u2 r2 => by
  obtain ⟨u, e1, e2⟩ := t _ hm
  exact ⟨x, u, .str y, rfl, rp_str r2, e1, e2, q _ G2 H2 u2 (.str _)⟩
end
theorem op_kd {X : Cx} {d : Addr} {es : Array DictEntry} {n : Nat} (D : KDict X.K X.w d es n) : OpR X getItem (rKd X.K d) := op_item_kd D
end Z

namespace Y
open PySem PySem.Spec PyProof.Rows L2 Z
theorem pe_or {X : Cx} {e : Expr} {t u : TE} (h1 : PE X e t) (h2 : PE X e u) : PE X e (fun σ H Q => t σ H Q ∨ u σ H Q) := ⟨fun pins s σ H Q I h => h.elim (h1.run pins s σ H Q I) (h2.run pins s σ H Q I)⟩
/-! ### in, [] of sequences and dicts -/
def rDIn : R2 := fun y x H Q => ∃ a o, x = .ref a ∧ DGet H a y o ∧ Q (.bl o.isSome) H
def rDNotIn : R2 := fun y x H Q => ∃ a o, x = .ref a ∧ DGet H a y o ∧ Q (.bl (!o.isSome)) H
def rDGet : R2 := fun x y H Q => ∃ a v, x = .ref a ∧ DGet H a y (some v) ∧ Q v H
section
variable {X : Cx}
theorem op_din (hu : X.A.units + 1 < cLine) : OpR X (compareOp .In) rDIn := fun pins s σ H y x u v Q I ry rx h => by
  obtain ⟨a, o, rfl, g, q⟩ := h
  obtain rfl : v = Value.ref a := rx
  exact d_in hu I g ry fun s3 I3 => ⟨.bl o.isSome, H, I3, rfl, q⟩
theorem op_dnotin (hu : X.A.units + 1 < cLine) : OpR X (compareOp .NotIn) rDNotIn := fun pins s σ H y x u v Q I ry rx h => by
  obtain ⟨a, o, rfl, g, q⟩ := h
  obtain rfl : v = Value.ref a := rx
  exact d_notIn hu I g ry fun s3 I3 => ⟨.bl (!o.isSome), H, I3, rfl, q⟩
theorem ix_dict (hu : X.A.units + 1 < cLine) : IxR X rDGet := by
  intro value slice pins s σ H x y v u Q I rx ry h hs
  obtain ⟨a, z, rfl, g, q⟩ := h
  obtain rfl : v = Value.ref a := rx
  have hT : s.TypeIs (.ref a) "dict" := dict_typeIs I g
  unfold subscriptTail
  refine wpAny_bind ?_
  rw [getitemInPython_of_ne hT.not_modules]
  refine wpAny_bind (wpAny_specialOf hT PySem.F.slot_dict_getitem.lookup ?_)
  have h2 : wpAny (model X.prog X.w) X.A (getItem (.ref a) u) (EP X pins σ Q) X.xe s := d_getItem hu I g ry fun w' s3 I3 rw' => ⟨z, H, I3, rw', q⟩
  have fin : wpAny (model X.prog X.w) X.A (subscripted slice false (.ref a) u) (fun r s₃ => wpAny (model X.prog X.w) X.A (letTemporaryGo value (.ref a) r >>= fun _ => pure r) (EP X pins σ Q) X.xe s₃) X.xe s := by
    rw [hs]
    exact wpAny_operating (wpAny_mono h2 (fun r s₃ h₃ => wpAny_bind (wpAny_letTemporaryGo (wpAny_pure h₃))) fun _ _ x => x)
  first
    | exact wpAny_pure (wpAny_bind fin)
    | exact wpAny_bind (wpAny_pure (wpAny_bind fin))
    | exact wpAny_bind fin
def qInA (K : PySem.W.Frag) : R2 := fun x y H Q => qIn K x y H Q ∨ rDIn x y H Q
def qNotInA (K : PySem.W.Frag) : R2 := fun x y H Q => qNotIn K x y H Q ∨ rDNotIn x y H Q
def qIxA (K : PySem.W.Frag) : R2 := fun x y H Q => rIx K x y H Q ∨ rDGet x y H Q
theorem or_inA (hu : X.A.units + 100 < cLine) : OpR X (compareOp .In) (qInA X.K) := or_in.or (op_din (by omega))
theorem or_notinA (hu : X.A.units + 100 < cLine) : OpR X (compareOp .NotIn) (qNotInA X.K) := or_notin.or (op_dnotin (by omega))
theorem ix_any (hu : X.A.units + 100 < cLine) : IxR X (qIxA X.K) := ix_seq.or (ix_dict (by omega))
end
section
variable {k : Kx} {E : XK} {R : Hp} {dr : Dr} {env : Env} {σ : L2.St} {G H : Hp} {n : Nat}
/-- .. a new object may lie between -/
theorem sets_run2 {is : List Nat} {ta : TA} {fa : Env → M (List Vl)} {D : Ends} {Q : List V → Hp → Prop} (ha : SAo k E ta fa) (rl : Rl k R dr env σ G H n) (w : wp dr n (bSets is fa env) (OP k R G D) (XP k R G E)) (hq : ∀ vs H1, vs.length = is.length → (∀ p o, H1 p = none → D.nx (setsV σ is vs) (upd H1 p o)) → Q vs H1) : ta σ H Q := by
  refine ha R dr env σ G H n _ rl (wp_mono (wp_bind' w) (fun dr n1 vs w1 xs G1 H1 l1 r1 rs => ?_) fun _ _ _ h => h)
  obtain ⟨e, h1, w2⟩ := wp_of.mp (wp_bind' w1)
  obtain ⟨h2, r2⟩ := sets_ok is xs vs r1 h1 ⟨R, env, σ, rs, fun a f1 f2 => ⟨f1, f2⟩⟩
  have hl : ∀ (is : List Nat) (rs : List Vl) (env : Env), setsE env is rs = some e → rs.length = is.length := by
    intro is
    induction is with
    | nil => intro rs env h; cases rs with | nil => rfl | cons _ _ => cases h
    | cons i is ih =>
      intro rs env h
      cases rs with
      | nil => cases h
      | cons v rs =>
        obtain ⟨m, d⟩ := v
        cases m with
        | s => simp [ih rs _ h]
        | o => simp [ih rs _ h]
        | v j => cases h
  exact hq _ _ (h2.trans (hl _ _ _ h1)) fun p o hp => w2 _ G1 _ l1 (r2.new hp)
end
def inA : D → D → Option Bool
  | x, .dic es => (keyD x).map fun q => (getD es q).isSome
  | x, y => inD x y
def inAB (a b : D) : Option D := (inA a b).map .bl
def notInAB (a b : D) : Option D := (inA a b).map fun r => .bl (!r)
section
variable {k : Kx} {E : XK} {G H : Hp}
theorem os_inA : OpS k (qInA k.K) inAB := fun G H x y a b d hi px py hd Q q => by
  unfold inAB at hd
  simp only [Option.map_eq_some_iff] at hd
  obtain ⟨r, hr, rfl⟩ := hd
  cases b <;> first
    | exact .inl (os_in G H x y a _ _ hi px py (by unfold inB; rw [show inD a _ = some r from hr]; rfl) Q q)
    | skip
  rename_i es
  simp only [inA, Option.map_eq_some_iff] at hr
  obtain ⟨q0, e1, rfl⟩ := hr
  obtain ⟨p, kvs, rfl, h1, h2⟩ := rp_dic py
  refine .inr ⟨p, valV kvs (kk q0), rfl, .inl ⟨kvs, kk q0, hi.rd h1, key_kV e1 px, rfl⟩, ?_⟩
  rw [h2.isSome]
  exact q _ G H (Up.refl hi) (.bl _)
theorem os_notinA : OpS k (qNotInA k.K) notInAB := fun G H x y a b d hi px py hd Q q => by
  unfold notInAB at hd
  simp only [Option.map_eq_some_iff] at hd
  obtain ⟨r, hr, rfl⟩ := hd
  cases b <;> first
    | exact .inl (os_notin G H x y a _ _ hi px py (by unfold notInB; rw [show inD a _ = some r from hr]; rfl) Q q)
    | skip
  rename_i es
  simp only [inA, Option.map_eq_some_iff] at hr
  obtain ⟨q0, e1, rfl⟩ := hr
  obtain ⟨p, kvs, rfl, h1, h2⟩ := rp_dic py
  refine .inr ⟨p, valV kvs (kk q0), rfl, .inl ⟨kvs, kk q0, hi.rd h1, key_kV e1 px, rfl⟩, ?_⟩
  rw [h2.isSome]
  exact q _ G H (Up.refl hi) (.bl _)
theorem ix_core {R : Hp} {dr : Dr} {env : Env} {σ : L2.St} {n : Nat} {x y : V} {v v2 : Vl} {d : D} {Q : VK} (r2 : Rl k R dr env σ G H n) (s1 : RS k env σ G x v) (s2 : RS k env σ G y v2) (hd : ixD v.2 v2.2 = some d) (fin : ∀ v' G3 H3, Up G H G3 H3 → Rp k G3 v' d → Q v' H3) : rIx k.K x y H Q := by
  unfold ixD at hd
  split at hd
  · rename_i ds i e1 e2
    obtain ⟨a, vs, rfl, h1, h2⟩ := lst_view r2 e1 s1
    obtain ⟨v', g1, g2⟩ := h2.at hd
    exact .inl ⟨a, vs, i, v', rfl, rs_int r2 e2 s2, h1, g1, fin v' G H (Up.refl r2.i) g2⟩
  · rename_i ds i e1 e2
    obtain ⟨m, dd⟩ := v
    have e1 : dd = .tup ds := e1
    subst e1
    have key : Rp k G x (.tup ds) → rIx k.K x y H Q := fun p => by
      obtain ⟨a, vs, rfl, h1, h2⟩ := rp_tup p
      obtain ⟨v', g1, g2⟩ := h2.at hd
      exact .inr (.inl ⟨a, vs, i, v', rfl, rs_int r2 e2 s2, in_t r2.i h1, g1, fin v' G H (Up.refl r2.i) g2⟩)
    cases m with
    | s => exact key s1
    | o => exact key s1
    | v j =>
      obtain ⟨h1, h2⟩ := s1
      obtain ⟨a, f1, o, f2, f3, f4⟩ := r2.ow j _ h2
      cases f3
  · rename_i w' i e1 e2
    split at hd
    · rename_i hl
      simp only [Option.map_eq_some_iff] at hd
      obtain ⟨c, hc, rfl⟩ := hd
      obtain ⟨m, dd⟩ := v
      have e1 : dd = .str w' := e1
      subst e1
      have key : Rp k G x (.str w') → rIx k.K x y H Q := fun p =>
        opv_ixS (K := k.K) hl hc G H x y r2.i (by rw [rp_str p]; exact .str _) (by rw [rs_int r2 e2 s2]; exact .int _) Q fun v' G3 H3 u3 p3 => fin v' G3 H3 u3 (of_z (.str [c]) (by simp [py]) p3)
      cases m with
      | s => exact key s1
      | o => exact key s1
      | v j =>
        obtain ⟨h1, h2⟩ := s1
        obtain ⟨a, f1, o, f2, f3, f4⟩ := r2.ow j _ h2
        cases f3
    · cases hd
  · cases hd
def ixA : D → D → Option D
  | .dic es, x => (keyD x).bind fun q => getD es q
  | x, y => ixD x y
def eIxA (fa fb : Env → M Vl) : Env → M Vl := fun env => (fa env).bind fun x => (fb env).bind fun y => (M.of (ixA x.2 y.2)).bind fun d => .ok (.s, d)
theorem se_ixA {ta tb : TE} {fa fb : Env → M Vl} (ha : SE k E ta fa) (hb : SE k E tb fb) : SE k E (tOp (qIxA k.K) ta tb) (eIxA fa fb) := fun R dr env σ G H n Q rl w => by
  refine ha.run rl (wp_bind' w) (fun _ _ _ h => h) fun dr n1 v x G1 H1 w1 l1 r1 s1 => ?_
  refine hb.run r1 (wp_bind' w1) (fun _ _ _ h => h.mono l1) fun dr n2 v2 y G2 H2 w2 l2 r2 s2 => ?_
  obtain ⟨d, hd, w3⟩ := wp_of.mp (wp_bind' w2)
  by_cases hdic : ∃ es, v.2 = .dic es
  · obtain ⟨es, e1⟩ := hdic
    have hd' : (keyD v2.2).bind (fun q => getD es q) = some d := by rw [e1] at hd; exact hd
    simp only [Option.bind_eq_some_iff] at hd'
    obtain ⟨q, e2, e3⟩ := hd'
    obtain ⟨a, vs, rfl, h1, h2⟩ := dic_view r2 e1 (s1.mono l2)
    rcases h2.val (q := q) with ⟨_, z⟩ | ⟨v', d', z1, z2, z3⟩
    · rw [e3] at z; cases z
    · rw [e3] at z2; cases z2
      exact .inr ⟨a, v', rfl, .inl ⟨vs, kk q, h1, rs_key r2 e2 s2, z1.symm⟩, w3 v' G2 H2 (l1.trans l2) r2 z3⟩
  · have hd' : ixD v.2 v2.2 = some d := by
      cases hv : v.2 <;> rw [hv] at hd <;> first
        | exact hd
        | exact absurd ⟨_, hv⟩ hdic
    exact .inl (ix_core r2 (s1.mono l2) s2 hd' fun v' G3 H3 u p => by
      obtain ⟨r3, l3⟩ := r2.up u
      exact w3 v' _ H3 ((l1.trans l2).trans l3) r3 p.clean)
/-! ### a constant dict of the module -/
def lookW (tab : List (List Nat × List Nat)) (w : List Nat) : Option (List Nat) := (tab.find? fun p => decide (p.1 = w)).map (·.2)
def kdD (tab : List (List Nat × List Nat)) : D → Option D
  | .str w => (lookW tab w).map .str
  | _ => none
def eKd (tab : List (List Nat × List Nat)) (fe : Env → M Vl) : Env → M Vl := eUn (kdD tab) fe
theorem se_kd {te : TE} {fe : Env → M Vl} {d : Addr} {tab : List (List Nat × List Nat)} (ht : KTab k.K d (tab.map fun p => (S p.1, S p.2))) (he : SE k E te fe) : SE k E (tOp (rKd k.K d) (tC (.ref d)) te) (eKd tab fe) := by
  have h : SE k E (tUn (fun y H Q => rKd k.K d (.ref d) y H Q) te) (eKd tab fe) := se_un (fun G H x a e hi px hd Q q => ?_) he
  · exact h
  · unfold kdD at hd
    split at hd
    · simp only [Option.map_eq_some_iff] at hd
      obtain ⟨z, h1, rfl⟩ := hd
      unfold lookW at h1
      simp only [Option.map_eq_some_iff] at h1
      obtain ⟨p, hp, rfl⟩ := h1
      have hm := List.mem_of_find?_eq_some hp
      have he := List.find?_some hp
      simp only [decide_eq_true_eq] at he
      obtain ⟨u, e1, e2⟩ := ht (S p.1, S p.2) (List.mem_map.mpr ⟨p, hm, rfl⟩)
      rw [rp_str px]
      refine ⟨S p.1, u, .str (S p.2), rfl, by rw [he], e1, e2, q _ G H (Up.refl hi) (.str _)⟩
    · cases hd
/-! ### enumerate(list) -/
def enumL (ds : List D) : List D := ds.zipIdx.map fun p => .tup [.int (p.2 : Int), p.1]
def enumA : List D → Option (List D)
  | [.lst ds] => some (enumL ds)
  | _ => none
theorem enumL_get {ds : List D} {i : Nat} {d : D} (h : (enumL ds)[i]? = some d) : ∃ e, ds[i]? = some e ∧ d = .tup [.int (i : Int), e] := by
  unfold enumL at h
  rw [List.getElem?_map, List.getElem?_zipIdx] at h
  cases q : ds[i]? with
  | none => rw [q] at h; cases h
  | some e =>
    rw [q] at h
    refine ⟨e, rfl, ?_⟩
    simpa using h.symm
theorem si_enum {tr : TA} {fr : Env → M (List Vl)} (hr : SA k E tr fr) : SI k E (iEnum k.K tr) (eRng enumA fr) := fun R dr env σ G H n P rl w => by
  refine hr R dr env σ G H n _ rl (wp_mono (wp_bind' w) (fun dr n1 vs w1 xs G1 H1 l1 r1 s1 => ?_) fun _ _ _ h => h)
  cases hv : vs.any isV with
  | true => rw [hv, if_pos rfl] at w1; exact w1.elim
  | false =>
    rw [hv, if_neg (by simp)] at w1
    have p : RpA k G1 xs (dats vs) := rss_s hv s1
    obtain ⟨ds, e, w2⟩ := wp_of.mp w1
    unfold enumA at e
    split at e
    · rename_i es heq
      cases e
      rw [heq] at p
      obtain ⟨x, rfl, px⟩ := rpa_one p
      obtain ⟨a, ys, rfl, h1, h2⟩ := rp_lst px
      refine ⟨a, ys, rfl, .inl (.inl (r1.i.ex h1 rfl)), w2 _ R G1 H1 (Le.refl _) l1 r1 fun G' H' l' i' _ => ?_⟩
      have e : SqL k.K H' a ys := .inl (.inl (i'.ex (l' _ _ h1) rfl))
      have W := walk_enum (K := k.K) (a := a) (xs := ys)
      refine ⟨by have := W.stops H' e; rw [h2.len] at this; simpa [enumL] using this, fun j d hd => ?_⟩
      obtain ⟨f, hf, rfl⟩ := enumL_get hd
      obtain ⟨v, g1, g2⟩ := h2.get hf
      have hj : j < ys.length := (List.getElem?_eq_some_iff.mp g1).1
      refine ⟨W.goes j H' hj e, fun x H2 y => ?_⟩
      obtain ⟨T, x1, x2, rfl, hT, rfl, e1, e2⟩ := W.yields j H' x H2 hj e y
      cases e1
      have e2 : ys[j]? = some x2 := e2
      rw [g1] at e2
      cases e2
      have u3 := Up.new (o := .tup [V.int (j : Int), v]) i' hT
      exact ⟨_, u3, .tup (.inl (.inl upd_same)) (.cons (.int _) (.cons (g2.mono (l'.trans u3.g)) .nil))⟩
    · cases e
/-! ### a, b = x, y where one of them is a cell -/
theorem ss_parT {i j : Nat} {ta : TA} {fa : Env → M (List Vl)} (ha : SAo k E ta fa) : SS k E (tAsg (tTup ta) (gTL k.K 2 (gCons (gName i) (gCons (gName j) gNil)))) (bSets [i, j] fa) := fun R dr env σ G H n D rl w =>
  sets_run2 ha rl w fun vs H1 hl q => match vs, hl, q with
    | [v, w], _, q => ⟨by show 2 ≤ sizeLine; decide, fun p hp => .inl ⟨p, _, rfl, .inl (.inl upd_same), rfl, _, _, rfl, _, _, rfl, rfl, q p _ hp⟩⟩
theorem ss_parT3 {i j l : Nat} {ta : TA} {fa : Env → M (List Vl)} (ha : SAo k E ta fa) : SS k E (tAsg (tTup ta) (gTL k.K 3 (gCons (gName i) (gCons (gName j) (gCons (gName l) gNil))))) (bSets [i, j, l] fa) := fun R dr env σ G H n D rl w =>
  sets_run2 ha rl w fun vs H1 hl q => match vs, hl, q with
    | [v, w, u], _, q => ⟨by show 3 ≤ sizeLine; decide, fun p hp => .inl ⟨p, _, rfl, .inl (.inl upd_same), rfl, _, _, rfl, _, _, rfl, _, _, rfl, rfl, q p _ hp⟩⟩
end
end Y

namespace Y
open PySem PySem.Spec PyProof.Rows L2 Z
/-! ### dict(zip(text, text)) of written texts -/
def zipK : List Nat → List Nat → List (Key × V)
  | a :: as, b :: bs => (.inr (S [a]), .str (S [b])) :: zipK as bs
  | _, _ => []
def zipE : List Nat → List Nat → List (Ky × D)
  | a :: as, b :: bs => (.inr [a], .str [b]) :: zipE as bs
  | _, _ => []
def tDictZip (a b : Str) : TE := fun _ H Q => ∀ p, H p = none → Q (.ref p) (upd H p (.dK (mergeK [] (zipK a.cps.toList b.cps.toList))))
def eDictZip (a b : List Nat) : Env → M Vl := fun _ => .ok (.o, .dic (mrgD (zipE a b)))
section
variable {k : Kx} {E : XK} {G : Hp}
theorem zip_rp : ∀ a b : List Nat, RpD k G (zipK a b) (zipE a b)
  | a :: as, b :: bs => .cons (q := .inr [a]) (.str [b]) (zip_rp as bs)
  | [], _ => .nil
  | _ :: _, [] => .nil
theorem se_dictZip {a b : Str} {u v : List Nat} (ha : a = S u) (hb : b = S v) (_hl : u.length ≤ 100) : SE k E (tDictZip a b) (eDictZip u v) := fun R dr env σ G H n Q r w p hp => by
  subst ha hb
  rw [S_cps, S_cps]
  have ro : RpO k G (.dK (mergeK [] (zipK u v))) (.dic (mrgD (zipE u v))) := .dic ((zip_rp u v).merge .nil)
  exact w _ G _ (Le.refl _) (r.new hp) ⟨p, rfl, (r.newO hp ro).1, (r.newO hp ro).2⟩
end
/-! ### rules of the hand layer -/
section
variable {X : Cx}
theorem pg_tl {tg : Expr} {g g' : TG} (h : PG X tg g) (h' : PG X tg g') : PG X tg (fun v σ H Q => g v σ H Q ∨ g' v σ H Q) := ⟨fun pins s σ H v u Q I r q => q.elim (h.run pins s σ H v u Q I r) (h'.run pins s σ H v u Q I r)⟩
theorem ix_kd {d : Addr} {es : Array DictEntry} {n : Nat} (D : KDict X.K X.w d es n) : IxR X (rKd X.K d) := by
  intro value slice pins s σ H x y v u Q I rx ry h hs
  have h2 := op_kd D pins s σ H x y v u Q I rx ry h
  obtain ⟨z, u0, v0, rfl, rfl, e, r, q⟩ := h
  obtain rfl : v = Value.ref d := rx
  have hT : s.TypeIs (.ref d) "dict" := kd_type D I
  unfold subscriptTail
  refine wpAny_bind ?_
  rw [getitemInPython_of_ne hT.not_modules]
  refine wpAny_bind (wpAny_specialOf hT PySem.F.slot_dict_getitem.lookup ?_)
  have fin : wpAny (model X.prog X.w) X.A (subscripted slice false (.ref d) u) (fun r s₃ => wpAny (model X.prog X.w) X.A (letTemporaryGo value (.ref d) r >>= fun _ => pure r) (EP X pins σ Q) X.xe s₃) X.xe s := by
    rw [hs]
    exact wpAny_operating (wpAny_mono h2 (fun r s₃ h₃ => wpAny_bind (wpAny_letTemporaryGo (wpAny_pure h₃))) fun _ _ x => x)
  first
    | exact wpAny_pure (wpAny_bind fin)
    | exact wpAny_bind (wpAny_pure (wpAny_bind fin))
    | exact wpAny_bind fin
theorem pe_kd {x : Str} {d : Addr} {b : Expr} {tb : TE} {p pos : Pos} (D : ∃ es n, KDict X.K X.w d es n) (hg : Gl X x) (hm : X.mg x = some (.ref d)) (hb : PE X b tb) (hd : (x == ("__debug__" : Str)) = false := by decide) (hs : PlainIx b := by exact fun _ _ => rfl) : PE X (.Subscript (.Name x p) b pos) (tOp (rKd X.K d) (tC (.ref d)) tb) := by
  obtain ⟨es, n, D⟩ := D
  exact pe_ix (ix_kd D) (pe_glob hg hm rfl hd) hb hs
end
end Y

namespace Y
open PySem PySem.Spec PyProof.Rows L2 Z
/-- the law's end -/
theorem law_sp {k : Kx} {m : List D → M Vl} {a : Addr} {ns : List Int} {H : Hp} (hT : LamX.Tabs k.T H) (hS : SqL k.K H a (ns.map .int)) (hw : wp [] 1000000000000 (m [.scr ns]) (fun _ _ r => r = (.s, .bl true)) (fun _ _ _ => False)) : spM k m [.ref a] H (fun v _ => v = .bl true) (fun _ _ _ => False) := by
  have in0 : In (clean fun b => if b = a then H a else none) H := fun b o e => by
    obtain ⟨e, _⟩ := of_clean e
    by_cases hb : b = a
    · subst hb; simp only [if_true] at e; exact .inl e
    · simp only [if_neg hb] at e; cases e
  have sq0 : SqL k.K (clean fun b => if b = a then H a else none) a (ns.map .int) := by
    rcases hS with q | q
    · rcases q with q | ⟨o, q⟩
      · exact .inl (.inl (clean_some (by simp only [if_true]; exact q) (by intro ps z; cases z)))
      · exact .inl (.inr ⟨o, clean_some (by simp only [if_true]; exact q) (by intro ps z; cases z)⟩)
    · exact .inr q
  refine ⟨fun _ => none, [], _, 1000000000000, [.scr ns], ⟨in0, clean_noT _, hT, fun q hq => (by cases hq), fun b ⟨q, hq, _⟩ => (by cases hq), .nil, fun b o e => (by cases e), fun i d e => by simp at e, fun i d e => by simp at e, fun i j b d d' e => by simp at e, Nat.le_refl _, Nat.le_refl _⟩, .cons (.scr sq0) .nil, wp_mono hw (fun _ _ r e x G2 H2 _ _ rv => ?_) fun _ _ _ z => z.elim⟩
  subst e
  exact rp_bl rv
end Y

/-! the world's one flag that a text's hash asks for -/
namespace Y
open PySem PySem.W
def ft (b : Bool) (f : String → Bool) (s : String) : Bool := match decide (s = "special-get-raises") with
  | true => b
  | false => f s
def updW (b : Bool) (w : World) : World := { w with params := { w.params with followText := ft b w.params.followText } }
theorem ft_eq (f : String → Bool) : ft (f "special-get-raises") f = f := by
  funext s
  unfold ft
  by_cases h : s = "special-get-raises"
  · rw [decide_eq_true h, h]
  · rw [decide_eq_false h]
theorem updW_eq (w : World) : updW (w.params.followText "special-get-raises") w = w := by
  unfold updW
  rw [ft_eq]
theorem run_updW {r : OpenRow} {q : Program} {H : Hook} {ob : SharedT → H.α} {M : Nat} {loose : List PySem.Str} (h0 : ∀ w, HandSHeadRun.RunEq r q H ob M loose (updW false w)) (h1 : ∀ w, HandSHeadRun.RunEq r q H ob M loose (updW true w)) (w : World) : HandSHeadRun.RunEq r q H ob M loose w := by
  rw [← updW_eq w]
  cases w.params.followText "special-get-raises"
  · exact h0 w
  · exact h1 w
/-- the name of a def's lambda -/
def lq (f : PySem.Str) : PySem.Str := (f ++ ".<locals>.") ++ "<lambda>"
end Y

namespace Z
open PySem PySem.Spec PyProof.Rows L2
theorem c_need_word {K : PySem.W.Frag} {ca : Str → Addr} {E : XK} (l : W) (h : wordB l = true) (hl : List.length l ≤ 10000) : SpV K (sp_need_word K ca) E [dS l] .none :=
  c_need_word' (dS l) (by show (S l).cps.toList.length ≤ 100000; rw [S_cps]; omega) (by show wordB (S l).cps.toList = true; rw [S_cps]; exact h)
theorem c_need_length {K : PySem.W.Frag} {ca : Str → Addr} {E : XK} (i : Int) (h : 1 ≤ i ∧ i ≤ 120) : SpV K (sp_need_length K ca) E [dI i] .none :=
  c_need_length' (dI i) (by show (decide (1 ≤ i) && decide (i ≤ 120)) = true; simp [h])
def m_is_betweenI (i lo hi : Int) : Bool := decide (lo ≤ i) && decide (i ≤ hi)
theorem c_is_betweenI {K : PySem.W.Frag} {ca : Str → Addr} {E : XK} (i lo hi : Int) : SpV K (sp_is_between K ca) E [dI i, dI lo, dI hi] (dB (m_is_betweenI i lo hi)) := c_is_between (dI i) lo hi
theorem atI_mod {l : W} {i : Int} (h : l ≠ []) : (atI l (Int.fmod i (List.length l : Int))).isSome = true := by
  have hp : 0 < l.length := List.length_pos_iff.mpr h
  have e : Int.fmod i (l.length : Int) = i % (l.length : Int) := Int.fmod_eq_emod_of_nonneg _ (by omega)
  have h0 := Int.emod_nonneg i (b := (l.length : Int)) (by omega)
  have h1 := Int.emod_lt_of_pos i (b := (l.length : Int)) (by omega)
  unfold atI ixN
  rw [e, if_pos h0, if_pos h1]
  have : (i % (l.length : Int)).toNat < l.length := by omega
  simp [this]
theorem len_ne {l : W} (h : l ≠ []) : (List.length l : Int) ≠ 0 := by
  have hp : 0 < l.length := List.length_pos_iff.mpr h
  omega
theorem word_ne {l : W} (h : wordB l = true) : l ≠ [] := by
  intro e; subst e; revert h; decide
theorem rng_mem {a lo : Int} {n : Nat} (h : a ∈ rng lo n) : lo ≤ a ∧ a < lo + n := by
  unfold rng at h
  obtain ⟨i, hi, e⟩ := List.mem_map.mp h
  have := List.mem_range.mp hi
  omega
theorem map_rng_ne {β : Type} {f : Int → β} {l : W} (h : l ≠ []) : List.map f (rng 0 (List.length l : Int).toNat) ≠ [] := by
  have hp : 0 < l.length := List.length_pos_iff.mpr h
  intro e
  have := congrArg List.length e
  rw [List.length_map, rng_len, List.length_nil] at this
  omega
theorem ne_of_rng {l : W} {a : Int} (h : a ∈ rng 0 (List.length l : Int).toNat) : l ≠ [] := by
  intro e
  subst e
  have := rng_mem h
  simp at this
  omega
theorem fdiv_le {n k : Int} (h0 : 0 ≤ n) (h : 1 ≤ k) : 0 ≤ Int.fdiv n k ∧ Int.fdiv n k ≤ n := by
  rw [Int.fdiv_eq_ediv_of_nonneg _ (by omega)]
  exact ⟨Int.ediv_nonneg h0 (by omega), Int.ediv_le_self _ h0⟩
theorem fdiv_bd {l : W} {k : Int} (h : List.length l ≤ 2000) (hk : 1 ≤ k) : -1000000 ≤ Int.fdiv (List.length l : Int) k ∧ Int.fdiv (List.length l : Int) k ≤ 1000000 := by
  have := fdiv_le (n := (List.length l : Int)) (k := k) (by omega) hk
  omega
theorem fdiv_mul {l : W} {a b : Option Int} {k : Int} (h : List.length l ≤ 2000) (hk : 1 ≤ k) : (cutL l a b).length * (Int.fdiv (List.length l : Int) k).toNat ≤ 10000000 := by
  have h1 := fdiv_le (n := (List.length l : Int)) (k := k) (by omega) hk
  have h2 := cutL_le l a b
  have h3 : (Int.fdiv (List.length l : Int) k).toNat ≤ 2000 := by omega
  exact Nat.le_trans (Nat.mul_le_mul (Nat.le_trans h2 h) h3) (by decide)
local macro_rules | `(tactic| walk_at "sd") => `(tactic| (first | assumption | omega | (simp only [rng_len, List.length_map]; omega) | (exact Nat.le_trans (cutL_le _ _ _) (by omega)) | (exact Nat.le_trans (Nat.add_le_add (cutL_le _ _ _) (cutL_le _ _ _)) (by omega)) | (exact len_ne (by assumption)) | (exact atI_mod (by assumption)) | (exact trivial) | (have hm := rng_mem (by assumption); omega) | (have hm := rng_mem (by assumption); refine ⟨by omega, by omega⟩) | (have hm := rng_mem (by assumption); exact fdiv_bd (by omega) (by omega)) | (have hm := rng_mem (by assumption); exact fdiv_mul (by omega) (by omega)) | (exact word_ne (by assumption)) | (exact map_rng_ne (by assumption)) | (exact (rng_mem (by assumption)).1) | (exact ne_of_rng (by assumption))))

-- places_of
def m_places_of (text_v : W) (piece_v : W) : (List Int) := (List.map (fun at_v => at_v) (List.filter (fun at_v => (decide ((cutL text_v (some at_v) (some (at_v + (List.length piece_v : Int)))) = piece_v))) (rng 0 ((((List.length text_v : Int) - (List.length piece_v : Int)) + (1 : Int))).toNat)))
def sp_places_of (K : PySem.W.Frag) (ca : Str → Addr) : Sp := fun vs H Q E => ∃ (G : Hp) (text_v : W) (piece_v : W), In G H ∧ RpA K G vs [(dS text_v), (dS piece_v)] ∧ (List.length text_v ≤ 10000) ∧ (List.length piece_v ≤ 10000) ∧ Ret K G H Q ((dL dI) (m_places_of text_v piece_v))
theorem c_places_of {K : PySem.W.Frag} {ca : Str → Addr} {E : XK} (text_v : W) (piece_v : W) (p0 : List.length text_v ≤ 10000) (p1 : List.length piece_v ≤ 10000) : SpV K (sp_places_of K ca) E [(dS text_v), (dS piece_v)] ((dL dI) (m_places_of text_v piece_v)) := fun G H vs hi pv Q q => ⟨G, text_v, piece_v, hi, pv, p0, p1, q⟩
def t_places_of (K : PySem.W.Frag) (ca : Str → Addr) (E : XK) : TS := (tRet ((tLc ((iRng1 ((tCons ((tOp (rI0 fun i j => .int (i + j)) ((tOp (rI0 fun i j => .int (i - j)) ((tCB (rLenU K) ((tCons ((tVar 0)) (tNil))))) ((tCB (rLenU K) ((tCons ((tVar 1)) (tNil))))))) (tC (.int 1)))) (tNil))))) ((gName 2)) ((tTest (tOp (rEq) ((tSl (rSlS) ((tVar 0)) ((tPart ((tVar 2)))) ((tPart ((tOp (rI0 fun i j => .int (i + j)) ((tVar 2)) ((tCB (rLenU K) ((tCons ((tVar 1)) (tNil))))))))))) ((tVar 1))))) ((tVar 2)) [2])))
theorem pure_places_of {K : PySem.W.Frag} {ca : Str → Addr} (vs : List V) (H : Hp) (Q : VK) (E : XK) (h : sp_places_of K ca vs H Q E) : vs.length = 2 ∧ t_places_of K ca E { nx := fun _ H2 => Q .non H2, rt := Q } (start ["text", "piece", "at"] vs) H := by
  obtain ⟨G, text_v, piece_v, hin, pv, p0, p1, k⟩ := h
  obtain ⟨v_text_v, w0, rfl, h_text_v, pv0⟩ := rpa_cons pv
  obtain ⟨v_piece_v, w1, rfl, h_piece_v, pv1⟩ := rpa_cons pv0
  obtain rfl := rpa_nil pv1
  refine ⟨rfl, ?_⟩
  unfold m_places_of at k
  unfold t_places_of
  exact s_ret (ev_lcF (DE := dI) (ei_rng1 (ea_cons (ev_op (ev_op (ev_cb (ea_cons (ev_var rfl h_text_v) ea_nil) (cav_lenS (by walk_at "sd"))) (ev_cb (ea_cons (ev_var rfl h_piece_v) ea_nil) (cav_lenS (by walk_at "sd"))) opv_sub) ev_int opv_add) ea_nil) (by walk_at "sd") (by walk_at "sd")) (fun at_v z1 G1 x1 l1 h1 => (et_test (ev_op (ev_slS (ev_var rfl (Rp.mono l1 h_text_v)) (eo_some (ev_var rfl h1)) (eo_some (ev_op (ev_var rfl h1) (ev_cb (ea_cons (ev_var rfl (Rp.mono l1 h_piece_v)) ea_nil) (cav_lenS (by walk_at "sd"))) opv_add)) (by walk_at "sd")) (ev_var rfl (Rp.mono l1 h_piece_v)) opv_eqS))) (fun at_v z1 p1 G1 x1 l1 h1 => (ev_var rfl h1)) (by walk_at "sd")) hin (fun v G2 H2 w r => k v G2 H2 w r)
-- occurrences
def m_occurrences (word_v : W) (piece_v : W) : (List Int) := (m_places_of (word_v) (piece_v))
def sp_occurrences (K : PySem.W.Frag) (ca : Str → Addr) : Sp := fun vs H Q E => ∃ (G : Hp) (word_v : W) (piece_v : W), In G H ∧ RpA K G vs [(dS word_v), (dS piece_v)] ∧ (wordB word_v = true) ∧ (List.length word_v ≤ 10000) ∧ (wordB piece_v = true) ∧ (List.length piece_v ≤ 10000) ∧ Ret K G H Q ((dL dI) (m_occurrences word_v piece_v))
theorem c_occurrences {K : PySem.W.Frag} {ca : Str → Addr} {E : XK} (word_v : W) (piece_v : W) (p0 : wordB word_v = true) (p1 : List.length word_v ≤ 10000) (p2 : wordB piece_v = true) (p3 : List.length piece_v ≤ 10000) : SpV K (sp_occurrences K ca) E [(dS word_v), (dS piece_v)] ((dL dI) (m_occurrences word_v piece_v)) := fun G H vs hi pv Q q => ⟨G, word_v, piece_v, hi, pv, p0, p1, p2, p3, q⟩
def t_occurrences (K : PySem.W.Frag) (ca : Str → Addr) (E : XK) : TS := (tSeq ((tDrop ((tCall (sp_need_word K ca) [] E ((tCons ((tVar 0)) (tNil))))))) ((tSeq ((tDrop ((tCall (sp_need_word K ca) [] E ((tCons ((tVar 1)) (tNil))))))) ((tRet ((tCall (sp_places_of K ca) [] E ((tCons ((tVar 0)) ((tCons ((tVar 1)) (tNil))))))))))))
theorem pure_occurrences {K : PySem.W.Frag} {ca : Str → Addr} (vs : List V) (H : Hp) (Q : VK) (E : XK) (h : sp_occurrences K ca vs H Q E) : vs.length = 2 ∧ t_occurrences K ca E { nx := fun _ H2 => Q .non H2, rt := Q } (start ["word", "piece"] vs) H := by
  obtain ⟨G, word_v, piece_v, hin, pv, p0, p1, p2, p3, k⟩ := h
  obtain ⟨v_word_v, w0, rfl, h_word_v, pv0⟩ := rpa_cons pv
  obtain ⟨v_piece_v, w1, rfl, h_piece_v, pv1⟩ := rpa_cons pv0
  obtain rfl := rpa_nil pv1
  refine ⟨rfl, ?_⟩
  unfold m_occurrences at k
  unfold t_occurrences
  refine s_drop (ev_call (ea_cons (ev_var rfl h_word_v) ea_nil) (c_need_word (word_v) (by walk_at "sd") (by walk_at "sd"))) hin fun v1 G1 H1 u1 r1 => ?_
  refine s_drop (ev_call (ea_cons (ev_var rfl (Rp.mono u1.g h_piece_v)) ea_nil) (c_need_word (piece_v) (by walk_at "sd") (by walk_at "sd"))) u1.i fun v2 G2 H2 u2 r2 => ?_
  exact s_ret (ev_call (ea_cons (ev_var rfl (Rp.mono u2.g (Rp.mono u1.g h_word_v))) (ea_cons (ev_var rfl (Rp.mono u2.g (Rp.mono u1.g h_piece_v))) ea_nil)) (c_places_of (word_v) (piece_v) (by walk_at "sd") (by walk_at "sd"))) u2.i (fun v G2 H2 w r => k v G2 H2 (Up.trans (Up.trans u1 u2) w) r)
-- stretches
def m_stretches (text_v : W) (length_v : Int) : (List W) := (List.map (fun at_v => (cutL text_v (some at_v) (some (at_v + length_v)))) (rng 0 ((((List.length text_v : Int) - length_v) + (1 : Int))).toNat))
def sp_stretches (K : PySem.W.Frag) (ca : Str → Addr) : Sp := fun vs H Q E => ∃ (G : Hp) (text_v : W) (length_v : Int), In G H ∧ RpA K G vs [(dS text_v), (dI length_v)] ∧ (List.length text_v ≤ 10000) ∧ (0 ≤ length_v ∧ length_v ≤ 10000) ∧ Ret K G H Q ((dL dS) (m_stretches text_v length_v))
theorem c_stretches {K : PySem.W.Frag} {ca : Str → Addr} {E : XK} (text_v : W) (length_v : Int) (p0 : List.length text_v ≤ 10000) (p1 : 0 ≤ length_v ∧ length_v ≤ 10000) : SpV K (sp_stretches K ca) E [(dS text_v), (dI length_v)] ((dL dS) (m_stretches text_v length_v)) := fun G H vs hi pv Q q => ⟨G, text_v, length_v, hi, pv, p0, p1, q⟩
def t_stretches (K : PySem.W.Frag) (ca : Str → Addr) (E : XK) : TS := (tRet ((tLc ((iRng1 ((tCons ((tOp (rI0 fun i j => .int (i + j)) ((tOp (rI0 fun i j => .int (i - j)) ((tCB (rLenU K) ((tCons ((tVar 0)) (tNil))))) ((tVar 1)))) (tC (.int 1)))) (tNil))))) ((gName 2)) (tYes) ((tSl (rSlS) ((tVar 0)) ((tPart ((tVar 2)))) ((tPart ((tOp (rI0 fun i j => .int (i + j)) ((tVar 2)) ((tVar 1)))))))) [2])))
theorem pure_stretches {K : PySem.W.Frag} {ca : Str → Addr} (vs : List V) (H : Hp) (Q : VK) (E : XK) (h : sp_stretches K ca vs H Q E) : vs.length = 2 ∧ t_stretches K ca E { nx := fun _ H2 => Q .non H2, rt := Q } (start ["text", "length", "at"] vs) H := by
  obtain ⟨G, text_v, length_v, hin, pv, p0, p1, k⟩ := h
  obtain ⟨v_text_v, w0, rfl, h_text_v, pv0⟩ := rpa_cons pv
  obtain ⟨v_length_v, w1, rfl, h_length_v, pv1⟩ := rpa_cons pv0
  obtain rfl := rpa_nil pv1
  refine ⟨rfl, ?_⟩
  unfold m_stretches at k
  unfold t_stretches
  exact s_ret (ev_lcM (DE := dS) (ei_rng1 (ea_cons (ev_op (ev_op (ev_cb (ea_cons (ev_var rfl h_text_v) ea_nil) (cav_lenS (by walk_at "sd"))) (ev_var rfl h_length_v) opv_sub) ev_int opv_add) ea_nil) (by walk_at "sd") (by walk_at "sd")) (fun at_v z1 G1 x1 l1 h1 => (ev_slS (ev_var rfl (Rp.mono l1 h_text_v)) (eo_some (ev_var rfl h1)) (eo_some (ev_op (ev_var rfl h1) (ev_var rfl (Rp.mono l1 h_length_v)) opv_add)) (by walk_at "sd"))) (by walk_at "sd")) hin (fun v G2 H2 w r => k v G2 H2 w r)
-- borders_of
def m_borders_of (text_v : W) : (List Int) := (List.map (fun length_v => length_v) (List.filter (fun length_v => (decide ((cutL text_v none (some length_v)) = (cutL text_v (some ((List.length text_v : Int) - length_v)) none)))) (rng (1 : Int) ((List.length text_v : Int) - (1 : Int)).toNat)))
def sp_borders_of (K : PySem.W.Frag) (ca : Str → Addr) : Sp := fun vs H Q E => ∃ (G : Hp) (text_v : W), In G H ∧ RpA K G vs [(dS text_v)] ∧ (List.length text_v ≤ 10000) ∧ Ret K G H Q ((dL dI) (m_borders_of text_v))
theorem c_borders_of {K : PySem.W.Frag} {ca : Str → Addr} {E : XK} (text_v : W) (p0 : List.length text_v ≤ 10000) : SpV K (sp_borders_of K ca) E [(dS text_v)] ((dL dI) (m_borders_of text_v)) := fun G H vs hi pv Q q => ⟨G, text_v, hi, pv, p0, q⟩
def t_borders_of (K : PySem.W.Frag) (ca : Str → Addr) (E : XK) : TS := (tRet ((tLc ((iRng2 ((tCons (tC (.int 1)) ((tCons ((tCB (rLenU K) ((tCons ((tVar 0)) (tNil))))) (tNil))))))) ((gName 1)) ((tTest (tOp (rEq) ((tSl (rSlS) ((tVar 0)) (tNoPart) ((tPart ((tVar 1)))))) ((tSl (rSlS) ((tVar 0)) ((tPart ((tOp (rI0 fun i j => .int (i - j)) ((tCB (rLenU K) ((tCons ((tVar 0)) (tNil))))) ((tVar 1)))))) (tNoPart)))))) ((tVar 1)) [1])))
theorem pure_borders_of {K : PySem.W.Frag} {ca : Str → Addr} (vs : List V) (H : Hp) (Q : VK) (E : XK) (h : sp_borders_of K ca vs H Q E) : vs.length = 1 ∧ t_borders_of K ca E { nx := fun _ H2 => Q .non H2, rt := Q } (start ["text", "length"] vs) H := by
  obtain ⟨G, text_v, hin, pv, p0, k⟩ := h
  obtain ⟨v_text_v, w0, rfl, h_text_v, pv0⟩ := rpa_cons pv
  obtain rfl := rpa_nil pv0
  refine ⟨rfl, ?_⟩
  unfold m_borders_of at k
  unfold t_borders_of
  exact s_ret (ev_lcF (DE := dI) (ei_rng2 (ea_cons ev_int (ea_cons (ev_cb (ea_cons (ev_var rfl h_text_v) ea_nil) (cav_lenS (by walk_at "sd"))) ea_nil)) (by walk_at "sd") (by walk_at "sd") (by walk_at "sd") (by walk_at "sd")) (fun length_v z1 G1 x1 l1 h1 => (et_test (ev_op (ev_slS (ev_var rfl (Rp.mono l1 h_text_v)) eo_none (eo_some (ev_var rfl h1)) (by walk_at "sd")) (ev_slS (ev_var rfl (Rp.mono l1 h_text_v)) (eo_some (ev_op (ev_cb (ea_cons (ev_var rfl (Rp.mono l1 h_text_v)) ea_nil) (cav_lenS (by walk_at "sd"))) (ev_var rfl h1) opv_sub)) eo_none (by walk_at "sd")) opv_eqS))) (fun length_v z1 p1 G1 x1 l1 h1 => (ev_var rfl h1)) (by walk_at "sd")) hin (fun v G2 H2 w r => k v G2 H2 w r)
-- borders
def m_borders (word_v : W) : (List Int) := (m_borders_of (word_v))
def sp_borders (K : PySem.W.Frag) (ca : Str → Addr) : Sp := fun vs H Q E => ∃ (G : Hp) (word_v : W), In G H ∧ RpA K G vs [(dS word_v)] ∧ (wordB word_v = true) ∧ (List.length word_v ≤ 10000) ∧ Ret K G H Q ((dL dI) (m_borders word_v))
theorem c_borders {K : PySem.W.Frag} {ca : Str → Addr} {E : XK} (word_v : W) (p0 : wordB word_v = true) (p1 : List.length word_v ≤ 10000) : SpV K (sp_borders K ca) E [(dS word_v)] ((dL dI) (m_borders word_v)) := fun G H vs hi pv Q q => ⟨G, word_v, hi, pv, p0, p1, q⟩
def t_borders (K : PySem.W.Frag) (ca : Str → Addr) (E : XK) : TS := (tSeq ((tDrop ((tCall (sp_need_word K ca) [] E ((tCons ((tVar 0)) (tNil))))))) ((tRet ((tCall (sp_borders_of K ca) [] E ((tCons ((tVar 0)) (tNil))))))))
theorem pure_borders {K : PySem.W.Frag} {ca : Str → Addr} (vs : List V) (H : Hp) (Q : VK) (E : XK) (h : sp_borders K ca vs H Q E) : vs.length = 1 ∧ t_borders K ca E { nx := fun _ H2 => Q .non H2, rt := Q } (start ["word"] vs) H := by
  obtain ⟨G, word_v, hin, pv, p0, p1, k⟩ := h
  obtain ⟨v_word_v, w0, rfl, h_word_v, pv0⟩ := rpa_cons pv
  obtain rfl := rpa_nil pv0
  refine ⟨rfl, ?_⟩
  unfold m_borders at k
  unfold t_borders
  refine s_drop (ev_call (ea_cons (ev_var rfl h_word_v) ea_nil) (c_need_word (word_v) (by walk_at "sd") (by walk_at "sd"))) hin fun v1 G1 H1 u1 r1 => ?_
  exact s_ret (ev_call (ea_cons (ev_var rfl (Rp.mono u1.g h_word_v)) ea_nil) (c_borders_of (word_v) (by walk_at "sd"))) u1.i (fun v G2 H2 w r => k v G2 H2 (Up.trans u1 w) r)
-- turn_of
def m_turn_of (text_v : W) (number_v : Int) : W := ((cutL text_v (some number_v) none) ++ (cutL text_v none (some number_v)))
def sp_turn_of (K : PySem.W.Frag) (ca : Str → Addr) : Sp := fun vs H Q E => ∃ (G : Hp) (text_v : W) (number_v : Int), In G H ∧ RpA K G vs [(dS text_v), (dI number_v)] ∧ (List.length text_v ≤ 10000) ∧ Ret K G H Q (dS (m_turn_of text_v number_v))
theorem c_turn_of {K : PySem.W.Frag} {ca : Str → Addr} {E : XK} (text_v : W) (number_v : Int) (p0 : List.length text_v ≤ 10000) : SpV K (sp_turn_of K ca) E [(dS text_v), (dI number_v)] (dS (m_turn_of text_v number_v)) := fun G H vs hi pv Q q => ⟨G, text_v, number_v, hi, pv, p0, q⟩
def t_turn_of (K : PySem.W.Frag) (ca : Str → Addr) (E : XK) : TS := (tRet ((tOp (rAddS) ((tSl (rSlS) ((tVar 0)) ((tPart ((tVar 1)))) (tNoPart))) ((tSl (rSlS) ((tVar 0)) (tNoPart) ((tPart ((tVar 1)))))))))
theorem pure_turn_of {K : PySem.W.Frag} {ca : Str → Addr} (vs : List V) (H : Hp) (Q : VK) (E : XK) (h : sp_turn_of K ca vs H Q E) : vs.length = 2 ∧ t_turn_of K ca E { nx := fun _ H2 => Q .non H2, rt := Q } (start ["text", "number"] vs) H := by
  obtain ⟨G, text_v, number_v, hin, pv, p0, k⟩ := h
  obtain ⟨v_text_v, w0, rfl, h_text_v, pv0⟩ := rpa_cons pv
  obtain ⟨v_number_v, w1, rfl, h_number_v, pv1⟩ := rpa_cons pv0
  obtain rfl := rpa_nil pv1
  refine ⟨rfl, ?_⟩
  unfold m_turn_of at k
  unfold t_turn_of
  exact s_ret (ev_op (ev_slS (ev_var rfl h_text_v) (eo_some (ev_var rfl h_number_v)) eo_none (by walk_at "sd")) (ev_slS (ev_var rfl h_text_v) eo_none (eo_some (ev_var rfl h_number_v)) (by walk_at "sd")) (opv_addS (by walk_at "sd"))) hin (fun v G2 H2 w r => k v G2 H2 w r)
-- least_turn
def m_least_turn (text_v : W) : W := (minS (List.map (fun number_v => (m_turn_of (text_v) (number_v))) (rng 0 ((List.length text_v : Int)).toNat)))
def sp_least_turn (K : PySem.W.Frag) (ca : Str → Addr) : Sp := fun vs H Q E => ∃ (G : Hp) (text_v : W), In G H ∧ RpA K G vs [(dS text_v)] ∧ (List.length text_v ≤ 10000) ∧ (text_v ≠ []) ∧ Ret K G H Q (dS (m_least_turn text_v))
theorem c_least_turn {K : PySem.W.Frag} {ca : Str → Addr} {E : XK} (text_v : W) (p0 : List.length text_v ≤ 10000) (p1 : text_v ≠ []) : SpV K (sp_least_turn K ca) E [(dS text_v)] (dS (m_least_turn text_v)) := fun G H vs hi pv Q q => ⟨G, text_v, hi, pv, p0, p1, q⟩
def t_least_turn (K : PySem.W.Frag) (ca : Str → Addr) (E : XK) : TS := (tRet ((tCB (rMinD K) ((tCons ((tLc ((iRng1 ((tCons ((tCB (rLenU K) ((tCons ((tVar 0)) (tNil))))) (tNil))))) ((gName 1)) (tYes) ((tCall (sp_turn_of K ca) [] E0 ((tCons ((tVar 0)) ((tCons ((tVar 1)) (tNil))))))) [1])) (tNil))))))
theorem pure_least_turn {K : PySem.W.Frag} {ca : Str → Addr} (vs : List V) (H : Hp) (Q : VK) (E : XK) (h : sp_least_turn K ca vs H Q E) : vs.length = 1 ∧ t_least_turn K ca E { nx := fun _ H2 => Q .non H2, rt := Q } (start ["text", "number"] vs) H := by
  obtain ⟨G, text_v, hin, pv, p0, p1, k⟩ := h
  obtain ⟨v_text_v, w0, rfl, h_text_v, pv0⟩ := rpa_cons pv
  obtain rfl := rpa_nil pv0
  refine ⟨rfl, ?_⟩
  unfold m_least_turn at k
  unfold t_least_turn
  exact s_ret (ev_cb (ea_cons (ev_lcM (DE := dS) (ei_rng1 (ea_cons (ev_cb (ea_cons (ev_var rfl h_text_v) ea_nil) (cav_lenS (by walk_at "sd"))) ea_nil) (by walk_at "sd") (by walk_at "sd")) (fun number_v z1 G1 x1 l1 h1 => (ev_call (ea_cons (ev_var rfl (Rp.mono l1 h_text_v)) (ea_cons (ev_var rfl h1) ea_nil)) (c_turn_of (text_v) (number_v) (by walk_at "sd")))) (by walk_at "sd")) ea_nil) (cav_minS (by walk_at "sd") (by walk_at "sd"))) hin (fun v G2 H2 w r => k v G2 H2 w r)
-- ring_of
def m_ring_of (word_v : W) : W := (m_least_turn (word_v))
def sp_ring_of (K : PySem.W.Frag) (ca : Str → Addr) : Sp := fun vs H Q E => ∃ (G : Hp) (word_v : W), In G H ∧ RpA K G vs [(dS word_v)] ∧ (wordB word_v = true) ∧ (List.length word_v ≤ 10000) ∧ Ret K G H Q (dS (m_ring_of word_v))
theorem c_ring_of {K : PySem.W.Frag} {ca : Str → Addr} {E : XK} (word_v : W) (p0 : wordB word_v = true) (p1 : List.length word_v ≤ 10000) : SpV K (sp_ring_of K ca) E [(dS word_v)] (dS (m_ring_of word_v)) := fun G H vs hi pv Q q => ⟨G, word_v, hi, pv, p0, p1, q⟩
def t_ring_of (K : PySem.W.Frag) (ca : Str → Addr) (E : XK) : TS := (tSeq ((tDrop ((tCall (sp_need_word K ca) [] E ((tCons ((tVar 0)) (tNil))))))) ((tRet ((tCall (sp_least_turn K ca) [] E ((tCons ((tVar 0)) (tNil))))))))
theorem pure_ring_of {K : PySem.W.Frag} {ca : Str → Addr} (vs : List V) (H : Hp) (Q : VK) (E : XK) (h : sp_ring_of K ca vs H Q E) : vs.length = 1 ∧ t_ring_of K ca E { nx := fun _ H2 => Q .non H2, rt := Q } (start ["word"] vs) H := by
  obtain ⟨G, word_v, hin, pv, p0, p1, k⟩ := h
  obtain ⟨v_word_v, w0, rfl, h_word_v, pv0⟩ := rpa_cons pv
  obtain rfl := rpa_nil pv0
  refine ⟨rfl, ?_⟩
  unfold m_ring_of at k
  unfold t_ring_of
  refine s_drop (ev_call (ea_cons (ev_var rfl h_word_v) ea_nil) (c_need_word (word_v) (by walk_at "sd") (by walk_at "sd"))) hin fun v1 G1 H1 u1 r1 => ?_
  exact s_ret (ev_call (ea_cons (ev_var rfl (Rp.mono u1.g h_word_v)) ea_nil) (c_least_turn (word_v) (by walk_at "sd") (by walk_at "sd"))) u1.i (fun v G2 H2 w r => k v G2 H2 (Up.trans u1 w) r)
-- read_on
def m_read_on (text_v : W) (at_v : Int) (length_v : Int) : W := (List.map (fun step_v => ((atI text_v (Int.fmod (at_v + step_v) (List.length text_v : Int))).getD 0)) (rng 0 (length_v).toNat))
def sp_read_on (K : PySem.W.Frag) (ca : Str → Addr) : Sp := fun vs H Q E => ∃ (G : Hp) (text_v : W) (at_v : Int) (length_v : Int), In G H ∧ RpA K G vs [(dS text_v), (dI at_v), (dI length_v)] ∧ (List.length text_v ≤ 10000) ∧ (text_v ≠ []) ∧ (0 ≤ at_v) ∧ (0 ≤ length_v ∧ length_v ≤ 10000) ∧ Ret K G H Q (dS (m_read_on text_v at_v length_v))
theorem c_read_on {K : PySem.W.Frag} {ca : Str → Addr} {E : XK} (text_v : W) (at_v : Int) (length_v : Int) (p0 : List.length text_v ≤ 10000) (p1 : text_v ≠ []) (p2 : 0 ≤ at_v) (p3 : 0 ≤ length_v ∧ length_v ≤ 10000) : SpV K (sp_read_on K ca) E [(dS text_v), (dI at_v), (dI length_v)] (dS (m_read_on text_v at_v length_v)) := fun G H vs hi pv Q q => ⟨G, text_v, at_v, length_v, hi, pv, p0, p1, p2, p3, q⟩
def t_read_on (K : PySem.W.Frag) (ca : Str → Addr) (E : XK) : TS := (tRet ((tM1 (rJoin K) (tC (.str "")) ((tLc ((iRng1 ((tCons ((tVar 2)) (tNil))))) ((gName 3)) (tYes) ((tOp (rIx K) ((tVar 0)) ((tOp (rI (fun _ j => j ≠ 0) fun i j => .int (i.fmod j)) ((tOp (rI0 fun i j => .int (i + j)) ((tVar 1)) ((tVar 3)))) ((tCB (rLenU K) ((tCons ((tVar 0)) (tNil))))))))) [3])))))
theorem pure_read_on {K : PySem.W.Frag} {ca : Str → Addr} (vs : List V) (H : Hp) (Q : VK) (E : XK) (h : sp_read_on K ca vs H Q E) : vs.length = 3 ∧ t_read_on K ca E { nx := fun _ H2 => Q .non H2, rt := Q } (start ["text", "at", "length", "step"] vs) H := by
  obtain ⟨G, text_v, at_v, length_v, hin, pv, p0, p1, p2, p3, k⟩ := h
  obtain ⟨v_text_v, w0, rfl, h_text_v, pv0⟩ := rpa_cons pv
  obtain ⟨v_at_v, w1, rfl, h_at_v, pv1⟩ := rpa_cons pv0
  obtain ⟨v_length_v, w2, rfl, h_length_v, pv2⟩ := rpa_cons pv1
  obtain rfl := rpa_nil pv2
  refine ⟨rfl, ?_⟩
  unfold m_read_on at k
  unfold t_read_on
  exact s_ret (ev_joinC (ev_lit (by decide +kernel)) (ev_lcM (DE := dC) (ei_rng1 (ea_cons (ev_var rfl h_length_v) ea_nil) (by walk_at "sd") (by walk_at "sd")) (fun step_v z1 G1 x1 l1 h1 => (ev_op (ev_var rfl (Rp.mono l1 h_text_v)) (ev_op (ev_op (ev_var rfl (Rp.mono l1 h_at_v)) (ev_var rfl h1) opv_add) (ev_cb (ea_cons (ev_var rfl (Rp.mono l1 h_text_v)) ea_nil) (cav_lenS (by walk_at "sd"))) (opv_mod (by walk_at "sd"))) (opv_ixSD (by walk_at "sd") (by walk_at "sd")))) (by walk_at "sd")) (by walk_at "sd")) hin (fun v G2 H2 w r => k v G2 H2 w r)
-- ring_stretches
def m_ring_stretches (text_v : W) (length_v : Int) : (List W) := (List.map (fun at_v => (m_read_on (text_v) (at_v) (length_v))) (rng 0 ((List.length text_v : Int)).toNat))
def sp_ring_stretches (K : PySem.W.Frag) (ca : Str → Addr) : Sp := fun vs H Q E => ∃ (G : Hp) (text_v : W) (length_v : Int), In G H ∧ RpA K G vs [(dS text_v), (dI length_v)] ∧ (List.length text_v ≤ 10000) ∧ (0 ≤ length_v ∧ length_v ≤ 10000) ∧ Ret K G H Q ((dL dS) (m_ring_stretches text_v length_v))
theorem c_ring_stretches {K : PySem.W.Frag} {ca : Str → Addr} {E : XK} (text_v : W) (length_v : Int) (p0 : List.length text_v ≤ 10000) (p1 : 0 ≤ length_v ∧ length_v ≤ 10000) : SpV K (sp_ring_stretches K ca) E [(dS text_v), (dI length_v)] ((dL dS) (m_ring_stretches text_v length_v)) := fun G H vs hi pv Q q => ⟨G, text_v, length_v, hi, pv, p0, p1, q⟩
def t_ring_stretches (K : PySem.W.Frag) (ca : Str → Addr) (E : XK) : TS := (tRet ((tLc ((iRng1 ((tCons ((tCB (rLenU K) ((tCons ((tVar 0)) (tNil))))) (tNil))))) ((gName 2)) (tYes) ((tCall (sp_read_on K ca) [] E0 ((tCons ((tVar 0)) ((tCons ((tVar 2)) ((tCons ((tVar 1)) (tNil))))))))) [2])))
theorem pure_ring_stretches {K : PySem.W.Frag} {ca : Str → Addr} (vs : List V) (H : Hp) (Q : VK) (E : XK) (h : sp_ring_stretches K ca vs H Q E) : vs.length = 2 ∧ t_ring_stretches K ca E { nx := fun _ H2 => Q .non H2, rt := Q } (start ["text", "length", "at"] vs) H := by
  obtain ⟨G, text_v, length_v, hin, pv, p0, p1, k⟩ := h
  obtain ⟨v_text_v, w0, rfl, h_text_v, pv0⟩ := rpa_cons pv
  obtain ⟨v_length_v, w1, rfl, h_length_v, pv1⟩ := rpa_cons pv0
  obtain rfl := rpa_nil pv1
  refine ⟨rfl, ?_⟩
  unfold m_ring_stretches at k
  unfold t_ring_stretches
  exact s_ret (ev_lcM (DE := dS) (ei_rng1 (ea_cons (ev_cb (ea_cons (ev_var rfl h_text_v) ea_nil) (cav_lenS (by walk_at "sd"))) ea_nil) (by walk_at "sd") (by walk_at "sd")) (fun at_v z1 G1 x1 l1 h1 => (ev_call (ea_cons (ev_var rfl (Rp.mono l1 h_text_v)) (ea_cons (ev_var rfl h1) (ea_cons (ev_var rfl (Rp.mono l1 h_length_v)) ea_nil))) (c_read_on (text_v) (at_v) (length_v) (by walk_at "sd") (by walk_at "sd") (by walk_at "sd") (by walk_at "sd")))) (by walk_at "sd")) hin (fun v G2 H2 w r => k v G2 H2 w r)
-- root_of
def m_root_of (text_v : W) : (W × Int) := (match List.find? (fun length_v => ((decide ((Int.fmod (List.length text_v : Int) length_v) = (0 : Int))) && (decide ((List.replicate ((Int.fdiv (List.length text_v : Int) length_v)).toNat (cutL text_v none (some length_v))).flatten = text_v)))) (rng (1 : Int) ((List.length text_v : Int) - (1 : Int)).toNat) with | some length_v => ((cutL text_v none (some length_v)), (Int.fdiv (List.length text_v : Int) length_v)) | none => (text_v, (1 : Int)))
def sp_root_of (K : PySem.W.Frag) (ca : Str → Addr) : Sp := fun vs H Q E => ∃ (G : Hp) (text_v : W), In G H ∧ RpA K G vs [(dS text_v)] ∧ (List.length text_v ≤ 2000) ∧ Ret K G H Q ((dP dS dI) (m_root_of text_v))
theorem c_root_of {K : PySem.W.Frag} {ca : Str → Addr} {E : XK} (text_v : W) (p0 : List.length text_v ≤ 2000) : SpV K (sp_root_of K ca) E [(dS text_v)] ((dP dS dI) (m_root_of text_v)) := fun G H vs hi pv Q q => ⟨G, text_v, hi, pv, p0, q⟩
def t_root_of (K : PySem.W.Frag) (ca : Str → Addr) (E : XK) : TS := (tSeq ((tFor ((iRng2 ((tCons (tC (.int 1)) ((tCons ((tCB (rLenU K) ((tCons ((tVar 0)) (tNil))))) (tNil))))))) ((gName 1)) ((tIfS ((tAnd ((tTest (tOp (rEq) ((tOp (rI (fun _ j => j ≠ 0) fun i j => .int (i.fmod j)) ((tCB (rLenU K) ((tCons ((tVar 0)) (tNil))))) ((tVar 1)))) (tC (.int 0))))) ((tTest (tOp (rEq) ((tOp (rMulS) ((tSl (rSlS) ((tVar 0)) (tNoPart) ((tPart ((tVar 1)))))) ((tOp (rI CDivN fun i j => .int (i.fdiv j)) ((tCB (rLenU K) ((tCons ((tVar 0)) (tNil))))) ((tVar 1)))))) ((tVar 0))))))) ((tRet ((tTup ((tCons ((tSl (rSlS) ((tVar 0)) (tNoPart) ((tPart ((tVar 1)))))) ((tCons ((tOp (rI CDivN fun i j => .int (i.fdiv j)) ((tCB (rLenU K) ((tCons ((tVar 0)) (tNil))))) ((tVar 1)))) (tNil))))))))) (tNext))))) ((tRet ((tTup ((tCons ((tVar 0)) ((tCons (tC (.int 1)) (tNil))))))))))
theorem pure_root_of {K : PySem.W.Frag} {ca : Str → Addr} (vs : List V) (H : Hp) (Q : VK) (E : XK) (h : sp_root_of K ca vs H Q E) : vs.length = 1 ∧ t_root_of K ca E { nx := fun _ H2 => Q .non H2, rt := Q } (start ["text", "length"] vs) H := by
  obtain ⟨G, text_v, hin, pv, p0, k⟩ := h
  obtain ⟨v_text_v, w0, rfl, h_text_v, pv0⟩ := rpa_cons pv
  obtain rfl := rpa_nil pv0
  refine ⟨rfl, ?_⟩
  unfold m_root_of at k
  unfold t_root_of
  refine s_first (k := 1) (p := (fun length_v => ((decide ((Int.fmod (List.length text_v : Int) length_v) = (0 : Int))) && (decide ((List.replicate ((Int.fdiv (List.length text_v : Int) length_v)).toNat (cutL text_v none (some length_v))).flatten = text_v))))) (f := (fun length_v => ((dP dS dI) ((cutL text_v none (some length_v)), (Int.fdiv (List.length text_v : Int) length_v))))) (fun σ1 => ∃ y1_0, σ1 = (List.set (start ["text", "length"] [v_text_v]) 1 y1_0)) (ei_rng2 (ea_cons ev_int (ea_cons (ev_cb (ea_cons (ev_var rfl h_text_v) ea_nil) (cav_lenS (by walk_at "sd"))) ea_nil)) (by walk_at "sd") (by walk_at "sd") (by walk_at "sd") (by walk_at "sd")) hin ⟨_, rfl⟩ (fun length_v z1 σ1 G1 H1 x1 s1 u1 h1 D1 kr1 kn1 => ?_) (fun length_v f1 => ?_) (fun f1 σ1 G1 H1 s1 w1 => ?_)
  · obtain ⟨y1_0, rfl⟩ := s1
    exact s_if (et_and (et_test (ev_op (ev_op (ev_cb (ea_cons (ev_var rfl (Rp.mono u1.g h_text_v)) ea_nil) (cav_lenS (by walk_at "sd"))) (ev_var rfl h1) (opv_mod (by walk_at "sd"))) ev_int opv_eqI)) (fun g2 => (et_test (ev_op (ev_op (ev_slS (ev_var rfl (Rp.mono u1.g h_text_v)) eo_none (eo_some (ev_var rfl h1)) (by walk_at "sd")) (ev_op (ev_cb (ea_cons (ev_var rfl (Rp.mono u1.g h_text_v)) ea_nil) (cav_lenS (by walk_at "sd"))) (ev_var rfl h1) (opv_fdiv (by walk_at "sd"))) (opv_mulSI (by walk_at "sd") (by walk_at "sd"))) (ev_var rfl (Rp.mono u1.g h_text_v)) opv_eqS)))) u1.i (fun g3 G3 H3 u3 => s_ret (ev_tup (ea_cons (ev_slS (ev_var rfl (Rp.mono u3.g (Rp.mono u1.g h_text_v))) eo_none (eo_some (ev_var rfl (Rp.mono u3.g h1))) (by walk_at "sd")) (ea_cons (ev_op (ev_cb (ea_cons (ev_var rfl (Rp.mono u3.g (Rp.mono u1.g h_text_v))) ea_nil) (cav_lenS (by walk_at "sd"))) (ev_var rfl (Rp.mono u3.g h1)) (opv_fdiv (by walk_at "sd"))) ea_nil)) (by simp)) u3.i (fun v G2 H2 w r => kr1 g3 v G2 H2 (Up.trans u3 w) r)) (fun g3 G3 H3 u3 => kn1 g3 _ G3 H3 ⟨_, rfl⟩ u3)
  · rw [f1] at k
    exact k
  · rw [f1] at k
    obtain ⟨y1_0, rfl⟩ := s1
    exact s_ret (ev_tup (ea_cons (ev_var rfl (Rp.mono w1.g h_text_v)) (ea_cons ev_int ea_nil)) (by simp)) w1.i (fun v G2 H2 w r => k v G2 H2 (Up.trans w1 w) r)
-- root
def m_root (word_v : W) : (W × Int) := (m_root_of (word_v))
def sp_root (K : PySem.W.Frag) (ca : Str → Addr) : Sp := fun vs H Q E => ∃ (G : Hp) (word_v : W), In G H ∧ RpA K G vs [(dS word_v)] ∧ (wordB word_v = true) ∧ (List.length word_v ≤ 2000) ∧ Ret K G H Q ((dP dS dI) (m_root word_v))
theorem c_root {K : PySem.W.Frag} {ca : Str → Addr} {E : XK} (word_v : W) (p0 : wordB word_v = true) (p1 : List.length word_v ≤ 2000) : SpV K (sp_root K ca) E [(dS word_v)] ((dP dS dI) (m_root word_v)) := fun G H vs hi pv Q q => ⟨G, word_v, hi, pv, p0, p1, q⟩
def t_root (K : PySem.W.Frag) (ca : Str → Addr) (E : XK) : TS := (tSeq ((tDrop ((tCall (sp_need_word K ca) [] E ((tCons ((tVar 0)) (tNil))))))) ((tRet ((tCall (sp_root_of K ca) [] E ((tCons ((tVar 0)) (tNil))))))))
theorem pure_root {K : PySem.W.Frag} {ca : Str → Addr} (vs : List V) (H : Hp) (Q : VK) (E : XK) (h : sp_root K ca vs H Q E) : vs.length = 1 ∧ t_root K ca E { nx := fun _ H2 => Q .non H2, rt := Q } (start ["word"] vs) H := by
  obtain ⟨G, word_v, hin, pv, p0, p1, k⟩ := h
  obtain ⟨v_word_v, w0, rfl, h_word_v, pv0⟩ := rpa_cons pv
  obtain rfl := rpa_nil pv0
  refine ⟨rfl, ?_⟩
  unfold m_root at k
  unfold t_root
  refine s_drop (ev_call (ea_cons (ev_var rfl h_word_v) ea_nil) (c_need_word (word_v) (by walk_at "sd") (by walk_at "sd"))) hin fun v1 G1 H1 u1 r1 => ?_
  exact s_ret (ev_call (ea_cons (ev_var rfl (Rp.mono u1.g h_word_v)) ea_nil) (c_root_of (word_v) (by walk_at "sd"))) u1.i (fun v G2 H2 w r => k v G2 H2 (Up.trans u1 w) r)
-- ring_places
def m_ring_places (text_v : W) (piece_v : W) : (List Int) := (List.map (fun z1_v => z1_v.1) (List.filter (fun z1_v => (decide (z1_v.2 = piece_v))) (enumT (m_ring_stretches (text_v) ((List.length piece_v : Int))))))
def sp_ring_places (K : PySem.W.Frag) (ca : Str → Addr) : Sp := fun vs H Q E => ∃ (G : Hp) (text_v : W) (piece_v : W), In G H ∧ RpA K G vs [(dS text_v), (dS piece_v)] ∧ (List.length text_v ≤ 10000) ∧ (List.length piece_v ≤ 10000) ∧ Ret K G H Q ((dL dI) (m_ring_places text_v piece_v))
theorem c_ring_places {K : PySem.W.Frag} {ca : Str → Addr} {E : XK} (text_v : W) (piece_v : W) (p0 : List.length text_v ≤ 10000) (p1 : List.length piece_v ≤ 10000) : SpV K (sp_ring_places K ca) E [(dS text_v), (dS piece_v)] ((dL dI) (m_ring_places text_v piece_v)) := fun G H vs hi pv Q q => ⟨G, text_v, piece_v, hi, pv, p0, p1, q⟩
def t_ring_places (K : PySem.W.Frag) (ca : Str → Addr) (E : XK) : TS := (tRet ((tLc ((iEnum K ((tCons ((tCall (sp_ring_stretches K ca) [] E ((tCons ((tVar 0)) ((tCons ((tCB (rLenU K) ((tCons ((tVar 1)) (tNil))))) (tNil))))))) (tNil))))) ((gTup K 2 (gCons (gName 2) (gCons (gName 3) gNil)))) ((tTest (tOp (rEq) ((tVar 3)) ((tVar 1))))) ((tVar 2)) [2, 3])))
theorem pure_ring_places {K : PySem.W.Frag} {ca : Str → Addr} (vs : List V) (H : Hp) (Q : VK) (E : XK) (h : sp_ring_places K ca vs H Q E) : vs.length = 2 ∧ t_ring_places K ca E { nx := fun _ H2 => Q .non H2, rt := Q } (start ["text", "piece", "at", "stretch"] vs) H := by
  obtain ⟨G, text_v, piece_v, hin, pv, p0, p1, k⟩ := h
  obtain ⟨v_text_v, w0, rfl, h_text_v, pv0⟩ := rpa_cons pv
  obtain ⟨v_piece_v, w1, rfl, h_piece_v, pv1⟩ := rpa_cons pv0
  obtain rfl := rpa_nil pv1
  refine ⟨rfl, ?_⟩
  unfold m_ring_places at k
  unfold t_ring_places
  exact s_ret (ev_lcF2 (DE := dI) (by decide) (ei_enumT (ea_cons (ev_call (ea_cons (ev_var rfl h_text_v) (ea_cons (ev_cb (ea_cons (ev_var rfl h_piece_v) ea_nil) (cav_lenS (by first | walk_at "sd" | (simp only [enumT, m_ring_stretches, rng_len, List.length_map, List.length_zipIdx]; omega)))) ea_nil)) (c_ring_stretches (text_v) ((List.length piece_v : Int)) (by first | walk_at "sd" | (simp only [enumT, m_ring_stretches, rng_len, List.length_map, List.length_zipIdx]; omega)) (by first | walk_at "sd" | (simp only [enumT, m_ring_stretches, rng_len, List.length_map, List.length_zipIdx]; omega)))) ea_nil)) (fun z1_v z2 G2 x2 y2 l2 h2_1 h2_2 => (et_test (ev_op (ev_var rfl h2_2) (ev_var rfl (Rp.mono l2 h_piece_v)) opv_eqS))) (fun z1_v z2 p2 G2 x2 y2 l2 h2_1 h2_2 => (ev_var rfl h2_1)) (by first | walk_at "sd" | (simp only [enumT, m_ring_stretches, rng_len, List.length_map, List.length_zipIdx]; omega))) hin (fun v G2 H2 w r => k v G2 H2 w r)
end Z

namespace Z
open PySem PySem.Spec PyProof.Rows L2
abbrev kS (l : W) : Key := Sum.inr (S l)
def cntS (acc : List (Key × Int)) (x : W) : List (Key × Int) := putE acc (kS x) ((valK acc (kS x)).getD 0 + 1)
def cntE (xs : List W) : List (Key × Int) := xs.foldl cntS []
def m_counted (some_v : List W) : List (Key × Int) := mrgE ((sortKs (cntE some_v)).map fun one_v => (kS one_v, (valK (cntE some_v) (kS one_v)).getD 0))
theorem putE_keys {α : Type} (es : List (Key × α)) (k : Key) (v : α) {e : Key × α} (h : e ∈ putE es k v) : e.1 = k ∨ ∃ v', (e.1, v') ∈ es := by
  unfold putE at h
  split at h
  · obtain ⟨x, hx, rfl⟩ := List.mem_map.mp h
    by_cases hk : x.1 = k
    · left; simp [hk]
    · right; rw [if_neg hk]; exact ⟨x.2, hx⟩
  · rcases List.mem_append.mp h with h | h
    · exact .inr ⟨e.2, h⟩
    · simp at h; subst h; exact .inl rfl
theorem strKs_put {α : Type} {es : List (Key × α)} (h : strKs es) (l : W) (v : α) : strKs (putE es (kS l) v) := fun e he => by
  rcases putE_keys es (kS l) v he with q | ⟨v', q⟩
  · exact ⟨l, q⟩
  · exact h (e.1, v') q
theorem strKs_cnt : ∀ (xs : List W) (acc : List (Key × Int)), strKs acc → strKs (xs.foldl cntS acc)
  | [], _, h => h
  | x :: xs, acc, h => strKs_cnt xs _ (strKs_put h x _)
theorem cnt_len : ∀ (xs : List W) (acc : List (Key × Int)), (xs.foldl cntS acc).length ≤ acc.length + xs.length
  | [], acc => by simp
  | x :: xs, acc => by
    rw [List.foldl_cons]
    have h1 := cnt_len xs (cntS acc x)
    have h2 : (cntS acc x).length ≤ acc.length + 1 := putE_len _ _ _
    rw [List.length_cons]
    omega
theorem cnt_take (xs : List W) {i : Nat} {z : W} (h : xs[i]? = some z) : cntE (xs.take (i + 1)) = cntS (cntE (xs.take i)) z := by
  have hlt := (List.getElem?_eq_some_iff.mp h).1
  have ez := (List.getElem?_eq_some_iff.mp h).2
  unfold cntE
  rw [List.take_succ_eq_append_getElem hlt, List.foldl_append, ez]
  rfl
theorem put_map {α β : Type} (f : α → β) (es : List (Key × α)) (k : Key) (v : α) : (putE es k v).map (fun e => (e.1, f e.2)) = putE (es.map fun e => (e.1, f e.2)) k (f v) := by
  have := mrg_map f [(k, v)] es
  simpa using this
theorem valK_keys {α : Type} {es : List (Key × α)} {k : Key} (h : k ∈ es.map (·.1)) : (valK es k).isSome = true := by
  obtain ⟨e, he, rfl⟩ := List.mem_map.mp h
  unfold valK
  cases hf : es.find? (fun x => decide (x.1 = e.1)) with
  | none =>
    have := List.find?_eq_none.mp hf e he
    simp at this
  | some x => rfl
theorem sortKs_mem {α : Type} {es : List (Key × α)} (hs : strKs es) {l : W} (h : l ∈ sortKs es) : kS l ∈ es.map (·.1) := by
  have h2 : l ∈ es.map fun e => keyW e.1 := (List.mergeSort_perm _ _).mem_iff.mp h
  obtain ⟨e, he, rfl⟩ := List.mem_map.mp h2
  obtain ⟨m, hm⟩ := hs e he
  refine List.mem_map.mpr ⟨e, he, ?_⟩
  rw [hm]
  show _ = Sum.inr (S (S m).cps.toList)
  rw [S_cps]
def sp_counted (K : PySem.W.Frag) (ca : Str → Addr) : Sp := fun vs H Q E => ∃ (G : Hp) (some_v : List W), In G H ∧ RpA K G vs [dL dS some_v] ∧ some_v.length < 64 ∧ Ret K G H Q (dM dI (m_counted some_v))
theorem c_counted {K : PySem.W.Frag} {ca : Str → Addr} {E : XK} (some_v : List W) (h : some_v.length < 64) : SpV K (sp_counted K ca) E [dL dS some_v] (dM dI (m_counted some_v)) := fun G H vs hi pv Q q => ⟨G, some_v, hi, pv, h, q⟩
def t_counted (K : PySem.W.Frag) (ca : Str → Addr) (E : XK) : TS := (tSeq ((tAsg (tDNewK) (gName 1))) ((tSeq ((tFor ((iList K ((tVar 0)))) ((gName 2)) ((sDPut ((tVar 1)) ((tVar 2)) ((tOp (rI0 fun i j => .int (i + j)) ((tDGet2 ((tVar 1)) ((tVar 2)) (tC (.int 0)))) (tC (.int 1)))))))) ((tRet ((tDc ((iList K ((tCB (rSortDk) ((tCons ((tVar 1)) (tNil))))))) ((gName 2)) (tYes) ((tVar 2)) ((tDGet ((tVar 1)) ((tVar 2)))) [2])))))))
theorem pure_counted {K : PySem.W.Frag} {ca : Str → Addr} (vs : List V) (H : Hp) (Q : VK) (E : XK) (h : sp_counted K ca vs H Q E) : vs.length = 1 ∧ t_counted K ca E { nx := fun _ H2 => Q .non H2, rt := Q } (start ["some", "found", "one"] vs) H := by
  obtain ⟨G, xs, hin, pv, hl, k⟩ := h
  obtain ⟨v, ws, rfl, h0, pv⟩ := rpa_cons pv
  obtain rfl := rpa_nil pv
  refine ⟨rfl, ?_⟩
  intro m hm
  have i1 : In G (upd H m (.dK [])) := (Up.hid (o := .dK []) hin hm).i
  have gm : G m = none := hin.no hm
  refine s_dict (m := m) (xs := xs) (DD := dS) (f := fun i => (cntE (xs.take i)).map fun e => (e.1, dI e.2)) (Sl := fun σ1 => ∃ v2, σ1 = [some v, some (.ref m), v2]) (ei_list (ev_var rfl h0)) i1 gm ⟨_, rfl⟩ ⟨[], upd_same, .nil⟩ ?_ ?_
  · rintro i z hz σ1 G1 H1 x kvs ⟨v2, rfl⟩ j1 l1 n1 e1 r1 px D2 kk
    obtain rfl := rp_str px
    have rv := r1.val (k := kS z)
    -- found[one] = found.get(one, 0) + 1
    refine ⟨.ref m, rfl, m, rfl, .inl ⟨kvs, .inl e1⟩, .str (S z), rfl, valV kvs (kS z), .inl ⟨kvs, kS z, .inl e1, rfl, rfl⟩, ?_⟩
    have key : ∃ n, (valV kvs (kS z)).getD (.int 0) = .int n ∧ n = (valK (cntE (xs.take i)) (kS z)).getD 0 := by
      rcases rv with ⟨z1, z2⟩ | ⟨w, d, z1, z2, z3⟩
      · rw [valK_map] at z2
        refine ⟨0, by rw [z1]; rfl, ?_⟩
        cases hq : valK (cntE (xs.take i)) (kS z) with
        | none => rfl
        | some n => rw [hq] at z2; cases z2
      · rw [valK_map] at z2
        cases hq : valK (cntE (xs.take i)) (kS z) with
        | none => rw [hq] at z2; cases z2
        | some n =>
          rw [hq] at z2
          cases z2
          exact ⟨n, by rw [z1]; exact rp_int z3, rfl⟩
    obtain ⟨n, en, en2⟩ := key
    refine ⟨n, 1, en, rfl, .ref m, rfl, .str (S z), rfl, m, upd H1 m (.dK (putK kvs (kS z) (.int (n + 1)))), rfl, .inl ⟨kvs, kS z, e1, rfl, ?_, rfl⟩, ?_⟩
    · rw [r1.len, List.length_map]
      have h1 := cnt_len (xs.take i) []
      have h2 : (xs.take i).length ≤ xs.length := by rw [List.length_take]; omega
      have h3 : (cntE (xs.take i)).length ≤ 64 := by
        unfold cntE
        simp only [List.length_nil, Nat.zero_add] at h1
        omega
      exact Nat.lt_of_le_of_lt h3 (by decide)
    · refine kk _ G1 _ _ ⟨_, rfl⟩ (j1.mut n1) (Le.refl _) n1 (fun a ha o e => by rw [upd_ne ha]; exact e) (fun a o e => .inl e) upd_same ?_
      rw [cnt_take xs hz]
      unfold cntS
      rw [put_map, ← en2]
      exact r1.put (.int _)
  · rintro σ2 G2 H2 kvs2 ⟨v2, rfl⟩ j2 l2 n2 k2 w2 e2 r2
    -- the dict is shown now
    have l3 : Le G2 (upd G2 m (.dK kvs2)) := fun a o e => by
      have ne : a ≠ m := fun z => by subst z; rw [n2] at e; cases e
      rw [upd_ne ne]; exact e
    have i3 : In (upd G2 m (.dK kvs2)) H2 := fun a o e => by
      by_cases ha : a = m
      · subst ha; rw [upd_same] at e; cases e; exact .inl e2
      · rw [upd_ne ha] at e; exact j2 a o e
    rw [List.take_length] at r2
    have hd : Rp K (upd G2 m (.dK kvs2)) (.ref m) (dM dI (cntE xs)) := .dic upd_same (rpe_to (r2.mono l3))
    have hks : strKs (cntE xs) := strKs_cnt xs [] (fun e he => by cases he)
    have hlen : (cntE xs).length < 64 := by
      have := cnt_len xs []
      unfold cntE
      simp only [List.length_nil, Nat.zero_add] at this
      omega
    refine s_ret (ev_dcM (k := 2) (DE := dI) (D := dS) (xs := sortKs (cntE xs)) (κ := fun l => kS l) (M := fun l => (valK (cntE xs) (kS l)).getD 0) (ei_list (ev_cb (ea_cons (ev_var rfl hd) ea_nil) (cav_sortKs ⟨hks, hlen⟩))) (fun z _ G1 x l hx => ev_var rfl hx) (fun z hz G1 x l hx => ev_dgetS (ev_var rfl (hd.mono l)) (ev_var rfl hx) (valK_keys (sortKs_mem hks hz))) ?_) i3 fun r G4 H4 u4 p4 => k r G4 H4 ⟨?_, u4.i, ?_, ?_⟩ p4
    · unfold sortKs sortW
      rw [List.length_mergeSort, List.length_map]
      omega
    · exact l2.trans (l3.trans u4.g)
    · intro a o e
      have ne : a ≠ m := fun z => by subst z; rw [hm] at e; cases e
      exact u4.h a o (k2 a ne o (by rw [upd_ne ne]; exact e))
    · intro a o e
      rcases u4.n a o e with q | q
      · by_cases ha : a = m
        · subst ha; exact .inr hm
        · rw [upd_ne ha] at q
          rcases w2 a o q with z | z
          · exact .inl z
          · rw [upd_ne ha] at z; exact .inr z
      · refine .inr ?_
        cases hh : H a with
        | none => rfl
        | some o' =>
          have ne : a ≠ m := fun z => by subst z; rw [hm] at hh; cases hh
          rw [k2 a ne o' (by rw [upd_ne ne]; exact hh)] at q
          cases q
theorem strKs_fold {α : Type} : ∀ (es acc : List (Key × α)), strKs acc → strKs es → strKs (es.foldl (fun acc e => putE acc e.1 e.2) acc)
  | [], _, h, _ => h
  | e :: es, acc, h, h2 => by
    rw [List.foldl_cons]
    refine strKs_fold es _ ?_ (fun x hx => h2 x (List.mem_cons_of_mem _ hx))
    obtain ⟨l, hl⟩ := h2 e List.mem_cons_self
    rw [hl]
    exact strKs_put h l _
theorem strKs_mrg {α β : Type} (xs : List β) (κ : β → W) (f : β → α) : strKs (mrgE (xs.map fun z => ((Sum.inr (S (κ z)) : Key), f z))) :=
  strKs_fold _ [] (fun e he => by cases he) fun e he => by
    obtain ⟨z, _, rfl⟩ := List.mem_map.mp he
    exact ⟨κ z, rfl⟩
theorem mrg_lt {α β : Type} {xs : List β} {f : β → Key × α} {n : Nat} (h : xs.length < n) : (mrgE (xs.map f)).length < n := by
  have := mrg_len (xs.map f) []
  rw [List.length_map] at this
  unfold mrgE
  simp only [List.length_nil, Nat.zero_add] at this
  omega
def m_is_ring : PyData → Bool
  | .str s => wordB s.cps.toList && decide (m_least_turn s.cps.toList = s.cps.toList)
  | _ => false
def okR : PyData → Prop
  | .str s => s.cps.toList.length ≤ 10000
  | _ => True
def sp_is_ring (K : PySem.W.Frag) (ca : Str → Addr) : Sp := fun vs H Q E => ∃ (G : Hp) (d : PyData), In G H ∧ RpA K G vs [d] ∧ okR d ∧ Ret K G H Q (.bool (m_is_ring d))
def sp_need_ring (K : PySem.W.Frag) (ca : Str → Addr) : Sp := fun vs H Q E => ∃ (G : Hp) (d : PyData), In G H ∧ RpA K G vs [d] ∧ okR d ∧ (m_is_ring d = true → Ret K G H Q .none) ∧ (m_is_ring d = false → Rse G H E (ca "BadRing"))
theorem c_is_ring' {K : PySem.W.Frag} {ca : Str → Addr} {E : XK} (d : PyData) (h : okR d) : SpV K (sp_is_ring K ca) E [d] (.bool (m_is_ring d)) := fun G H vs hi pv Q q => ⟨G, d, hi, pv, h, q⟩
def m_is_ringW (l : W) : Bool := wordB l && decide (m_least_turn l = l)
theorem c_is_ring {K : PySem.W.Frag} {ca : Str → Addr} {E : XK} (l : W) (h : List.length l ≤ 10000) : SpV K (sp_is_ring K ca) E [dS l] (dB (m_is_ringW l)) := by
  have := c_is_ring' (K := K) (ca := ca) (E := E) (dS l) (by show (S l).cps.toList.length ≤ 10000; rw [S_cps]; exact h)
  have e : m_is_ring (dS l) = m_is_ringW l := by
    show (wordB (S l).cps.toList && decide (m_least_turn (S l).cps.toList = (S l).cps.toList)) = _
    rw [S_cps]
    rfl
  rw [e] at this
  exact this
theorem c_need_ring {K : PySem.W.Frag} {ca : Str → Addr} {E : XK} (l : W) (h : wordB l = true) (hl : List.length l ≤ 10000) (hr : m_least_turn l = l) : SpV K (sp_need_ring K ca) E [dS l] .none := fun G H vs hi pv Q q => by
  have e : m_is_ring (dS l) = true := by
    show (wordB (S l).cps.toList && decide (m_least_turn (S l).cps.toList = (S l).cps.toList)) = true
    rw [S_cps, h, hr]
    simp
  exact ⟨G, dS l, hi, pv, by show (S l).cps.toList.length ≤ 10000; rw [S_cps]; exact hl, fun _ => q, fun e' => by rw [e] at e'; cases e'⟩
def t_is_ring (K : PySem.W.Frag) (ca : Str → Addr) (E : XK) : TS := (tRet ((tAndV ((tCall (sp_is_word K ca) [] E ((tCons ((tVar 0)) (tNil))))) ((tOp (rEq) ((tCall (sp_least_turn K ca) [] E ((tCons ((tVar 0)) (tNil))))) ((tVar 0)))))))
def t_need_ring (K : PySem.W.Frag) (ca : Str → Addr) (E : XK) : TS := (tIfS ((tNot ((tB ((tCall (sp_is_ring K ca) [] E ((tCons ((tVar 0)) (tNil))))))))) ((tRaise (fun cls d _ H => E cls d H) (fun _ H Q => Q (.ref (ca "BadRing")) none H))) (tNext))
theorem pure_is_ring {K : PySem.W.Frag} {ca : Str → Addr} (vs : List V) (H : Hp) (Q : VK) (E : XK) (h : sp_is_ring K ca vs H Q E) : vs.length = 1 ∧ t_is_ring K ca E { nx := fun _ H2 => Q .non H2, rt := Q } (start ["value"] vs) H := by
  obtain ⟨G, d, hin, pv, hd, k⟩ := h
  obtain ⟨v, ws, rfl, h0, pv⟩ := rpa_cons pv
  obtain rfl := rpa_nil pv
  refine ⟨rfl, ?_⟩
  have hd2 : okD d := by
    cases d with
    | str s => have : s.cps.toList.length ≤ 10000 := hd; show s.cps.toList.length ≤ 100000; omega
    | _ => trivial
  refine s_ret (ev_and (ev_call (ea_cons (ev_var rfl h0) ea_nil) (c_is_word d hd2)) (b := .bool (m_is_ring d)) (fun e => ?_) (fun e => ?_)) hin k
  · cases d with
    | str s =>
      have hs : s.cps.toList.length ≤ 10000 := hd
      have e' : wordB s.cps.toList = true := e
      have h0' : Rp K G v (dS s.cps.toList) := by rw [dS, S_eta]; exact h0
      have := ev_op (ev_call (sp := sp_least_turn K ca) (E := E) (ea_cons (ev_var (i := 0) (σ := start ["value"] [v]) rfl h0') ea_nil) (c_least_turn s.cps.toList hs (word_ne e'))) (ev_var (i := 0) (σ := start ["value"] [v]) rfl h0') opv_eqS
      have e2 : decide (m_least_turn s.cps.toList = s.cps.toList) = m_is_ring (.str s) := by
        show _ = (wordB s.cps.toList && _)
        rw [e', Bool.true_and]
      rw [e2] at this
      exact this
    | _ => cases e
  · cases d with
    | str s =>
      have e' : wordB s.cps.toList = false := e
      show PyData.bool (wordB s.cps.toList && _) = _
      rw [e', Bool.false_and]
    | _ => rfl
theorem pure_need_ring {K : PySem.W.Frag} {ca : Str → Addr} (vs : List V) (H : Hp) (Q : VK) (E : XK) (h : sp_need_ring K ca vs H Q E) : vs.length = 1 ∧ t_need_ring K ca E { nx := fun _ H2 => Q .non H2, rt := Q } (start ["ring"] vs) H := by
  obtain ⟨G, d, hin, pv, hd, k1, k2⟩ := h
  obtain ⟨v, ws, rfl, h0, pv⟩ := rpa_cons pv
  obtain rfl := rpa_nil pv
  refine ⟨rfl, ?_⟩
  refine s_if (et_not (et_B (ev_call (ea_cons (ev_var rfl h0) ea_nil) (c_is_ring' d hd)))) hin (fun e G2 H2 u => ?_) (fun e G2 H2 u => ?_)
  · exact k2 (by simpa using e) G2 H2 u
  · exact k1 (by simpa using e) .non G2 H2 u .non
end Z

namespace Z
open PySem PySem.Spec PyProof.Rows L2
def partner (c : Nat) : Nat := if c = 97 then 116 else if c = 99 then 103 else if c = 103 then 99 else 97
def partners : List (Str × Str) := [(S [97], S [116]), (S [99], S [103]), (S [103], S [99]), (S [116], S [97])]
def m_strand_of (z : W) : W := z.reverse.map partner
theorem partner_mem {c : Nat} (h : c ∈ acgt) : (S [c], S [partner c]) ∈ partners := by
  have : ∀ c ∈ acgt, (S [c], S [partner c]) ∈ partners := by decide +kernel
  exact this c h
def sp_strand_of (K : PySem.W.Frag) (ca : Str → Addr) : Sp := fun vs H Q E => ∃ (G : Hp) (z : W), In G H ∧ RpA K G vs [dS z] ∧ lineB z = true ∧ z.length ≤ 10000 ∧ KTab K (ca "PARTNERS") partners ∧ Ret K G H Q (dS (m_strand_of z))
theorem c_strand_of {K : PySem.W.Frag} {ca : Str → Addr} {E : XK} (z : W) (h : lineB z = true) (hz : z.length ≤ 10000) (t : KTab K (ca "PARTNERS") partners) : SpV K (sp_strand_of K ca) E [dS z] (dS (m_strand_of z)) := fun G H vs hi pv Q q => ⟨G, z, hi, pv, h, hz, t, q⟩
def t_strand_of (K : PySem.W.Frag) (ca : Str → Addr) (E : XK) : TS := tRet (tM1 (rJoin K) (tC (.str "")) (tLc (iStr (tRevS (tVar 0))) (gName 1) tYes (tOp (rKd K (ca "PARTNERS")) (tC (.ref (ca "PARTNERS"))) (tVar 1)) [1]))
theorem pure_strand_of {K : PySem.W.Frag} {ca : Str → Addr} (vs : List V) (H : Hp) (Q : VK) (E : XK) (h : sp_strand_of K ca vs H Q E) : vs.length = 1 ∧ t_strand_of K ca E { nx := fun _ H2 => Q .non H2, rt := Q } (start ["text", "sign"] vs) H := by
  obtain ⟨G, z, hin, pv, hl, hz, t, k⟩ := h
  obtain ⟨v, ws, rfl, rv, pv⟩ := rpa_cons pv
  obtain rfl := rpa_nil pv
  refine ⟨rfl, ?_⟩
  unfold t_strand_of
  refine s_ret (ev_joinC (l := m_strand_of z) (ev_lit (l := []) (by decide +kernel)) (ev_lcM (DE := dC) (k := 1) (M := partner) (ei_str (ev_revS (ev_var (i := 0) rfl rv) (by omega))) (fun c hc G1 x1 l1 h1 => ev_kd t (partner_mem ?_) (ev_var (i := 1) rfl h1)) (by rw [List.length_reverse]; omega)) (by unfold m_strand_of; rw [List.length_map, List.length_reverse]; omega)) hin k
  unfold lineB at hl
  exact of_decide_eq_true (List.all_eq_true.mp hl c (List.mem_reverse.mp hc))
end Z

namespace Z
open PySem PySem.Spec PyProof.Rows
section
variable {prog : Program} {w : World} {A : Around} {E : Value → Shared → Prop} {s : Shared} {z TI TO T i1 i2 : Addr} {fp1 fp2 : List Addr} {n1 n2 i : Nat} {P1 P2 : Nat → Value → Prop} {St1 St2 : Nat → Heap → Prop} {f : Bool} {oT : Obj}
/-- the next pair of a zip over any two iterators, the tuple given out before still there -/
theorem zipH_item {Q : Value → Shared → Prop} (S : ZipSep2 z TI TO i1 i2 fp1 fp2) (D1 : Draws prog w A i1 fp1 n1 P1 St1) (D2 : Draws prog w A i2 fp2 n2 P2 St2)
    (hz : IsZipHeld s.heap z TI TO T f) (hT : s.heap.get? T = some oT) (hTI : IsTupOf2 s.heap TI (.ref i1) (.ref i2)) (st1 : St1 i s.heap) (st2 : St2 i s.heap) (hlt1 : i < n1) (hlt2 : i < n2)
    (hQ : ∀ x1 x2 h' tk, P1 i x1 → P2 i x2 → IsZipHeld h' z TI TO T true → St1 (i + 1) h' → St2 (i + 1) h' → IsTupOf2 h' s.heap.objs.size x1 x2 → h'.objs.size = s.heap.objs.size + 1 →
      (∀ c o, c ≠ z → c ≠ i1 → c ≠ i2 → s.heap.get? c = some o → h'.get? c = some o) → Q (.ref s.heap.objs.size) { s with heap := h', toks := tk }) :
    wpAny (model prog w) A (Builtin.«zip.__next__» ⟨[.ref z], []⟩) (fun fin s' => ∃ v, fin = .done (.ret v) ∧ Q v s') E s := by
  show wpAny _ _ (field (.ref z) 2 >>= _) _ _ _
  refine wpAny_bind (wpAny_field hz rfl (x := .bool false) rfl ?_)
  show wpAny _ _ (field (.ref z) 3 >>= _) _ _ _
  refine wpAny_bind (wpAny_field hz rfl (x := .ref TI) rfl ?_)
  refine wpAny_bind (wpAny_seqItems hTI rfl ?_)
  show wpAny _ _ (Builtin.SmallTypes.ownedTupleIsFree (.ref z) >>= _) _ _ _
  refine wpAny_bind (wpAny_tupleHeld_zip hz hT fun h1 hz1 hs1 => ?_)
  simp only [Bool.false_eq_true, if_false]
  refine wpAny_bind ?_
  rw [← Array.forIn_toList]
  simp only [List.forIn_cons, List.forIn_nil]
  refine wpAny_bind (wpAny_bind (wpAny_holding ?_))
  show wpAny _ _ (Builtin.SmallTypes.nextOf (.ref i1) >>= _) _ _ _
  have k1 : ∀ b ∈ fp1, ∀ o, s.heap.get? b = some o → h1.get? b = some o := fun b hb o e => hs1.extBut b o (fun q => S.zf1 (q ▸ hb)) e
  have k2 : ∀ b ∈ fp2, ∀ o, s.heap.get? b = some o → h1.get? b = some o := fun b hb o e => hs1.extBut b o (fun q => S.zf2 (q ▸ hb)) e
  refine wpAny_bind (D1.item i { s with heap := h1 } _ _ hlt1 (D1.frame i _ _ st1 k1) fun x1 h2 tk2 p1 st1' hs2 => wpAny_pure ?_)
  refine wpAny_pure ?_
  refine wpAny_bind (wpAny_bind (wpAny_holding ?_))
  show wpAny _ _ (Builtin.SmallTypes.nextOf (.ref i2) >>= _) _ _ _
  have k3 : ∀ b ∈ fp2, ∀ o, h1.get? b = some o → h2.get? b = some o := fun b hb o e => hs2.extBut b o (fun q => S.sep1_2 (q ▸ hb)) e
  refine wpAny_bind (D2.item i { s with heap := h2, toks := tk2 } _ _ hlt2 (D2.frame i _ _ (D2.frame i _ _ st2 k2) k3) fun x2 h3 tk3 p2 st2' hs3 => wpAny_pure ?_)
  refine wpAny_pure (wpAny_pure ?_)
  show wpAny _ _ (newTuple [x1, x2] >>= _) _ _ _
  refine wpAny_bind (wpAny_newTuple ?_)
  have hsz : h3.objs.size = s.heap.objs.size := by rw [hs3.1]; show h2.objs.size = _; rw [hs2.1]; show h1.objs.size = _; rw [hs1.1]
  have hz3 : IsZipHeld h3 z TI TO T true := hs3.extBut _ _ S.zi2 (hs2.extBut _ _ S.zi1 hz1)
  have hk : ∀ c o, c ≠ z → c ≠ i1 → c ≠ i2 → s.heap.get? c = some o → h3.get? c = some o := fun c o c1 c2 c3 e => hs3.extBut _ _ c3 (hs2.extBut _ _ c2 (hs1.extBut _ _ c1 e))
  have st1'' : St1 (i + 1) h3 := D1.frame _ _ _ st1' fun b hb o e => hs3.extBut b o (fun q => S.sep2_1 (q ▸ hb)) e
  refine wpAny_pure ⟨_, rfl, ?_⟩
  show Q (.ref h3.objs.size) _
  have hp : IsTupOf2 (h3.push { cls := .type "tuple", data := .seq #[x1, x2] }) h3.objs.size x1 x2 := Heap.get?_push_size _ rfl
  have hz4 : (h3.push { cls := .type "tuple", data := .seq #[x1, x2] }).objs.size = h3.objs.size + 1 := Heap.size_push ..
  rw [hsz] at hp hz4 ⊢
  exact hQ x1 x2 _ tk3 p1 p2 (Heap.get?_push_of_some _ hz3) (D1.frame _ _ _ st1'' fun b _ o e => Heap.get?_push_of_some _ e) (D2.frame _ _ _ st2' fun b _ o e => Heap.get?_push_of_some _ e) hp hz4 fun c o c1 c2 c3 e => Heap.get?_push_of_some _ (hk c o c1 c2 c3 e)
/-- its end, both of the same length -/
theorem zipH_end {Q : Fin → Shared → Prop} (S : ZipSep2 z TI TO i1 i2 fp1 fp2) (D1 : Draws prog w A i1 fp1 n1 P1 St1)
    (hz : IsZipHeld s.heap z TI TO T f) (hT : s.heap.get? T = some oT) (hTI : IsTupOf2 s.heap TI (.ref i1) (.ref i2)) (st1 : St1 n1 s.heap)
    (hE : ∀ h' e tk, (∀ c o, c ≠ z → c ≠ i1 → c ≠ i2 → s.heap.get? c = some o → h'.get? c = some o) → (∃ o, h'.get? e = some o ∧ o.cls = .type "StopIteration") → E (.ref e) { s with heap := h', toks := tk }) :
    wpAny (model prog w) A (Builtin.«zip.__next__» ⟨[.ref z], []⟩) Q E s := by
  show wpAny _ _ (field (.ref z) 2 >>= _) _ _ _
  refine wpAny_bind (wpAny_field hz rfl (x := .bool false) rfl ?_)
  show wpAny _ _ (field (.ref z) 3 >>= _) _ _ _
  refine wpAny_bind (wpAny_field hz rfl (x := .ref TI) rfl ?_)
  refine wpAny_bind (wpAny_seqItems hTI rfl ?_)
  show wpAny _ _ (Builtin.SmallTypes.ownedTupleIsFree (.ref z) >>= _) _ _ _
  refine wpAny_bind (wpAny_tupleHeld_zip hz hT fun h1 hz1 hs1 => ?_)
  simp only [Bool.false_eq_true, if_false]
  refine wpAny_bind ?_
  rw [← Array.forIn_toList]
  simp only [List.forIn_cons, List.forIn_nil]
  refine wpAny_bind (wpAny_bind (wpAny_holding ?_))
  show wpAny _ _ (Builtin.SmallTypes.nextOf (.ref i1) >>= _) _ _ _
  have k1 : ∀ b ∈ fp1, ∀ o, s.heap.get? b = some o → h1.get? b = some o := fun b hb o e => hs1.extBut b o (fun q => S.zf1 (q ▸ hb)) e
  refine wpAny_bind (D1.done { s with heap := h1 } _ _ (D1.frame _ _ _ st1 k1) fun h2 e hs2 he => ?_)
  exact hE h2 e s.toks (fun c o c1 c2 _ x => hs2 _ _ c2 (hs1.extBut _ _ c1 x)) he
theorem nextH_item {Q : Option Value → Shared → Prop} (S : ZipSep2 z TI TO i1 i2 fp1 fp2) (D1 : Draws prog w A.in1 i1 fp1 n1 P1 St1) (D2 : Draws prog w A.in1 i2 fp2 n2 P2 St2)
    (hz : IsZipHeld s.heap z TI TO T f) (hT : s.heap.get? T = some oT) (hTI : IsTupOf2 s.heap TI (.ref i1) (.ref i2)) (st1 : St1 i s.heap) (st2 : St2 i s.heap) (hlt1 : i < n1) (hlt2 : i < n2)
    (hQ : ∀ x1 x2 h' tk, P1 i x1 → P2 i x2 → IsZipHeld h' z TI TO T true → St1 (i + 1) h' → St2 (i + 1) h' → IsTupOf2 h' s.heap.objs.size x1 x2 → h'.objs.size = s.heap.objs.size + 1 →
      (∀ c o, c ≠ z → c ≠ i1 → c ≠ i2 → s.heap.get? c = some o → h'.get? c = some o) → Q (some (.ref s.heap.objs.size)) { s with heap := h', toks := tk }) : wpAny (model prog w) A (pyNext (.ref z)) Q E s := by
  have hTy : s.TypeIs (.ref z) "zip" := ⟨_, hz, rfl⟩
  unfold pyNext
  exact wpAny_bind (wpAny_attempt (wpAny_callSpecial?_slot (name := Str.ofString "__next__") hTy F.slot_zip_next
    (wpAny_call_entry F.slot_zip_next hTy F.entry_zip_next
      (zipH_item S D1 D2 hz hT hTI st1 st2 hlt1 hlt2 fun x1 x2 h' tk a1 a2 a3 a4 a5 a6 a7 a8 => wpAny_pure (hQ x1 x2 h' tk a1 a2 a3 a4 a5 a6 a7 a8)) (F.args_zip_next_1 _))))
theorem nextH_end {Q : Option Value → Shared → Prop} (S : ZipSep2 z TI TO i1 i2 fp1 fp2) (D1 : Draws prog w A.in1 i1 fp1 n1 P1 St1)
    (hz : IsZipHeld s.heap z TI TO T f) (hT : s.heap.get? T = some oT) (hTI : IsTupOf2 s.heap TI (.ref i1) (.ref i2)) (st1 : St1 n1 s.heap)
    (hQ : ∀ h' tk, (∀ c o, c ≠ z → c ≠ i1 → c ≠ i2 → s.heap.get? c = some o → h'.get? c = some o) → Q none { s with heap := h', toks := tk }) : wpAny (model prog w) A (pyNext (.ref z)) Q E s := by
  have hTy : s.TypeIs (.ref z) "zip" := ⟨_, hz, rfl⟩
  unfold pyNext
  refine wpAny_bind (wpAny_attempt (wpAny_callSpecial?_slot (name := Str.ofString "__next__") hTy F.slot_zip_next
    (wpAny_call_entry F.slot_zip_next hTy F.entry_zip_next (zipH_end S D1 hz hT hTI st1 fun h' e tk hk he => ?_) (F.args_zip_next_1 _))))
  obtain ⟨o, ho, hc⟩ := he
  refine wpAny_bind (wpAny_isInstance (T := "StopIteration") (b := true) ⟨o, ho, hc⟩ isSubtype_stop ?_)
  exact wpAny_pure (hQ _ _ hk)
end
end Z

namespace Y
open PySem PySem.Spec PyProof.Rows L2 Z
/-- the pairs of zip(text, text), both of one length -/
theorem pairZip {prog : Program} {w : World} (z TI TO i1 i2 : Addr) (x y : Str) (t1 t2 : Tok) (S : ZipSep2 z TI TO i1 i2 [i1] [i2]) (hl : x.cps.size = y.cps.size) :
    PairArg prog w "zip" z [z, TI, TO, i1, i2] [z, TO, i1, i2] x.cps.size (fun i k v => (∃ c u, x.cps[i]? = some c ∧ k = .str ⟨#[c]⟩ u) ∧ ∃ c u, y.cps[i]? = some c ∧ v = .str ⟨#[c]⟩ u)
      (fun h => IsZip h z TI TO .none ∧ IsTupOf2 h TI (.ref i1) (.ref i2) ∧ (∃ a b, IsTupOf2 h TO a b) ∧ h.IsStrIter i1 (strIterType x) x t1 0 ∧ h.IsStrIter i2 (strIterType y) y t2 0) where
  type := fun s ok => ⟨_, ok.1, rfl⟩
  notDict := by decide
  keep := fun h h' ok hk => by
    obtain ⟨hz, hTI, ⟨a, b, hTO⟩, h1, h2⟩ := ok
    exact ⟨hk _ _ hz, hk _ _ hTI, ⟨a, b, hk _ _ hTO⟩, let ⟨o, e, r⟩ := h1; ⟨o, hk _ o e, r⟩, let ⟨o, e, r⟩ := h2; ⟨o, hk _ o e, r⟩⟩
  there := fun h ok b hb => by
    obtain ⟨hz, hTI, ⟨a, c, hTO⟩, ⟨o1, h1, _⟩, ⟨o2, h2, _⟩⟩ := ok
    simp only [List.mem_cons, List.not_mem_nil, or_false] at hb
    rcases hb with rfl | rfl | rfl | rfl | rfl
    all_goals first | exact ⟨_, hz⟩ | exact ⟨_, hTI⟩ | exact ⟨_, hTO⟩ | exact ⟨_, h1⟩ | exact ⟨_, h2⟩
  sub := fun b hb => by simp at hb ⊢; rcases hb with rfl | rfl | rfl | rfl <;> simp
  noKeys := fun A s Q E hA ok h => getAttrOr_miss_zip ok.1 rfl rfl rfl zip_no_keys (by decide +kernel) hA h
  iter := fun A s d Q E hA ok hd hdf h => by
    obtain ⟨hz, hTI, ⟨a, b, hTO⟩, h1, h2⟩ := ok
    simp only [List.mem_cons, List.not_mem_nil, or_false, not_or] at hdf
    obtain ⟨dz, dTI, dTO, di1, di2⟩ := hdf
    have D1 := Draws.text (prog := prog) (w := w) (A := A.in1) hA i1 x t1
    have D2 := Draws.text (prog := prog) (w := w) (A := A.in1) hA i2 y t2
    refine wpAny_pyIter_zip hz (h z [z, TO, i1, i2] (fun i h => IsTupOf2 h TI (.ref i1) (.ref i2) ∧ h.IsStrIter i1 (strIterType x) x t1 i ∧ h.IsStrIter i2 (strIterType y) y t2 i ∧
      ((IsZip h z TI TO .none ∧ ∃ a b, IsTupOf2 h TO a b) ∨ ∃ T f oT, IsZipHeld h z TI TO T f ∧ h.get? T = some oT ∧ T ≠ z ∧ T ≠ i1 ∧ T ≠ i2 ∧ T ≠ d)) s.heap s.toks ?_
      ⟨hTI, h1, h2, .inl ⟨hz, a, b, hTO⟩⟩ (fun _ _ e => e) fun b hb => .inl hb)
    exact {
      off := fun hm => by
        simp only [List.mem_cons, List.not_mem_nil, or_false] at hm
        rcases hm with e | e | e | e
        · exact dz e
        · exact dTO e
        · exact di1 e
        · exact di2 e
      frame := fun i h₁ h₂ st hk => by
        obtain ⟨hTI, h1, h2, hz⟩ := st
        refine ⟨hk _ _ (Ne.symm dTI) hTI, (let ⟨o, e, r⟩ := h1; ⟨o, hk _ o (Ne.symm di1) e, r⟩), (let ⟨o, e, r⟩ := h2; ⟨o, hk _ o (Ne.symm di2) e, r⟩), ?_⟩
        rcases hz with ⟨hz, a, b, hTO⟩ | ⟨T, f, oT, hz, hT, r1, r2, r3, r4⟩
        · exact .inl ⟨hk _ _ (Ne.symm dz) hz, a, b, hk _ _ (Ne.symm dTO) hTO⟩
        · exact .inr ⟨T, f, oT, hk _ _ (Ne.symm dz) hz, hk _ _ r4 hT, r1, r2, r3, r4⟩
      item := fun i s₁ Q₁ E₁ hi st hds hQ => by
        obtain ⟨hTI, h1, h2, hz⟩ := st
        have lt : ∀ {c o}, s₁.heap.get? c = some o → s₁.heap.objs.size ≠ c := fun e => Nat.ne_of_gt (Heap.lt_size e)
        have n1 : s₁.heap.objs.size ≠ i1 := let ⟨_, e, _⟩ := h1; lt e
        have n2 : s₁.heap.objs.size ≠ i2 := let ⟨_, e, _⟩ := h2; lt e
        rcases hz with ⟨hz, a, b, hTO⟩ | ⟨T, f, oT, hz, hT, r1, r2, r3, r4⟩
        · refine wpAny_pyNext_zipD2_item S D1 D2 hz hTI hTO h1 h2 hi (by omega) fun x1 x2 h' tk p1 p2 a1 a2 a3 a4 a5 a6 hk => ?_
          exact hQ s₁.heap.objs.size _ _ h' tk ⟨p1, p2⟩ (.inl ⟨_, a5, rfl, _, rfl⟩)
            ⟨hk _ _ S.TIz S.TITO S.TIi1 S.TIi2 hTI, a3, a4, .inr ⟨s₁.heap.objs.size, false, _, a1, a5, lt hz, n1, n2, Nat.ne_of_gt hds⟩⟩
            fun c o hc e => hk c o (fun x => hc (by simp [x])) (fun x => hc (by simp [x])) (fun x => hc (by simp [x])) (fun x => hc (by simp [x])) e
        · refine nextH_item S D1 D2 hz hT hTI h1 h2 hi (by omega) fun x1 x2 h' tk p1 p2 a1 a3 a4 a5 a6 hk => ?_
          exact hQ s₁.heap.objs.size _ _ h' tk ⟨p1, p2⟩ (.inl ⟨_, a5, rfl, _, rfl⟩)
            ⟨hk _ _ S.TIz S.TIi1 S.TIi2 hTI, a3, a4, .inr ⟨T, true, oT, a1, hk _ _ r1 r2 r3 hT, r1, r2, r3, r4⟩⟩
            fun c o hc e => hk c o (fun x => hc (by simp [x])) (fun x => hc (by simp [x])) (fun x => hc (by simp [x])) e
      done := fun s₁ Q₁ E₁ st hQ => by
        obtain ⟨hTI, h1, h2, hz⟩ := st
        rcases hz with ⟨hz, a, b, hTO⟩ | ⟨T, f, oT, hz, hT, r1, r2, r3, r4⟩
        · exact wpAny_pyNext_zipD2_end S D1 D2 hz hTI hTO h1 h2 (Nat.le_refl _) (by omega) (.inl rfl) fun h' tk hk => hQ h' tk fun c o hc e => hk c o (fun x => hc (by simp [x])) (fun x => hc (by simp [x])) (fun x => hc (by simp [x])) (fun x => hc (by simp [x])) e
        · exact nextH_end S D1 hz hT hTI h1 fun h' tk hk => hQ h' tk fun c o hc e => hk c o (fun x => hc (by simp [x])) (fun x => hc (by simp [x])) (fun x => hc (by simp [x])) e }
theorem zipK_get : ∀ (a b : List Nat) (i : Nat) {c d : Nat}, a[i]? = some c → b[i]? = some d → (zipK a b)[i]? = some (.inr (S [c]), .str (S [d]))
  | a :: as, b :: bs, 0, c, d, h1, h2 => by
    cases h1; cases h2; rfl
  | a :: as, b :: bs, i + 1, c, d, h1, h2 => zipK_get as bs i (c := c) (d := d) h1 h2
theorem zipK_len : ∀ (a b : List Nat), a.length = b.length → (zipK a b).length = a.length
  | [], [], _ => rfl
  | a :: as, b :: bs, h => by
    simp only [List.length_cons] at h
    simp [zipK, zipK_len as bs (by omega)]
theorem mergeK_take (l : List (Key × V)) (i : Nat) {p : Key × V} (h : l[i]? = some p) : mergeK [] (l.take (i + 1)) = putK (mergeK [] (l.take i)) p.1 p.2 := by
  have : l.take (i + 1) = l.take i ++ [p] := by
    rw [List.take_add_one, h]; rfl
  rw [this]
  unfold mergeK
  rw [List.foldl_append]
  rfl
theorem mergeK_len (l : List (Key × V)) : ∀ kvs : List (Key × V), (mergeK kvs l).length ≤ kvs.length + l.length := by
  induction l with
  | nil => intro kvs; exact Nat.le_refl _
  | cons p l ih =>
    intro kvs
    have e : mergeK kvs (p :: l) = mergeK (putK kvs p.1 p.2) l := rfl
    rw [e]
    have h1 := ih (putK kvs p.1 p.2)
    have h2 := length_putK kvs p.1 p.2
    simp only [List.length_cons]
    omega
section
variable {X : Cx}
theorem pe_dictZip {a b : Str} {j1 j2 : Nat} {pd pz p1 p2 zpos pos : Pos} (hg : Gl X "dict") (hm : X.mg "dict" = none) (hm2 : X.mg "zip" = none) (hg2 : Gl X "zip") (hl : a.cps.size = b.cps.size := by decide) (hs : a.cps.size ≤ 100 := by decide) (hc : X.calm = true := by rfl) :
    PE X (.Call (.Name "dict" pd) [.Call (.Name "zip" pz) [.Constant (.str a) j1 p1, .Constant (.str b) j2 p2] [] zpos] [] pos) (tDictZip a b) := by
  refine ⟨fun pins s σ H Q I h => ?_⟩
  refine Call_ (ld_blt I hg hm PyProof.Rows.boot_dict (PyProof.Rows.callWith_type1 ?_ rfl rfl))
  show wpAny _ _ (spliced ((false, eval (.Call (.Name "zip" pz) [.Constant (.str a) j1 p1, .Constant (.str b) j2 p2] [] zpos) X.env) :: backTo pos (starEach [] X.env))) _ _ s
  refine Calls.spliced_cons (Call_ (ld_blt I hg2 hm2 PyProof.Rows.boot_zip (PyProof.Rows.callWith_type1 ?_ rfl rfl)))
  show wpAny _ _ (spliced ((false, eval (.Constant (.str a) j1 p1) X.env) :: (false, eval (.Constant (.str b) j2 p2) X.env) :: backTo zpos (starEach [] X.env))) _ _ s
  refine Calls.spliced_cons (Calls.Constant_str ?_)
  refine Calls.spliced_cons (Calls.Constant_str ?_)
  refine Calls.spliced_nil ?_
  refine zip_begins2 (begins_text a _) (begins_text b _) trivial trivial fun h1 hz hTI hTO e1 e2 hsz hk => ?_
  refine Calls.spliced_nil ?_
  have hh : X.A.handled = none := I.ok.hd hc
  generalize hN : s.heap.objs.size = N at hz hTI hTO e1 e2 hsz ⊢
  have SS : ZipSep2 (N + 4) (N + 2) (N + 3) N (N + 1) [N] [N + 1] := zip_sep2 (fun _ h => nomatch h) (fun _ h => nomatch h)
  have P := pairZip (prog := X.prog) (w := X.w) (N + 4) (N + 2) (N + 3) N (N + 1) a b s.toks (s.toks + 1) SS hl
  refine call_dict_arg P ⟨hz, hTI, ⟨_, _, hTO⟩, ⟨_, e1, rfl, rfl⟩, ⟨_, e2, rfl, rfl⟩⟩ ?_
  rintro s1 rfl hn ok1
  have hlz : (zipK a.cps.toList b.cps.toList).length = a.cps.size := by
    rw [zipK_len _ _ (by rw [Array.length_toList, Array.length_toList]; exact hl), Array.length_toList]
  have lenB : ∀ i, (mergeK [] ((zipK a.cps.toList b.cps.toList).take i)).length ≤ 100 := fun i => by
    have h1 := mergeK_len ((zipK a.cps.toList b.cps.toList).take i) []
    have h2 : ((zipK a.cps.toList b.cps.toList).take i).length ≤ (zipK a.cps.toList b.cps.toList).length := List.length_take_le' ..
    simp only [List.length_nil] at h1
    omega
  have hz100 : 100 ≤ sizeLine := by decide
  refine updateFrom_arg (Tab := fun i h => ∃ vs, KV (mergeK [] ((zipK a.cps.toList b.cps.toList).take i)) vs ∧ h.DictOf (mixKind X.prog X.w) h1.objs.size vs) P .none hh ok1 hn ⟨[], .nil, Heap.DictOf.new h1⟩
    (fun i h ⟨vs, _, dd⟩ => let ⟨o, es, ep, ho, r⟩ := dd; Heap.lt_size ho)
    (fun i h h' wr' hd _ ⟨vs, kv, dd⟩ hk => let ⟨o, es, ep, ho, r⟩ := dd; ⟨vs, kv, o, es, ep, hk _ o hd ho, r⟩)
    (fun i k v s2 Q2 E2 hi ⟨⟨c, u, ec, ek⟩, ⟨d, u2, ed, ev⟩⟩ ⟨vs, kv, dd⟩ _ hQ => ?_) (fun h' tk ⟨vs, kv, dd⟩ hkp => ?_)
  · subst ek ev
    have hg : (zipK a.cps.toList b.cps.toList)[i]? = some (.inr (S [c]), .str (S [d])) := zipK_get _ _ i (by rw [Array.getElem?_toList]; exact ec) (by rw [Array.getElem?_toList]; exact ed)
    have hv : vs.length ≤ sizeLine := by rw [← kv.length]; exact Nat.le_trans (lenB i) hz100
    refine wpAny_dictSet_pairs (hsz := hv) (kV_is (k := .inr (S [c])) ⟨u, rfl⟩) dd fun h' dd' hs' => hQ h' _ ⟨_, ?_, dd'⟩ hs'
    rw [mergeK_take _ i hg]
    exact kv.put (.inr (S [c])) ⟨u2, rfl⟩
  · have hfull : (zipK a.cps.toList b.cps.toList).take a.cps.size = zipK a.cps.toList b.cps.toList := List.take_of_length_le (Nat.le_of_eq hlz)
    have kv := hfull ▸ kv
    have hge : s.heap.objs.size ≤ h1.objs.size := by rw [hsz, hN]; exact Nat.le_add_right _ _
    have hmo : (h1.objs.size == sysModules) = false := beq_eq_false_iff_ne.mpr (Nat.ne_of_gt (Nat.lt_of_lt_of_le I.big hge))
    have hb := lenB a.cps.size
    rw [hfull] at hb
    refine ⟨rfl, .ref h1.objs.size, upd H h1.objs.size (.dK (mergeK [] (zipK a.cps.toList b.cps.toList))), I.laid (t' := tk) (h' := h') (fun b o e => ?_) hge (show ObjOk X.prog X.w _ _ _ (.dK _) from ⟨Nat.le_trans hb hz100, hmo, vs, kv, dd⟩), rfl, h _ (I.hok.fresh hge)⟩
    have hlt : b < N := hN ▸ Heap.lt_size e
    have hlt' : (b : Nat) < N := hlt
    have hN5 : N ≤ h1.objs.size := by rw [hsz]; exact Nat.le_add_right _ _
    refine hkp b o (Nat.ne_of_lt (Nat.lt_of_lt_of_le hlt hN5)) (fun q => ?_) (Heap.get?_push_of_some _ (hk b o e))
    simp only [List.mem_cons, List.not_mem_nil, or_false] at q
    rcases q with q | q | q | q
    · exact Nat.ne_of_lt (Nat.lt_of_lt_of_le hlt (Nat.le_add_right N 4)) q
    · exact Nat.ne_of_lt (Nat.lt_of_lt_of_le hlt (Nat.le_add_right N 3)) q
    · exact Nat.ne_of_lt hlt q
    · exact Nat.ne_of_lt (Nat.lt_of_lt_of_le hlt (Nat.le_add_right N 1)) q
end
end Y

namespace Y
open PySem PySem.Spec PyProof.Rows L2 Z
/-- an object that holds no object -/
def scalO : D → Bool
  | .lst ds => ds.all scal
  | .dic es => es.all fun e => scal e.2
  | _ => false
/-- a builtin's new object; of ours it may look at, if the new one holds no object -/
def eCOV (g : List D → Option D) (fa : Env → M (List Vl)) : Env → M Vl := fun env => (fa env).bind fun xs => (M.of (g (dats xs))).bind fun d => if !(xs.any isV) || scalO d then .ok (.o, d) else .bad
section
variable {k : Kx} {E : XK} {R : Hp} {dr : Dr} {env : Env} {σ : L2.St} {G G2 H H2 : Hp} {n n' : Nat} {Q : VK}
theorem rpA_scal : ∀ {xs : List V} {ds : List D}, ds.all scal = true → RpA k G xs ds → RpA k G2 xs ds
  | _, _, _, .nil => .nil
  | _, _, h, .cons a b => by
    simp only [List.all_cons, Bool.and_eq_true] at h
    exact .cons (rp_scal h.1 a) (rpA_scal h.2 b)
theorem rpD_scal : ∀ {xs : List (Key × V)} {ds : List (Ky × D)}, (ds.all fun e => scal e.2) = true → RpD k G xs ds → RpD k G2 xs ds
  | _, _, _, .nil => .nil
  | _, _, h, .cons a b => by
    simp only [List.all_cons, Bool.and_eq_true] at h
    exact .cons (rp_scal h.1 a) (rpD_scal h.2 b)
theorem rpO_scal {o : HO} {d : D} (h : scalO d = true) (r : RpO k G o d) : RpO k G2 o d := by
  cases r with
  | lst a => exact .lst (rpA_scal h a)
  | dic a => exact .dic (rpD_scal h a)
theorem se_cov {r : List V → Hp → VK → Prop} {g : List D → Option D} {tr : TA} {fr : Env → M (List Vl)} (ho : CaO k r g) (hr : SA k E tr fr) : SE k E (tCB r tr) (eCOV g fr) := fun R dr env σ G H n Q rl w => by
  refine hr R dr env σ G H n _ rl (wp_mono (wp_bind' w) (fun dr n1 vs w1 xs G1 H1 l1 r1 s1 => ?_) fun _ _ _ h => h)
  obtain ⟨d, hd, w3⟩ := wp_of.mp (wp_bind' w1)
  by_cases hc : (!(vs.any isV) || scalO d) = true
  · rw [if_pos hc] at w3
    by_cases hv : vs.any isV = true
    · have hs : scalO d = true := by simpa [hv] using hc
      obtain ⟨G', l, i, _, q1, q2⟩ := r1.revealA
      refine ho G' H1 xs _ d i (q2 xs vs s1) hd Q fun p o hp ro => ?_
      have ro := rpO_scal (G2 := G1) hs ro
      exact w3 _ G1 _ l1 (r1.new hp) ⟨p, rfl, (r1.newO hp ro).1, (r1.newO hp ro).2⟩
    · refine ho G1 H1 xs _ d r1.i (rss_s (by simpa using hv) s1) hd Q fun p o hp ro => ?_
      exact w3 _ G1 _ l1 (r1.new hp) ⟨p, rfl, (r1.newO hp ro).1, (r1.newO hp ro).2⟩
  · rw [if_neg hc] at w3; exact w3.elim
end
end Y

namespace Y
open PySem PySem.Spec PyProof.Rows L2 Z
def XT : List (Str × Str × Bool) := [("BadWord", "BadIndex", false), ("BadWord", "BadWord", true), ("BadRing", "BadIndex", false), ("BadRing", "BadWord", false), ("BadLength", "BadIndex", false), ("BadLength", "BadWord", false), ("BadIndex", "BadIndex", true), ("BadIndex", "BadWord", false)]
def CAT : List Str := ["BadWord", "BadRing", "BadLength", "BadIndex"]
def t_is_integer (k : Kx) (E : XK) : TS := (tRet ((tAndV ((tCB (rIsA k.K) ((tCons (tVar 0) ((tCons (tC (.ty "int")) (tNil))))))) ((tNotV ((tCB (rIsA k.K) ((tCons (tVar 0) ((tCons (tC (.ty "bool")) (tNil))))))))))))
def b_is_integer : Env → M Out := (bRet ((eAndV ((eCB (isiD XT) ((eCons (eVar 0) ((eCons (eC (.ty "int")) (eNil))))))) ((eNotV ((eCB (isiD XT) ((eCons (eVar 0) ((eCons (eC (.ty "bool")) (eNil))))))))))))
def m_is_integer : List D → M Vl := bodyM 1 1 b_is_integer
theorem s_is_integer {k : Kx} (hXT : XTab k XT) (E : XK) : SS k E (t_is_integer k E) b_is_integer := (ss_ret (se_andV (se_cb (cs_isi hXT) (sa_cons se_var (sa_cons se_ty sa_nil))) (se_notV (se_cb (cs_isi hXT) (sa_cons se_var (sa_cons se_ty sa_nil))))))
def t_is_between (k : Kx) (E : XK) : TS := (tRet ((tAndV ((tCall (spM k m_is_integer) [] E ((tCons (tVar 0) (tNil))))) ((tChain (rI0 fun i j => .bl (decide (i ≤ j))) (rI0 fun i j => .bl (decide (i ≤ j))) (tVar 1) (tVar 0) (tVar 2))))))
def b_is_between : Env → M Out := (bRet ((eAndV ((eCall m_is_integer ((eCons (eVar 0) (eNil))))) ((eChain leD leD (eVar 1) (eVar 0) (eVar 2))))))
def m_is_between : List D → M Vl := bodyM 3 3 b_is_between
theorem s_is_between {k : Kx} (E : XK) : SS k E (t_is_between k E) b_is_between := (ss_ret (se_andV (se_call (sa_cons se_var sa_nil)) (se_chain os_le os_le se_var se_var se_var)))
def t_is_line (k : Kx) (E : XK) : TS := (tRet ((tAndV ((tCB (rIsA k.K) ((tCons (tVar 0) ((tCons (tC (.ty "str")) (tNil))))))) ((tCB (rAll k.K) ((tCons ((tLc ((iAnyD k.K (tVar 0))) ((gName 1)) (tYes) ((tOp (qInA k.K) (tVar 1) (tC (.str "acgt")))) [1])) (tNil))))))))
def b_is_line : Env → M Out := (bRet ((eAndV ((eCB (isiD XT) ((eCons (eVar 0) ((eCons (eC (.ty "str")) (eNil))))))) ((eCB allD ((eCons ((eLc ((eItA (eVar 0))) ((eTgN 1)) (eYes) ((eOp inAB (eVar 1) (eC (.str [97, 99, 103, 116])))) [1])) (eNil))))))))
def m_is_line : List D → M Vl := bodyM 1 2 b_is_line
theorem s_is_line {k : Kx} (hXT : XTab k XT) (E : XK) : SS k E (t_is_line k E) b_is_line := (ss_ret (se_andV (se_cb (cs_isi hXT) (sa_cons se_var (sa_cons se_ty sa_nil))) (se_cb cs_all (sa_cons (se_lc (si_anyD se_var) tg_name st_yes (se_op os_inA se_var (se_str (by decide +kernel)))) sa_nil))))
def t_is_word (k : Kx) (E : XK) : TS := (tRet ((tAndV ((tCall (spM k m_is_line) [] E ((tCons (tVar 0) (tNil))))) ((tOp (rI0 fun i j => .bl (decide (j < i))) ((tCB (qLen k.K) ((tCons (tVar 0) (tNil))))) (tC (.int 0)))))))
def b_is_word : Env → M Out := (bRet ((eAndV ((eCall m_is_line ((eCons (eVar 0) (eNil))))) ((eOp gtD ((eCB lenD ((eCons (eVar 0) (eNil))))) (eC (.int 0)))))))
def m_is_word : List D → M Vl := bodyM 1 1 b_is_word
theorem s_is_word {k : Kx} (E : XK) : SS k E (t_is_word k E) b_is_word := (ss_ret (se_andV (se_call (sa_cons se_var sa_nil)) (se_op os_gt (se_cb cs_len (sa_cons se_var sa_nil)) se_int)))
def t_need_word (k : Kx) (E : XK) : TS := (tIfS ((tNot ((tB ((tCall (spM k m_is_word) [] E ((tCons (tVar 0) (tNil))))))))) ((tRaise (fun cls d _ H => E cls d H) (fun _ H Q => Q (.ref (k.ca "BadWord")) none H))) (tNext))
def b_need_word : Env → M Out := (bIf ((eNot ((eB ((eCall m_is_word ((eCons (eVar 0) (eNil))))))))) ((bRaise "BadWord")) (bNext))
def m_need_word : List D → M Vl := bodyM 1 1 b_need_word
theorem s_need_word {k : Kx} (E : XK) : SS k E (t_need_word k E) b_need_word := (ss_if (st_not (st_b (se_call (sa_cons se_var sa_nil)))) ss_raise ss_next)
def t_need_length (k : Kx) (E : XK) : TS := (tIfS ((tNot ((tB ((tCall (spM k m_is_between) [] E ((tCons (tVar 0) ((tCons (tC (.int 1)) ((tCons (tC (.int 120)) (tNil))))))))))))) ((tRaise (fun cls d _ H => E cls d H) (fun _ H Q => Q (.ref (k.ca "BadLength")) none H))) (tNext))
def b_need_length : Env → M Out := (bIf ((eNot ((eB ((eCall m_is_between ((eCons (eVar 0) ((eCons (eC (.int 1)) ((eCons (eC (.int 120)) (eNil))))))))))))) ((bRaise "BadLength")) (bNext))
def m_need_length : List D → M Vl := bodyM 1 1 b_need_length
theorem s_need_length {k : Kx} (E : XK) : SS k E (t_need_length k E) b_need_length := (ss_if (st_not (st_b (se_call (sa_cons se_var (sa_cons se_int (sa_cons se_int sa_nil)))))) ss_raise ss_next)
def t_counted (k : Kx) (E : XK) : TS := (tSeq ((tAsg (tDNewK) (gName 1))) ((tSeq ((tFor ((iAnyD k.K (tVar 0))) ((gName 2)) ((sDPut (tVar 1) (tVar 2) ((tOp (qAdd k.K) ((tDGet2 (tVar 1) (tVar 2) (tC (.int 0)))) (tC (.int 1)))))))) ((tRet ((tDc ((iAnyD k.K ((tCB (qSorted k.K) ((tCons (tVar 1) (tNil))))))) ((gName 2)) (tYes) (tVar 2) ((tOp (qIxA k.K) (tVar 1) (tVar 2))) [2])))))))
def b_counted : Env → M Out := (bSeq ((bSet 1 (eDNew))) ((bSeq ((bFor ((eItA (eVar 0))) ((eTgN 2)) ((bDPut 1 (eVar 2) ((eOp addD ((eDGet2 (eVar 1) (eVar 2) (eC (.int 0)))) (eC (.int 1)))))))) ((bFrz [1] ((bRet ((eDc ((eItA ((eCOV sortedD ((eCons (eVar 1) (eNil))))))) ((eTgN 2)) (eYes) (eVar 2) ((eIxA (eVar 1) (eVar 2))) [2])))))))))
def m_counted : List D → M Vl := bodyM 1 3 b_counted
theorem s_counted {k : Kx} (E : XK) : SS k E (t_counted k E) b_counted := (ss_seq (ss_set se_dnew) (ss_seq (ss_for (si_anyD se_var) tg_name (ss_dput se_var (se_op os_add (se_dget2 se_var se_var se_int) se_int))) (ss_frz (ss_ret (se_dc (si_anyD (se_cov co_sorted (sa_cons se_var sa_nil))) tg_name st_yes se_var (se_ixA se_var se_var))))))
def t_strand_of (k : Kx) (E : XK) : TS := (tRet ((tM1 (rJoin k.K) (tC (.str "")) ((tLc ((iAnyD k.K ((tRevS (tVar 0))))) ((gName 1)) (tYes) ((tOp (rKd k.K (k.ca "PARTNERS")) (tC (.ref (k.ca "PARTNERS"))) (tVar 1))) [1])))))
def b_strand_of : Env → M Out := (bRet ((eJoin (eC (.str [])) ((eLc ((eItA ((eUn revD (eVar 0))))) ((eTgN 1)) (eYes) ((eKd [([97], [116]), ([99], [103]), ([103], [99]), ([116], [97])] (eVar 1))) [1])))))
def m_strand_of : List D → M Vl := bodyM 1 2 b_strand_of
theorem s_strand_of {k : Kx} (KT_PARTNERS : KTab k.K (k.ca "PARTNERS") ([([97], [116]), ([99], [103]), ([103], [99]), ([116], [97])].map fun p : List Nat × List Nat => (S p.1, S p.2))) (E : XK) : SS k E (t_strand_of k E) b_strand_of := (ss_ret (se_join (se_str (by decide +kernel)) (se_lc (si_anyD (se_rev se_var)) tg_name st_yes (se_kd KT_PARTNERS se_var))))
def t_turn_of (k : Kx) (E : XK) : TS := (tRet ((tOp (qAdd k.K) ((L2.tSl (qSl k.K) (tVar 0) ((tPart (tVar 1))) (tNoPart))) ((L2.tSl (qSl k.K) (tVar 0) (tNoPart) ((tPart (tVar 1))))))))
def b_turn_of : Env → M Out := (bRet ((eOp addD ((eSl (eVar 0) ((ePart (eVar 1))) (eNo))) ((eSl (eVar 0) (eNo) ((ePart (eVar 1))))))))
def m_turn_of : List D → M Vl := bodyM 2 2 b_turn_of
theorem s_turn_of {k : Kx} (E : XK) : SS k E (t_turn_of k E) b_turn_of := (ss_ret (se_op os_add (se_sl se_var (so_part se_var) so_no) (se_sl se_var so_no (so_part se_var))))
def t_least_turn (k : Kx) (E : XK) : TS := (tRet ((tCB (rMinD k.K) ((tCons ((tLc ((iRng1 ((tCons ((tCB (qLen k.K) ((tCons (tVar 0) (tNil))))) (tNil))))) ((gName 1)) (tYes) ((tCall (spM k m_turn_of) [] L2.E0 ((tCons (tVar 0) ((tCons (tVar 1) (tNil))))))) [1])) (tNil))))))
def b_least_turn : Env → M Out := (bRet ((eCB minL ((eCons ((eLc ((eRng rngD1 ((eCons ((eCB lenD ((eCons (eVar 0) (eNil))))) (eNil))))) ((eTgN 1)) (eYes) ((eCall m_turn_of ((eCons (eVar 0) ((eCons (eVar 1) (eNil))))))) [1])) (eNil))))))
def m_least_turn : List D → M Vl := bodyM 1 2 b_least_turn
theorem s_least_turn {k : Kx} (E : XK) : SS k E (t_least_turn k E) b_least_turn := (ss_ret (se_cb cs_min (sa_cons (se_lc (si_rng1 (sa_cons (se_cb cs_len (sa_cons se_var sa_nil)) sa_nil)) tg_name st_yes (se_call (sa_cons se_var (sa_cons se_var sa_nil)))) sa_nil)))
def t_is_ring (k : Kx) (E : XK) : TS := (tRet ((tAndV ((tCall (spM k m_is_word) [] E ((tCons (tVar 0) (tNil))))) ((tOp (qEq k.K) ((tCall (spM k m_least_turn) [] E ((tCons (tVar 0) (tNil))))) (tVar 0))))))
def b_is_ring : Env → M Out := (bRet ((eAndV ((eCall m_is_word ((eCons (eVar 0) (eNil))))) ((eOp eqB ((eCall m_least_turn ((eCons (eVar 0) (eNil))))) (eVar 0))))))
def m_is_ring : List D → M Vl := bodyM 1 1 b_is_ring
theorem s_is_ring {k : Kx} (E : XK) : SS k E (t_is_ring k E) b_is_ring := (ss_ret (se_andV (se_call (sa_cons se_var sa_nil)) (se_op os_eq (se_call (sa_cons se_var sa_nil)) se_var)))
def t_need_ring (k : Kx) (E : XK) : TS := (tIfS ((tNot ((tB ((tCall (spM k m_is_ring) [] E ((tCons (tVar 0) (tNil))))))))) ((tRaise (fun cls d _ H => E cls d H) (fun _ H Q => Q (.ref (k.ca "BadRing")) none H))) (tNext))
def b_need_ring : Env → M Out := (bIf ((eNot ((eB ((eCall m_is_ring ((eCons (eVar 0) (eNil))))))))) ((bRaise "BadRing")) (bNext))
def m_need_ring : List D → M Vl := bodyM 1 1 b_need_ring
theorem s_need_ring {k : Kx} (E : XK) : SS k E (t_need_ring k E) b_need_ring := (ss_if (st_not (st_b (se_call (sa_cons se_var sa_nil)))) ss_raise ss_next)
def t_turn (k : Kx) (E : XK) : TS := (tSeq ((tDrop ((tCall (spM k m_need_word) [] E ((tCons (tVar 0) (tNil))))))) ((tSeq ((tIfS ((tNot ((tB ((tCall (spM k m_is_between) [] E ((tCons (tVar 1) ((tCons (tC (.int 0)) ((tCons ((tOp (rI0 fun i j => .int (i - j)) ((tCB (qLen k.K) ((tCons (tVar 0) (tNil))))) (tC (.int 1)))) (tNil))))))))))))) ((tRaise (fun cls d _ H => E cls d H) (fun _ H Q => Q (.ref (k.ca "BadIndex")) none H))) (tNext))) ((tRet ((tCall (spM k m_turn_of) [] E ((tCons (tVar 0) ((tCons (tVar 1) (tNil))))))))))))
def b_turn : Env → M Out := (bSeq ((bDrop ((eCall m_need_word ((eCons (eVar 0) (eNil))))))) ((bSeq ((bIf ((eNot ((eB ((eCall m_is_between ((eCons (eVar 1) ((eCons (eC (.int 0)) ((eCons ((eOp subD ((eCB lenD ((eCons (eVar 0) (eNil))))) (eC (.int 1)))) (eNil))))))))))))) ((bRaise "BadIndex")) (bNext))) ((bRet ((eCall m_turn_of ((eCons (eVar 0) ((eCons (eVar 1) (eNil))))))))))))
def m_turn : List D → M Vl := bodyM 2 2 b_turn
theorem s_turn {k : Kx} (E : XK) : SS k E (t_turn k E) b_turn := (ss_seq (ss_drop (se_call (sa_cons se_var sa_nil))) (ss_seq (ss_if (st_not (st_b (se_call (sa_cons se_var (sa_cons se_int (sa_cons (se_op os_sub (se_cb cs_len (sa_cons se_var sa_nil)) se_int) sa_nil)))))) ss_raise ss_next) (ss_ret (se_call (sa_cons se_var (sa_cons se_var sa_nil))))))
def t_ring_of (k : Kx) (E : XK) : TS := (tSeq ((tDrop ((tCall (spM k m_need_word) [] E ((tCons (tVar 0) (tNil))))))) ((tRet ((tCall (spM k m_least_turn) [] E ((tCons (tVar 0) (tNil))))))))
def b_ring_of : Env → M Out := (bSeq ((bDrop ((eCall m_need_word ((eCons (eVar 0) (eNil))))))) ((bRet ((eCall m_least_turn ((eCons (eVar 0) (eNil))))))))
def m_ring_of : List D → M Vl := bodyM 1 1 b_ring_of
theorem s_ring_of {k : Kx} (E : XK) : SS k E (t_ring_of k E) b_ring_of := (ss_seq (ss_drop (se_call (sa_cons se_var sa_nil))) (ss_ret (se_call (sa_cons se_var sa_nil))))
def t_read_on (k : Kx) (E : XK) : TS := (tRet ((tM1 (rJoin k.K) (tC (.str "")) ((tLc ((iRng1 ((tCons (tVar 2) (tNil))))) ((gName 3)) (tYes) ((tOp (qIxA k.K) (tVar 0) ((tOp (rI (fun _ j => j ≠ 0) fun i j => .int (i.fmod j)) ((tOp (qAdd k.K) (tVar 1) (tVar 3))) ((tCB (qLen k.K) ((tCons (tVar 0) (tNil))))))))) [3])))))
def b_read_on : Env → M Out := (bRet ((eJoin (eC (.str [])) ((eLc ((eRng rngD1 ((eCons (eVar 2) (eNil))))) ((eTgN 3)) (eYes) ((eIxA (eVar 0) ((eOp modD ((eOp addD (eVar 1) (eVar 3))) ((eCB lenD ((eCons (eVar 0) (eNil))))))))) [3])))))
def m_read_on : List D → M Vl := bodyM 3 4 b_read_on
theorem s_read_on {k : Kx} (E : XK) : SS k E (t_read_on k E) b_read_on := (ss_ret (se_join (se_str (by decide +kernel)) (se_lc (si_rng1 (sa_cons se_var sa_nil)) tg_name st_yes (se_ixA se_var (se_op os_mod (se_op os_add se_var se_var) (se_cb cs_len (sa_cons se_var sa_nil)))))))
def t_ring_stretches (k : Kx) (E : XK) : TS := (tRet ((tLc ((iRng1 ((tCons ((tCB (qLen k.K) ((tCons (tVar 0) (tNil))))) (tNil))))) ((gName 2)) (tYes) ((tCall (spM k m_read_on) [] L2.E0 ((tCons (tVar 0) ((tCons (tVar 2) ((tCons (tVar 1) (tNil))))))))) [2])))
def b_ring_stretches : Env → M Out := (bRet ((eLc ((eRng rngD1 ((eCons ((eCB lenD ((eCons (eVar 0) (eNil))))) (eNil))))) ((eTgN 2)) (eYes) ((eCall m_read_on ((eCons (eVar 0) ((eCons (eVar 2) ((eCons (eVar 1) (eNil))))))))) [2])))
def m_ring_stretches : List D → M Vl := bodyM 2 3 b_ring_stretches
theorem s_ring_stretches {k : Kx} (E : XK) : SS k E (t_ring_stretches k E) b_ring_stretches := (ss_ret (se_lc (si_rng1 (sa_cons (se_cb cs_len (sa_cons se_var sa_nil)) sa_nil)) tg_name st_yes (se_call (sa_cons se_var (sa_cons se_var (sa_cons se_var sa_nil))))))
def t_ring_places (k : Kx) (E : XK) : TS := (tRet ((tLc ((iEnum k.K ((tCons ((tCall (spM k m_ring_stretches) [] E ((tCons (tVar 0) ((tCons ((tCB (qLen k.K) ((tCons (tVar 1) (tNil))))) (tNil))))))) (tNil))))) ((gTL k.K 2 (gCons (gName 2) (gCons (gName 3) gNil)))) ((tTest (tOp (qEq k.K) (tVar 3) (tVar 1)))) (tVar 2) [2, 3])))
def b_ring_places : Env → M Out := (bRet ((eLc ((eRng enumA ((eCons ((eCall m_ring_stretches ((eCons (eVar 0) ((eCons ((eCB lenD ((eCons (eVar 1) (eNil))))) (eNil))))))) (eNil))))) ((eTgT 2 (eTgCons (eTgN 2) (eTgCons (eTgN 3) eTgNil)))) ((eB (eOp eqB (eVar 3) (eVar 1)))) (eVar 2) [2, 3])))
def m_ring_places : List D → M Vl := bodyM 2 4 b_ring_places
theorem s_ring_places {k : Kx} (E : XK) : SS k E (t_ring_places k E) b_ring_places := (ss_ret (se_lc (si_enum (sa_cons (se_call (sa_cons se_var (sa_cons (se_cb cs_len (sa_cons se_var sa_nil)) sa_nil))) sa_nil)) (tg_tl (tg_cons tg_name (tg_cons tg_name tg_nil))) (st_test (se_op os_eq se_var se_var)) se_var))
def t_ring_occurrences (k : Kx) (E : XK) : TS := (tSeq ((tDrop ((tCall (spM k m_need_ring) [] E ((tCons (tVar 0) (tNil))))))) ((tSeq ((tDrop ((tCall (spM k m_need_word) [] E ((tCons (tVar 1) (tNil))))))) ((tRet ((tCall (spM k m_ring_places) [] E ((tCons (tVar 0) ((tCons (tVar 1) (tNil))))))))))))
def b_ring_occurrences : Env → M Out := (bSeq ((bDrop ((eCall m_need_ring ((eCons (eVar 0) (eNil))))))) ((bSeq ((bDrop ((eCall m_need_word ((eCons (eVar 1) (eNil))))))) ((bRet ((eCall m_ring_places ((eCons (eVar 0) ((eCons (eVar 1) (eNil))))))))))))
def m_ring_occurrences : List D → M Vl := bodyM 2 2 b_ring_occurrences
theorem s_ring_occurrences {k : Kx} (E : XK) : SS k E (t_ring_occurrences k E) b_ring_occurrences := (ss_seq (ss_drop (se_call (sa_cons se_var sa_nil))) (ss_seq (ss_drop (se_call (sa_cons se_var sa_nil))) (ss_ret (se_call (sa_cons se_var (sa_cons se_var sa_nil))))))
def t_ring_pieces (k : Kx) (E : XK) : TS := (tSeq ((tDrop ((tCall (spM k m_need_ring) [] E ((tCons (tVar 0) (tNil))))))) ((tSeq ((tDrop ((tCall (spM k m_need_length) [] E ((tCons (tVar 1) (tNil))))))) ((tRet ((tCall (spM k m_counted) [] E ((tCons ((tCall (spM k m_ring_stretches) [] E ((tCons (tVar 0) ((tCons (tVar 1) (tNil))))))) (tNil))))))))))
def b_ring_pieces : Env → M Out := (bSeq ((bDrop ((eCall m_need_ring ((eCons (eVar 0) (eNil))))))) ((bSeq ((bDrop ((eCall m_need_length ((eCons (eVar 1) (eNil))))))) ((bRet ((eCall m_counted ((eCons ((eCall m_ring_stretches ((eCons (eVar 0) ((eCons (eVar 1) (eNil))))))) (eNil))))))))))
def m_ring_pieces : List D → M Vl := bodyM 2 2 b_ring_pieces
theorem s_ring_pieces {k : Kx} (E : XK) : SS k E (t_ring_pieces k E) b_ring_pieces := (ss_seq (ss_drop (se_call (sa_cons se_var sa_nil))) (ss_seq (ss_drop (se_call (sa_cons se_var sa_nil))) (ss_ret (se_call (sa_cons (se_call (sa_cons se_var (sa_cons se_var sa_nil))) sa_nil)))))
def t_ring_strand (k : Kx) (E : XK) : TS := (tSeq ((tDrop ((tCall (spM k m_need_ring) [] E ((tCons (tVar 0) (tNil))))))) ((tRet ((tCall (spM k m_least_turn) [] E ((tCons ((tCall (spM k m_strand_of) [] E ((tCons (tVar 0) (tNil))))) (tNil))))))))
def b_ring_strand : Env → M Out := (bSeq ((bDrop ((eCall m_need_ring ((eCons (eVar 0) (eNil))))))) ((bRet ((eCall m_least_turn ((eCons ((eCall m_strand_of ((eCons (eVar 0) (eNil))))) (eNil))))))))
def m_ring_strand : List D → M Vl := bodyM 1 1 b_ring_strand
theorem s_ring_strand {k : Kx} (E : XK) : SS k E (t_ring_strand k E) b_ring_strand := (ss_seq (ss_drop (se_call (sa_cons se_var sa_nil))) (ss_ret (se_call (sa_cons (se_call (sa_cons se_var sa_nil)) sa_nil))))
def t__law_pick (k : Kx) (E : XK) : TS := (tRet ((tOp (qIxA k.K) (tVar 1) ((tCall (spM k m_take) [] E ((tCons (tVar 0) ((tCons ((tCB (qLen k.K) ((tCons (tVar 1) (tNil))))) (tNil))))))))))
def b__law_pick : Env → M Out := (bRet ((eIxA (eVar 1) ((eCall m_take ((eCons (eVar 0) ((eCons ((eCB lenD ((eCons (eVar 1) (eNil))))) (eNil))))))))))
def m__law_pick : List D → M Vl := bodyM 2 2 b__law_pick
theorem s__law_pick {k : Kx} (E : XK) : SS k E (t__law_pick k E) b__law_pick := (ss_ret (se_ixA se_var (se_call (sa_cons se_var (sa_cons (se_cb cs_len (sa_cons se_var sa_nil)) sa_nil)))))
def t__law_signs (k : Kx) (E : XK) : TS := (tRet ((tCall (spM k m__law_pick) [] E ((tCons (tVar 0) ((tCons ((tLst ((tCons (tC (.str "a")) ((tCons (tC (.str "ac")) ((tCons (tC (.str "ag")) ((tCons (tC (.str "ct")) ((tCons (tC (.str "aac")) ((tCons (tC (.str "acg")) ((tCons (tC (.str "acgt")) ((tCons (tC (.str "acgt")) ((tCons (tC (.str "gt")) ((tCons (tC (.str "aaact")) (tNil))))))))))))))))))))))) (tNil))))))))
def b__law_signs : Env → M Out := (bRet ((eCall m__law_pick ((eCons (eVar 0) ((eCons ((eLst ((eCons (eC (.str [97])) ((eCons (eC (.str [97, 99])) ((eCons (eC (.str [97, 103])) ((eCons (eC (.str [99, 116])) ((eCons (eC (.str [97, 97, 99])) ((eCons (eC (.str [97, 99, 103])) ((eCons (eC (.str [97, 99, 103, 116])) ((eCons (eC (.str [97, 99, 103, 116])) ((eCons (eC (.str [103, 116])) ((eCons (eC (.str [97, 97, 97, 99, 116])) (eNil))))))))))))))))))))))) (eNil))))))))
def m__law_signs : List D → M Vl := bodyM 1 1 b__law_signs
theorem s__law_signs {k : Kx} (E : XK) : SS k E (t__law_signs k E) b__law_signs := (ss_ret (se_call (sa_cons se_var (sa_cons (se_lst (sa_cons (se_str (by decide +kernel)) (sa_cons (se_str (by decide +kernel)) (sa_cons (se_str (by decide +kernel)) (sa_cons (se_str (by decide +kernel)) (sa_cons (se_str (by decide +kernel)) (sa_cons (se_str (by decide +kernel)) (sa_cons (se_str (by decide +kernel)) (sa_cons (se_str (by decide +kernel)) (sa_cons (se_str (by decide +kernel)) (sa_cons (se_str (by decide +kernel)) sa_nil))))))))))) sa_nil))))
def t__law_letters (k : Kx) (E : XK) : TS := (tRet ((tM1 (rJoin k.K) (tC (.str "")) ((tLc ((iRng1 ((tCons (tVar 2) (tNil))))) ((gName 3)) (tYes) ((tCall (spM k m__law_pick) [] L2.E0 ((tCons (tVar 0) ((tCons (tVar 1) (tNil))))))) [3])))))
def b__law_letters : Env → M Out := (bRet ((eJoin (eC (.str [])) ((eLc ((eRng rngD1 ((eCons (eVar 2) (eNil))))) ((eTgN 3)) (eYes) ((eCall m__law_pick ((eCons (eVar 0) ((eCons (eVar 1) (eNil))))))) [3])))))
def m__law_letters : List D → M Vl := bodyM 3 4 b__law_letters
theorem s__law_letters {k : Kx} (E : XK) : SS k E (t__law_letters k E) b__law_letters := (ss_ret (se_join (se_str (by decide +kernel)) (se_lc (si_rng1 (sa_cons se_var sa_nil)) tg_name st_yes (se_call (sa_cons se_var (sa_cons se_var sa_nil))))))
def t__law_text (k : Kx) (E : XK) : TS := (tSeq ((tAsg (tTup ((tCons ((tCall (spM k m__law_signs) [] E ((tCons (tVar 0) (tNil))))) ((tCons ((tOp (qAdd k.K) (tC (.int 1)) ((tCall (spM k m_take) [] E ((tCons (tVar 0) ((tCons (tVar 1) (tNil))))))))) (tNil)))))) (gTL k.K 2 (gCons (gName 2) (gCons (gName 3) gNil))))) ((tSeq ((tIfS ((tTest (tOp (rI0 fun i j => .bl (decide (j < i))) ((tCall (spM k m_take) [] E ((tCons (tVar 0) ((tCons (tC (.int 3)) (tNil))))))) (tC (.int 0))))) ((tRet ((tCall (spM k m__law_letters) [] E ((tCons (tVar 0) ((tCons (tVar 2) ((tCons (tVar 3) (tNil))))))))))) (tNext))) ((tSeq ((tPar 4 5 ((tCons ((tLc ((iRng1 ((tCons (tC (.int 2)) (tNil))))) ((gName 6)) (tYes) ((tCall (spM k m__law_letters) [] L2.E0 ((tCons (tVar 0) ((tCons (tVar 2) ((tCons ((tOp (qAdd k.K) (tC (.int 1)) ((tCall (spM k m_take) [] L2.E0 ((tCons (tVar 0) ((tCons (tC (.int 4)) (tNil))))))))) (tNil))))))))) [6])) ((tCons (tC (.str "")) (tNil))))))) ((tSeq ((tFor ((iRng1 ((tCons (tVar 3) (tNil))))) ((gName 6)) ((tAsg ((tOp (qAdd k.K) (tVar 5) ((tCall (spM k m__law_pick) [] E ((tCons (tVar 0) ((tCons (tVar 4) (tNil))))))))) (gName 5))))) ((tRet ((L2.tSl (qSl k.K) (tVar 5) (tNoPart) ((tPart (tVar 3))))))))))))))
def b__law_text : Env → M Out := (bSeq ((bSets [2, 3] ((eCons ((eCall m__law_signs ((eCons (eVar 0) (eNil))))) ((eCons ((eOp addD (eC (.int 1)) ((eCall m_take ((eCons (eVar 0) ((eCons (eVar 1) (eNil))))))))) (eNil))))))) ((bSeq ((bIf ((eB (eOp gtD ((eCall m_take ((eCons (eVar 0) ((eCons (eC (.int 3)) (eNil))))))) (eC (.int 0))))) ((bFrz [2] ((bRet ((eCall m__law_letters ((eCons (eVar 0) ((eCons (eVar 2) ((eCons (eVar 3) (eNil))))))))))))) (bNext))) ((bSeq ((bFrz [2] ((bSets [4, 5] ((eCons ((eLc ((eRng rngD1 ((eCons (eC (.int 2)) (eNil))))) ((eTgN 6)) (eYes) ((eCall m__law_letters ((eCons (eVar 0) ((eCons (eVar 2) ((eCons ((eOp addD (eC (.int 1)) ((eCall m_take ((eCons (eVar 0) ((eCons (eC (.int 4)) (eNil))))))))) (eNil))))))))) [6])) ((eCons (eC (.str [])) (eNil))))))))) ((bSeq ((bFor ((eRng rngD1 ((eCons (eVar 3) (eNil))))) ((eTgN 6)) ((bFrz [4] ((bSet 5 ((eOp addD (eVar 5) ((eCall m__law_pick ((eCons (eVar 0) ((eCons (eVar 4) (eNil))))))))))))))) ((bRet ((eSl (eVar 5) (eNo) ((ePart (eVar 3))))))))))))))
def m__law_text : List D → M Vl := bodyM 2 7 b__law_text
theorem s__law_text {k : Kx} (E : XK) : SS k E (t__law_text k E) b__law_text := (ss_seq (ss_parT (sao_cons (se_call (sa_cons se_var sa_nil)) (sao_cons (se_op os_add se_int (se_call (sa_cons se_var (sa_cons se_var sa_nil)))) sao_nil))) (ss_seq (ss_if (st_test (se_op os_gt (se_call (sa_cons se_var (sa_cons se_int sa_nil))) se_int)) (ss_frz (ss_ret (se_call (sa_cons se_var (sa_cons se_var (sa_cons se_var sa_nil)))))) ss_next) (ss_seq (ss_frz (ss_par (sao_cons (se_lc (si_rng1 (sa_cons se_int sa_nil)) tg_name st_yes (se_call (sa_cons se_var (sa_cons se_var (sa_cons (se_op os_add se_int (se_call (sa_cons se_var (sa_cons se_int sa_nil)))) sa_nil))))) (sao_cons (se_str (by decide +kernel)) sao_nil)))) (ss_seq (ss_for (si_rng1 (sa_cons se_var sa_nil)) tg_name (ss_frz (ss_set (se_op os_add se_var (se_call (sa_cons se_var (sa_cons se_var sa_nil))))))) (ss_ret (se_sl se_var so_no (so_part se_var)))))))
def t__law_turns (k : Kx) (E : XK) : TS := (tRet ((tLc ((iRng1 ((tCons ((tCB (qLen k.K) ((tCons (tVar 0) (tNil))))) (tNil))))) ((gName 1)) (tYes) ((tOp (qAdd k.K) ((L2.tSl (qSl k.K) (tVar 0) ((tPart (tVar 1))) (tNoPart))) ((L2.tSl (qSl k.K) (tVar 0) (tNoPart) ((tPart (tVar 1))))))) [1])))
def b__law_turns : Env → M Out := (bRet ((eLc ((eRng rngD1 ((eCons ((eCB lenD ((eCons (eVar 0) (eNil))))) (eNil))))) ((eTgN 1)) (eYes) ((eOp addD ((eSl (eVar 0) ((ePart (eVar 1))) (eNo))) ((eSl (eVar 0) (eNo) ((ePart (eVar 1))))))) [1])))
def m__law_turns : List D → M Vl := bodyM 1 2 b__law_turns
theorem s__law_turns {k : Kx} (E : XK) : SS k E (t__law_turns k E) b__law_turns := (ss_ret (se_lc (si_rng1 (sa_cons (se_cb cs_len (sa_cons se_var sa_nil)) sa_nil)) tg_name st_yes (se_op os_add (se_sl se_var (so_part se_var) so_no) (se_sl se_var so_no (so_part se_var)))))
def t__law_least_turn (k : Kx) (E : XK) : TS := (tRet ((tCB (rMinD k.K) ((tCons ((tCall (spM k m__law_turns) [] E ((tCons (tVar 0) (tNil))))) (tNil))))))
def b__law_least_turn : Env → M Out := (bRet ((eCB minL ((eCons ((eCall m__law_turns ((eCons (eVar 0) (eNil))))) (eNil))))))
def m__law_least_turn : List D → M Vl := bodyM 1 1 b__law_least_turn
theorem s__law_least_turn {k : Kx} (E : XK) : SS k E (t__law_least_turn k E) b__law_least_turn := (ss_ret (se_cb cs_min (sa_cons (se_call (sa_cons se_var sa_nil)) sa_nil)))
def t__law_read_on (k : Kx) (E : XK) : TS := (tRet ((tM1 (rJoin k.K) (tC (.str "")) ((tLc ((iRng1 ((tCons (tVar 2) (tNil))))) ((gName 3)) (tYes) ((tOp (qIxA k.K) (tVar 0) ((tOp (rI (fun _ j => j ≠ 0) fun i j => .int (i.fmod j)) ((tCB (rInt1) ((tCons ((tOp (qAdd k.K) (tVar 1) (tVar 3))) (tNil))))) ((tCB (qLen k.K) ((tCons (tVar 0) (tNil))))))))) [3])))))
def b__law_read_on : Env → M Out := (bRet ((eJoin (eC (.str [])) ((eLc ((eRng rngD1 ((eCons (eVar 2) (eNil))))) ((eTgN 3)) (eYes) ((eIxA (eVar 0) ((eOp modD ((eCB intD ((eCons ((eOp addD (eVar 1) (eVar 3))) (eNil))))) ((eCB lenD ((eCons (eVar 0) (eNil))))))))) [3])))))
def m__law_read_on : List D → M Vl := bodyM 3 4 b__law_read_on
theorem s__law_read_on {k : Kx} (E : XK) : SS k E (t__law_read_on k E) b__law_read_on := (ss_ret (se_join (se_str (by decide +kernel)) (se_lc (si_rng1 (sa_cons se_var sa_nil)) tg_name st_yes (se_ixA se_var (se_op os_mod (se_cb cs_int (sa_cons (se_op os_add se_var se_var) sa_nil)) (se_cb cs_len (sa_cons se_var sa_nil)))))))
def t__law_ring_runs (k : Kx) (E : XK) : TS := (tRet ((tLc ((iRng1 ((tCons ((tCB (qLen k.K) ((tCons (tVar 0) (tNil))))) (tNil))))) ((gName 2)) (tYes) ((tCall (spM k m__law_read_on) [] L2.E0 ((tCons (tVar 0) ((tCons (tVar 2) ((tCons (tVar 1) (tNil))))))))) [2])))
def b__law_ring_runs : Env → M Out := (bRet ((eLc ((eRng rngD1 ((eCons ((eCB lenD ((eCons (eVar 0) (eNil))))) (eNil))))) ((eTgN 2)) (eYes) ((eCall m__law_read_on ((eCons (eVar 0) ((eCons (eVar 2) ((eCons (eVar 1) (eNil))))))))) [2])))
def m__law_ring_runs : List D → M Vl := bodyM 2 3 b__law_ring_runs
theorem s__law_ring_runs {k : Kx} (E : XK) : SS k E (t__law_ring_runs k E) b__law_ring_runs := (ss_ret (se_lc (si_rng1 (sa_cons (se_cb cs_len (sa_cons se_var sa_nil)) sa_nil)) tg_name st_yes (se_call (sa_cons se_var (sa_cons se_var (sa_cons se_var sa_nil))))))
def t__law_counted (k : Kx) (E : XK) : TS := (tSeq ((tAsg (tDNewK) (gName 1))) ((tSeq ((tFor ((iAnyD k.K ((tCB (qSorted k.K) ((tCons (tVar 0) (tNil))))))) ((gName 2)) ((sDPut (tVar 1) (tVar 2) ((tOp (qAdd k.K) ((tDGet2 (tVar 1) (tVar 2) (tC (.int 0)))) (tC (.int 1)))))))) ((tRet (tVar 1))))))
def b__law_counted : Env → M Out := (bSeq ((bSet 1 (eDNew))) ((bSeq ((bFor ((eItA ((eCOV sortedD ((eCons (eVar 0) (eNil))))))) ((eTgN 2)) ((bDPut 1 (eVar 2) ((eOp addD ((eDGet2 (eVar 1) (eVar 2) (eC (.int 0)))) (eC (.int 1)))))))) ((bRet (eVar 1))))))
def m__law_counted : List D → M Vl := bodyM 1 3 b__law_counted
theorem s__law_counted {k : Kx} (E : XK) : SS k E (t__law_counted k E) b__law_counted := (ss_seq (ss_set se_dnew) (ss_seq (ss_for (si_anyD (se_cov co_sorted (sa_cons se_var sa_nil))) tg_name (ss_dput se_var (se_op os_add (se_dget2 se_var se_var se_int) se_int))) (ss_ret se_var)))
def t__law_other_strand (k : Kx) (E : XK) : TS := (tRet ((tM1 (rJoin k.K) (tC (.str "")) ((tLc ((iAnyD k.K ((tRevS (tVar 0))))) ((gName 1)) (tYes) ((tOp (qIxA k.K) ((tDictZip "acgt" "tgca")) (tVar 1))) [1])))))
def b__law_other_strand : Env → M Out := (bRet ((eJoin (eC (.str [])) ((eLc ((eItA ((eUn revD (eVar 0))))) ((eTgN 1)) (eYes) ((eIxA ((eDictZip [97, 99, 103, 116] [116, 103, 99, 97])) (eVar 1))) [1])))))
def m__law_other_strand : List D → M Vl := bodyM 1 2 b__law_other_strand
theorem s__law_other_strand {k : Kx} (E : XK) : SS k E (t__law_other_strand k E) b__law_other_strand := (ss_ret (se_join (se_str (by decide +kernel)) (se_lc (si_anyD (se_rev se_var)) tg_name st_yes (se_ixA (se_dictZip (by decide +kernel) (by decide +kernel) (by decide)) se_var))))
def t__law_odd (k : Kx) (E : XK) : TS := (tSeq ((tAsg ((tLst ((tCons (tC .non) ((tCons (tC (.bl true)) ((tCons (tC (.bl false)) ((tCons ((tUn (rU fun i => .int (-i)) (tC (.int 1)))) ((tCons ((tOp (rI0 fun i j => .int (i - j)) ((tOp (rI CPow fun i j => .int (i ^ j.toNat)) (tC (.int 10)) (tC (.int 30)))) (tC (.int 1)))) ((tCons (tC (.str "")) ((tCons (tC (.str "A")) ((tCons (tC (.str "acgu")) ((tCons (tC (.str "a c")) ((tCons (tC (.str " a")) ((tCons (tC (.str "ac\n")) ((tCons ((tTup (tNil))) ((tCons ((tLst (tNil))) ((tCons (tDNewK) ((tCons ((tTup ((tCons (tC (.str "a")) (tNil))))) ((tCons ((tLst ((tCons (tC (.str "a")) (tNil))))) (tNil))))))))))))))))))))))))))))))))))) (gName 1))) ((tRet ((tCall (spM k m__law_pick) [] E ((tCons (tVar 0) ((tCons ((tOp (qAdd k.K) (tVar 1) ((tLst ((tCons ((tDisp [(tC (.str "a"), tC (.int 1))])) ((tCons ((tTup ((tCons (tC .non) (tNil))))) ((tCons (tC (.str "1")) ((tCons ((tTup ((tCons (tC (.str "a")) ((tCons (tC (.str "c")) (tNil))))))) ((tCons ((tLst ((tCons ((tLst ((tCons (tC (.str "a")) (tNil))))) (tNil))))) ((tCons (tC (.str "n")) (tNil))))))))))))))))) (tNil))))))))))
def b__law_odd : Env → M Out := (bSeq ((bSet 1 ((eLst ((eCons (eC .non) ((eCons (eC (.bl true)) ((eCons (eC (.bl false)) ((eCons ((eUn negD (eC (.int 1)))) ((eCons ((eOp subD ((eOp powD (eC (.int 10)) (eC (.int 30)))) (eC (.int 1)))) ((eCons (eC (.str [])) ((eCons (eC (.str [65])) ((eCons (eC (.str [97, 99, 103, 117])) ((eCons (eC (.str [97, 32, 99])) ((eCons (eC (.str [32, 97])) ((eCons (eC (.str [97, 99, 10])) ((eCons ((eTup (eNil))) ((eCons ((eLst (eNil))) ((eCons (eDNew) ((eCons ((eTup ((eCons (eC (.str [97])) (eNil))))) ((eCons ((eLst ((eCons (eC (.str [97])) (eNil))))) (eNil))))))))))))))))))))))))))))))))))))) ((bFrz [1] ((bRet ((eCall m__law_pick ((eCons (eVar 0) ((eCons ((eOp addD (eVar 1) ((eLst ((eCons ((eDisp [(eC (.str [97]), eC (.int 1))])) ((eCons ((eTup ((eCons (eC .non) (eNil))))) ((eCons (eC (.str [49])) ((eCons ((eTup ((eCons (eC (.str [97])) ((eCons (eC (.str [99])) (eNil))))))) ((eCons ((eLst ((eCons ((eLst ((eCons (eC (.str [97])) (eNil))))) (eNil))))) ((eCons (eC (.str [110])) (eNil))))))))))))))))) (eNil))))))))))))
def m__law_odd : List D → M Vl := bodyM 1 2 b__law_odd
theorem s__law_odd {k : Kx} (E : XK) : SS k E (t__law_odd k E) b__law_odd := (ss_seq (ss_set (se_lst (sa_cons se_non (sa_cons se_bl (sa_cons se_bl (sa_cons (se_un us_neg se_int) (sa_cons (se_op os_sub (se_op os_pow se_int se_int) se_int) (sa_cons (se_str (by decide +kernel)) (sa_cons (se_str (by decide +kernel)) (sa_cons (se_str (by decide +kernel)) (sa_cons (se_str (by decide +kernel)) (sa_cons (se_str (by decide +kernel)) (sa_cons (se_str (by decide +kernel)) (sa_cons (se_tup sa_nil) (sa_cons (se_lst sa_nil) (sa_cons se_dnew (sa_cons (se_tup (sa_cons (se_str (by decide +kernel)) sa_nil)) (sa_cons (se_lst (sa_cons (se_str (by decide +kernel)) sa_nil)) sa_nil)))))))))))))))))) (ss_frz (ss_ret (se_call (sa_cons se_var (sa_cons (se_op os_add se_var (se_lst (sa_cons (se_disp (.cons (se_str (by decide +kernel)) se_int .nil)) (sa_cons (se_tup (sa_cons se_non sa_nil)) (sa_cons (se_str (by decide +kernel)) (sa_cons (se_tup (sa_cons (se_str (by decide +kernel)) (sa_cons (se_str (by decide +kernel)) sa_nil))) (sa_cons (se_lst (sa_cons (se_lst (sa_cons (se_str (by decide +kernel)) sa_nil)) sa_nil)) (sa_cons (se_str (by decide +kernel)) sa_nil)))))))) sa_nil))))))
def t__law_turns_right (k : Kx) (E : XK) : TS := (tSeq ((tAsg ((tCall (spM k m_begun) [] E ((tCons (tVar 0) (tNil))))) (gName 1))) ((tSeq ((tFor ((iRng1 ((tCons ((tOp (qAdd k.K) (tC (.int 3)) ((tCB (rMin2) ((tCons ((tCB (qLen k.K) ((tCons (tVar 0) (tNil))))) ((tCons (tC (.int 12)) (tNil))))))))) (tNil))))) ((gName 2)) ((tSeq ((tAsg ((tOp (qMul) ((tCall (spM k m__law_text) [] E ((tCons (tVar 1) ((tCons (tC (.int 15)) (tNil))))))) ((tCall (spM k m__law_pick) [] E ((tCons (tVar 1) ((tCons ((tLst ((tCons (tC (.int 1)) ((tCons (tC (.int 1)) ((tCons (tC (.int 2)) (tNil))))))))) (tNil))))))))) (gName 3))) ((tSeq ((tPar 8 9 ((tCons ((tCall (spM k m__law_turns) [] E ((tCons (tVar 3) (tNil))))) ((tCons ((tCall (spM k m__law_least_turn) [] E ((tCons (tVar 3) (tNil))))) (tNil))))))) ((tSeq ((tIfS ((tTest (tOp (qNe k.K) ((tLc ((iRng1 ((tCons ((tCB (qLen k.K) ((tCons (tVar 3) (tNil))))) (tNil))))) ((gName 10)) (tYes) ((tCall (spM k m_turn) [] L2.E0 ((tCons (tVar 3) ((tCons (tVar 10) (tNil))))))) [10])) (tVar 8)))) ((tRet (tC (.bl false)))) (tNext))) ((tSeq ((tAsg ((tCall (spM k m_take) [] E ((tCons (tVar 1) ((tCons ((tCB (qLen k.K) ((tCons (tVar 3) (tNil))))) (tNil))))))) (gName 4))) ((tSeq ((tIfS ((tOr ((tTest (tOp (qNe k.K) ((tCall (spM k m_ring_of) [] E ((tCons ((tOp (qIxA k.K) (tVar 8) (tVar 4))) (tNil))))) (tVar 9)))) ((tOr ((tTest (tOp (qNe k.K) ((tCallN 0 1 (spM k m_ring_of) (Z.perm [0]) E (tNil) ((tCons (tVar 3) (tNil))))) (tVar 9)))) ((tTest (tOp (qNe k.K) ((tCallN 0 2 (spM k m_turn) (Z.perm [1, 0]) E (tNil) ((tCons (tVar 4) ((tCons (tVar 3) (tNil))))))) ((tOp (qIxA k.K) (tVar 8) (tVar 4)))))))))) ((tRet (tC (.bl false)))) (tNext))) ((tSeq ((tIfS ((tOr ((tTest (tOp (qNe k.K) ((tCB (rRepr k.K) ((tCons ((tCall (spM k m_is_ring) [] E ((tCons ((tOp (qIxA k.K) (tVar 8) (tVar 4))) (tNil))))) (tNil))))) ((tCB (rRepr k.K) ((tCons ((tOp (qEq k.K) ((tOp (qIxA k.K) (tVar 8) (tVar 4))) (tVar 9))) (tNil)))))))) ((tTest (tOp (rNotB) ((tCallN 0 1 (spM k m_is_ring) (Z.perm [0]) E (tNil) ((tCons (tVar 9) (tNil))))) (tC (.bl true))))))) ((tRet (tC (.bl false)))) (tNext))) ((tSeq ((tAsg ((tCall (spM k m__law_pick) [] E ((tCons (tVar 1) ((tCons ((tLst ((tCons ((tCall (spM k m__law_odd) [] E ((tCons (tVar 1) (tNil))))) ((tCons ((tLst ((tCons (tVar 9) (tNil))))) ((tCons ((tTup ((tCons (tVar 9) (tNil))))) ((tCons ((tBM0 k.K "str" rUpper (tVar 9))) ((tCons (tC (.str "")) (tNil))))))))))))) (tNil))))))) (gName 5))) ((tSeq ((tIfS ((tTest (tOp (rNotB) ((tCall (spM k m_is_ring) [] E ((tCons (tVar 5) (tNil))))) (tC (.bl false))))) ((tRet (tC (.bl false)))) (tNext))) ((tSeq ((tAsg ((tCall (spM k m__law_pick) [] E ((tCons (tVar 1) ((tCons ((tLst ((tCons (tC .non) ((tCons (tC (.bl true)) ((tCons ((tUn (rU fun i => .int (-i)) (tC (.int 1)))) ((tCons ((tCB (qLen k.K) ((tCons (tVar 3) (tNil))))) ((tCons ((tOp (qAdd k.K) ((tCB (qLen k.K) ((tCons (tVar 3) (tNil))))) (tC (.int 5)))) ((tCons (tC (.str "0")) ((tCons ((tTup ((tCons (tC (.int 0)) (tNil))))) ((tCons ((tOp (rI CPow fun i j => .int (i ^ j.toNat)) (tC (.int 10)) (tC (.int 29)))) (tNil))))))))))))))))))) (tNil))))))) (gName 6))) ((tSeq ((tAsg ((LamX.tLam k.T (TCaught k.K (k.ca "ReadError")) (fun E' => (tCall (spM k m_turn) [] E' ((tCons (tVar 3) ((tCons (tVar 6) (tNil))))))))) (gName 7))) ((tIfS ((tOr ((tNot ((tB ((tCB (rIsA k.K) ((tCons (tVar 7) ((tCons (tC (.ref (k.ca "BadIndex"))) (tNil))))))))))) ((tB ((tCB (rIsA k.K) ((tCons (tVar 7) ((tCons (tC (.ref (k.ca "BadWord"))) (tNil))))))))))) ((tRet (tC (.bl false)))) (tNext))))))))))))))))))))))))) ((tRet (tC (.bl true)))))))
def b__law_turns_right : Env → M Out := (bSeq ((bSet 1 ((eCall m_begun ((eCons (eVar 0) (eNil))))))) ((bSeq ((bFor ((eRng rngD1 ((eCons ((eOp addD (eC (.int 3)) ((eCB minD2 ((eCons ((eCB lenD ((eCons (eVar 0) (eNil))))) ((eCons (eC (.int 12)) (eNil))))))))) (eNil))))) ((eTgN 2)) ((bSeq ((bFrz [1] ((bSet 3 ((eOp mulD ((eCall m__law_text ((eCons (eVar 1) ((eCons (eC (.int 15)) (eNil))))))) ((eCall m__law_pick ((eCons (eVar 1) ((eCons ((eLst ((eCons (eC (.int 1)) ((eCons (eC (.int 1)) ((eCons (eC (.int 2)) (eNil))))))))) (eNil))))))))))))) ((bSeq ((bSets [8, 9] ((eCons ((eCall m__law_turns ((eCons (eVar 3) (eNil))))) ((eCons ((eCall m__law_least_turn ((eCons (eVar 3) (eNil))))) (eNil))))))) ((bSeq ((bFrz [8] ((bIf ((eB (eOp neB ((eLc ((eRng rngD1 ((eCons ((eCB lenD ((eCons (eVar 3) (eNil))))) (eNil))))) ((eTgN 10)) (eYes) ((eCall m_turn ((eCons (eVar 3) ((eCons (eVar 10) (eNil))))))) [10])) (eVar 8)))) ((bRet (eC (.bl false)))) (bNext))))) ((bSeq ((bFrz [1] ((bSet 4 ((eCall m_take ((eCons (eVar 1) ((eCons ((eCB lenD ((eCons (eVar 3) (eNil))))) (eNil))))))))))) ((bSeq ((bFrz [4, 8, 9] ((bIf ((eOr ((eB (eOp neB ((eCall m_ring_of ((eCons ((eIxA (eVar 8) (eVar 4))) (eNil))))) (eVar 9)))) ((eOr ((eB (eOp neB ((eCallN 0 1 [0] m_ring_of (eNil) ((eCons (eVar 3) (eNil))))) (eVar 9)))) ((eB (eOp neB ((eCallN 0 2 [1, 0] m_turn (eNil) ((eCons (eVar 4) ((eCons (eVar 3) (eNil))))))) ((eIxA (eVar 8) (eVar 4)))))))))) ((bRet (eC (.bl false)))) (bNext))))) ((bSeq ((bFrz [4, 8, 9] ((bIf ((eOr ((eB (eOp neB ((eCB reprD ((eCons ((eCall m_is_ring ((eCons ((eIxA (eVar 8) (eVar 4))) (eNil))))) (eNil))))) ((eCB reprD ((eCons ((eOp eqB ((eIxA (eVar 8) (eVar 4))) (eVar 9))) (eNil)))))))) ((eB (eOp notBlD ((eCallN 0 1 [0] m_is_ring (eNil) ((eCons (eVar 9) (eNil))))) (eC (.bl true))))))) ((bRet (eC (.bl false)))) (bNext))))) ((bSeq ((bFrz [1, 9] ((bSet 5 ((eCall m__law_pick ((eCons (eVar 1) ((eCons ((eLst ((eCons ((eCall m__law_odd ((eCons (eVar 1) (eNil))))) ((eCons ((eLst ((eCons (eVar 9) (eNil))))) ((eCons ((eTup ((eCons (eVar 9) (eNil))))) ((eCons ((eMt0 upperD (eVar 9))) ((eCons (eC (.str [])) (eNil))))))))))))) (eNil))))))))))) ((bSeq ((bFrz [5] ((bIf ((eB (eOp notBlD ((eCall m_is_ring ((eCons (eVar 5) (eNil))))) (eC (.bl false))))) ((bRet (eC (.bl false)))) (bNext))))) ((bSeq ((bFrz [1] ((bSet 6 ((eCall m__law_pick ((eCons (eVar 1) ((eCons ((eLst ((eCons (eC .non) ((eCons (eC (.bl true)) ((eCons ((eUn negD (eC (.int 1)))) ((eCons ((eCB lenD ((eCons (eVar 3) (eNil))))) ((eCons ((eOp addD ((eCB lenD ((eCons (eVar 3) (eNil))))) (eC (.int 5)))) ((eCons (eC (.str [48])) ((eCons ((eTup ((eCons (eC (.int 0)) (eNil))))) ((eCons ((eOp powD (eC (.int 10)) (eC (.int 29)))) (eNil))))))))))))))))))) (eNil))))))))))) ((bSeq ((bFrz [1, 4, 5, 6, 7, 8, 9] ((bSet 7 ((eCaught CAT ((eCall m_turn ((eCons (eVar 3) ((eCons (eVar 6) (eNil))))))))))))) ((bFrz [7] ((bIf ((eOr ((eNot ((eB ((eCB (isiD XT) ((eCons (eVar 7) ((eCons (eC (.glo "BadIndex")) (eNil))))))))))) ((eB ((eCB (isiD XT) ((eCons (eVar 7) ((eCons (eC (.glo "BadWord")) (eNil))))))))))) ((bRet (eC (.bl false)))) (bNext))))))))))))))))))))))))))) ((bRet (eC (.bl true)))))))
def m__law_turns_right : List D → M Vl := bodyM 1 11 b__law_turns_right
theorem s__law_turns_right {k : Kx} (hXT : XTab k XT) (hCAT : ∀ C ∈ CAT, PySem.W.exmOne k.K (.ref (k.ca C)) (.ref (k.ca "ReadError")) = some true) (E : XK) : SS k E (t__law_turns_right k E) b__law_turns_right := (ss_seq (ss_set (se_call (sa_cons se_var sa_nil))) (ss_seq (ss_for (si_rng1 (sa_cons (se_op os_add se_int (se_cb cs_min2 (sa_cons (se_cb cs_len (sa_cons se_var sa_nil)) (sa_cons se_int sa_nil)))) sa_nil)) tg_name (ss_seq (ss_frz (ss_set (se_op os_mul (se_call (sa_cons se_var (sa_cons se_int sa_nil))) (se_call (sa_cons se_var (sa_cons (se_lst (sa_cons se_int (sa_cons se_int (sa_cons se_int sa_nil)))) sa_nil)))))) (ss_seq (ss_par (sao_cons (se_call (sa_cons se_var sa_nil)) (sao_cons (se_call (sa_cons se_var sa_nil)) sao_nil))) (ss_seq (ss_frz (ss_if (st_test (se_op os_ne (se_lc (si_rng1 (sa_cons (se_cb cs_len (sa_cons se_var sa_nil)) sa_nil)) tg_name st_yes (se_call (sa_cons se_var (sa_cons se_var sa_nil)))) se_var)) (ss_ret se_bl) ss_next)) (ss_seq (ss_frz (ss_set (se_call (sa_cons se_var (sa_cons (se_cb cs_len (sa_cons se_var sa_nil)) sa_nil))))) (ss_seq (ss_frz (ss_if (st_or (st_test (se_op os_ne (se_call (sa_cons (se_ixA se_var se_var) sa_nil)) se_var)) (st_or (st_test (se_op os_ne (se_callN sa_nil (sa_cons se_var sa_nil)) se_var)) (st_test (se_op os_ne (se_callN sa_nil (sa_cons se_var (sa_cons se_var sa_nil))) (se_ixA se_var se_var))))) (ss_ret se_bl) ss_next)) (ss_seq (ss_frz (ss_if (st_or (st_test (se_op os_ne (se_cb cs_repr (sa_cons (se_call (sa_cons (se_ixA se_var se_var) sa_nil)) sa_nil)) (se_cb cs_repr (sa_cons (se_op os_eq (se_ixA se_var se_var) se_var) sa_nil)))) (st_test (se_op os_notBl (se_callN sa_nil (sa_cons se_var sa_nil)) se_bl))) (ss_ret se_bl) ss_next)) (ss_seq (ss_frz (ss_set (se_call (sa_cons se_var (sa_cons (se_lst (sa_cons (se_call (sa_cons se_var sa_nil)) (sa_cons (se_lst (sa_cons se_var sa_nil)) (sa_cons (se_tup (sa_cons se_var sa_nil)) (sa_cons (se_mt0 ms_upper se_var) (sa_cons (se_str (by decide +kernel)) sa_nil)))))) sa_nil))))) (ss_seq (ss_frz (ss_if (st_test (se_op os_notBl (se_call (sa_cons se_var sa_nil)) se_bl)) (ss_ret se_bl) ss_next)) (ss_seq (ss_frz (ss_set (se_call (sa_cons se_var (sa_cons (se_lst (sa_cons se_non (sa_cons se_bl (sa_cons (se_un us_neg se_int) (sa_cons (se_cb cs_len (sa_cons se_var sa_nil)) (sa_cons (se_op os_add (se_cb cs_len (sa_cons se_var sa_nil)) se_int) (sa_cons (se_str (by decide +kernel)) (sa_cons (se_tup (sa_cons se_int sa_nil)) (sa_cons (se_op os_pow se_int se_int) sa_nil))))))))) sa_nil))))) (ss_seq (ss_frz (ss_set (se_caught hCAT (fun E' => (se_call (sa_cons se_var (sa_cons se_var sa_nil))))))) (ss_frz (ss_if (st_or (st_not (st_b (se_cb (cs_isi hXT) (sa_cons se_var (sa_cons (se_glo rfl) sa_nil))))) (st_b (se_cb (cs_isi hXT) (sa_cons se_var (sa_cons (se_glo rfl) sa_nil))))) (ss_ret se_bl) ss_next))))))))))))) (ss_ret se_bl)))
def t__law_pieces_right (k : Kx) (E : XK) : TS := (tSeq ((tAsg ((tCall (spM k m_begun) [] E ((tCons (tVar 0) (tNil))))) (gName 1))) ((tSeq ((tFor ((iRng1 ((tCons ((tOp (qAdd k.K) (tC (.int 3)) ((tCB (rMin2) ((tCons ((tCB (qLen k.K) ((tCons (tVar 0) (tNil))))) ((tCons (tC (.int 12)) (tNil))))))))) (tNil))))) ((gName 2)) ((tSeq ((tAsg ((tCall (spM k m__law_least_turn) [] E ((tCons ((tOp (qMul) ((tCall (spM k m__law_text) [] E ((tCons (tVar 1) ((tCons (tC (.int 10)) (tNil))))))) ((tCall (spM k m__law_pick) [] E ((tCons (tVar 1) ((tCons ((tLst ((tCons (tC (.int 1)) ((tCons (tC (.int 1)) ((tCons (tC (.int 2)) (tNil))))))))) (tNil))))))))) (tNil))))) (gName 3))) ((tSeq ((tAsg ((tCall (spM k m_take) [] E ((tCons (tVar 1) ((tCons ((tCB (qLen k.K) ((tCons (tVar 3) (tNil))))) (tNil))))))) (gName 4))) ((tSeq ((tAsg ((tCall (spM k m__law_read_on) [] E ((tCons (tVar 3) ((tCons (tVar 4) ((tCons ((tOp (qAdd k.K) (tC (.int 1)) ((tCall (spM k m_take) [] E ((tCons (tVar 1) ((tCons ((tOp (qMul) (tC (.int 3)) ((tCB (qLen k.K) ((tCons (tVar 3) (tNil))))))) (tNil))))))))) (tNil))))))))) (gName 5))) ((tSeq ((tAsg ((tCall (spM k m__law_pick) [] E ((tCons (tVar 1) ((tCons ((tLst ((tCons (tVar 5) ((tCons (tVar 5) ((tCons ((L2.tSl (qSl k.K) (tVar 5) (tNoPart) ((tPart (tC (.int 3)))))) ((tCons ((tCall (spM k m__law_text) [] E ((tCons (tVar 1) ((tCons (tC (.int 3)) (tNil))))))) ((tCons ((tOp (qAdd k.K) (tVar 5) (tC (.str "a")))) (tNil))))))))))))) (tNil))))))) (gName 5))) ((tSeq ((tAsg ((tLc ((iRng1 ((tCons ((tCB (qLen k.K) ((tCons (tVar 3) (tNil))))) (tNil))))) ((gName 9)) ((tTest (tOp (qEq k.K) ((tCall (spM k m__law_read_on) [] L2.E0 ((tCons (tVar 3) ((tCons (tVar 9) ((tCons ((tCB (qLen k.K) ((tCons (tVar 5) (tNil))))) (tNil))))))))) (tVar 5)))) (tVar 9) [9])) (gName 6))) ((tSeq ((tAsg ((tCall (spM k m_ring_occurrences) [] E ((tCons (tVar 3) ((tCons (tVar 5) (tNil))))))) (gName 7))) ((tSeq ((tIfS ((tOr ((tTest (tOp (qNe k.K) (tVar 7) (tVar 6)))) ((tNot ((tB ((tCB (rIsA k.K) ((tCons (tVar 7) ((tCons (tC (.ty "list")) (tNil))))))))))))) ((tRet (tC (.bl false)))) (tNext))) ((tSeq ((tDrop (tBM k.K "list" rAppend (tVar 7) (tCons (tC .non) tNil)))) ((tSeq ((tIfS ((tTest (tOp (qNe k.K) ((tCallN 0 2 (spM k m_ring_occurrences) (Z.perm [1, 0]) E (tNil) ((tCons (tVar 5) ((tCons (tVar 3) (tNil))))))) (tVar 6)))) ((tRet (tC (.bl false)))) (tNext))) ((tSeq ((tAsg ((tOp (qAdd k.K) (tC (.int 1)) ((tCall (spM k m_take) [] E ((tCons (tVar 1) ((tCons ((tCall (spM k m__law_pick) [] E ((tCons (tVar 1) ((tCons ((tLst ((tCons (tC (.int 3)) ((tCons ((tCB (qLen k.K) ((tCons (tVar 3) (tNil))))) ((tCons ((tOp (qMul) (tC (.int 3)) ((tCB (qLen k.K) ((tCons (tVar 3) (tNil))))))) (tNil))))))))) (tNil))))))) (tNil))))))))) (gName 8))) ((tSeq ((tAsg (tTup ((tCons ((tCall (spM k m__law_counted) [] E ((tCons ((tCall (spM k m__law_ring_runs) [] E ((tCons (tVar 3) ((tCons (tVar 8) (tNil))))))) (tNil))))) ((tCons ((tCall (spM k m_ring_pieces) [] E ((tCons (tVar 3) ((tCons (tVar 8) (tNil))))))) (tNil)))))) (gTL k.K 2 (gCons (gName 6) (gCons (gName 7) gNil))))) ((tSeq ((tIfS ((tOr ((tTest (tOp (qNe k.K) (tVar 7) (tVar 6)))) ((tOr ((tTest (tOp (qNe k.K) ((tCB (qListA k.K) ((tCons (tVar 7) (tNil))))) ((tCB (qListA k.K) ((tCons (tVar 6) (tNil)))))))) ((tTest (tOp (qNe k.K) ((tCB (rSum k.K) ((tCons ((tLc ((iAnyD k.K (tVar 6))) ((gName 5)) (tYes) ((tOp (qIxA k.K) (tVar 6) (tVar 5))) [5])) (tNil))))) ((tCB (qLen k.K) ((tCons (tVar 3) (tNil)))))))))))) ((tRet (tC (.bl false)))) (tNext))) ((tSeq ((sDPut (tVar 7) (tC (.str "a")) ((tUn (rU fun i => .int (-i)) (tC (.int 1)))))) ((tSeq ((tIfS ((tTest (tOp (qNe k.K) ((tCallN 0 2 (spM k m_ring_pieces) (Z.perm [1, 0]) E (tNil) ((tCons (tVar 8) ((tCons (tVar 3) (tNil))))))) (tVar 6)))) ((tRet (tC (.bl false)))) (tNext))) ((tIfS ((tTest (tOp (qNe k.K) ((tCallN 0 1 (spM k m_ring_strand) (Z.perm [0]) E (tNil) ((tCons (tVar 3) (tNil))))) ((tCall (spM k m__law_least_turn) [] E ((tCons ((tCall (spM k m__law_other_strand) [] E ((tCons (tVar 3) (tNil))))) (tNil)))))))) ((tRet (tC (.bl false)))) (tNext))))))))))))))))))))))))))))))))) ((tRet (tC (.bl true)))))))
def b__law_pieces_right : Env → M Out := (bSeq ((bSet 1 ((eCall m_begun ((eCons (eVar 0) (eNil))))))) ((bSeq ((bFor ((eRng rngD1 ((eCons ((eOp addD (eC (.int 3)) ((eCB minD2 ((eCons ((eCB lenD ((eCons (eVar 0) (eNil))))) ((eCons (eC (.int 12)) (eNil))))))))) (eNil))))) ((eTgN 2)) ((bSeq ((bFrz [1] ((bSet 3 ((eCall m__law_least_turn ((eCons ((eOp mulD ((eCall m__law_text ((eCons (eVar 1) ((eCons (eC (.int 10)) (eNil))))))) ((eCall m__law_pick ((eCons (eVar 1) ((eCons ((eLst ((eCons (eC (.int 1)) ((eCons (eC (.int 1)) ((eCons (eC (.int 2)) (eNil))))))))) (eNil))))))))) (eNil))))))))) ((bSeq ((bFrz [1, 3] ((bSet 4 ((eCall m_take ((eCons (eVar 1) ((eCons ((eCB lenD ((eCons (eVar 3) (eNil))))) (eNil))))))))))) ((bSeq ((bFrz [1, 3, 4] ((bSet 5 ((eCall m__law_read_on ((eCons (eVar 3) ((eCons (eVar 4) ((eCons ((eOp addD (eC (.int 1)) ((eCall m_take ((eCons (eVar 1) ((eCons ((eOp mulD (eC (.int 3)) ((eCB lenD ((eCons (eVar 3) (eNil))))))) (eNil))))))))) (eNil))))))))))))) ((bSeq ((bFrz [1, 5] ((bSet 5 ((eCall m__law_pick ((eCons (eVar 1) ((eCons ((eLst ((eCons (eVar 5) ((eCons (eVar 5) ((eCons ((eSl (eVar 5) (eNo) ((ePart (eC (.int 3)))))) ((eCons ((eCall m__law_text ((eCons (eVar 1) ((eCons (eC (.int 3)) (eNil))))))) ((eCons ((eOp addD (eVar 5) (eC (.str [97])))) (eNil))))))))))))) (eNil))))))))))) ((bSeq ((bFrz [3, 5] ((bSet 6 ((eLc ((eRng rngD1 ((eCons ((eCB lenD ((eCons (eVar 3) (eNil))))) (eNil))))) ((eTgN 9)) ((eB (eOp eqB ((eCall m__law_read_on ((eCons (eVar 3) ((eCons (eVar 9) ((eCons ((eCB lenD ((eCons (eVar 5) (eNil))))) (eNil))))))))) (eVar 5)))) (eVar 9) [9])))))) ((bSeq ((bFrz [3, 5] ((bSet 7 ((eCall m_ring_occurrences ((eCons (eVar 3) ((eCons (eVar 5) (eNil))))))))))) ((bSeq ((bFrz [6] ((bIf ((eOr ((eB (eOp neB (eVar 7) (eVar 6)))) ((eNot ((eB ((eCB (isiD XT) ((eCons (eVar 7) ((eCons (eC (.ty "list")) (eNil))))))))))))) ((bRet (eC (.bl false)))) (bNext))))) ((bSeq ((bApp 7 (eC .non))) ((bSeq ((bFrz [3, 5, 6] ((bIf ((eB (eOp neB ((eCallN 0 2 [1, 0] m_ring_occurrences (eNil) ((eCons (eVar 5) ((eCons (eVar 3) (eNil))))))) (eVar 6)))) ((bRet (eC (.bl false)))) (bNext))))) ((bSeq ((bFrz [1, 3] ((bSet 8 ((eOp addD (eC (.int 1)) ((eCall m_take ((eCons (eVar 1) ((eCons ((eCall m__law_pick ((eCons (eVar 1) ((eCons ((eLst ((eCons (eC (.int 3)) ((eCons ((eCB lenD ((eCons (eVar 3) (eNil))))) ((eCons ((eOp mulD (eC (.int 3)) ((eCB lenD ((eCons (eVar 3) (eNil))))))) (eNil))))))))) (eNil))))))) (eNil))))))))))))) ((bSeq ((bFrz [3] ((bSets [6, 7] ((eCons ((eCall m__law_counted ((eCons ((eCall m__law_ring_runs ((eCons (eVar 3) ((eCons (eVar 8) (eNil))))))) (eNil))))) ((eCons ((eCall m_ring_pieces ((eCons (eVar 3) ((eCons (eVar 8) (eNil))))))) (eNil))))))))) ((bSeq ((bFrz [3, 5, 6] ((bIf ((eOr ((eB (eOp neB (eVar 7) (eVar 6)))) ((eOr ((eB (eOp neB ((eCOV listA ((eCons (eVar 7) (eNil))))) ((eCOV listA ((eCons (eVar 6) (eNil)))))))) ((eB (eOp neB ((eCB sumD ((eCons ((eLc ((eItA (eVar 6))) ((eTgN 5)) (eYes) ((eIxA (eVar 6) (eVar 5))) [5])) (eNil))))) ((eCB lenD ((eCons (eVar 3) (eNil)))))))))))) ((bRet (eC (.bl false)))) (bNext))))) ((bSeq ((bDPut 7 (eC (.str [97])) ((eUn negD (eC (.int 1)))))) ((bSeq ((bFrz [3, 6] ((bIf ((eB (eOp neB ((eCallN 0 2 [1, 0] m_ring_pieces (eNil) ((eCons (eVar 8) ((eCons (eVar 3) (eNil))))))) (eVar 6)))) ((bRet (eC (.bl false)))) (bNext))))) ((bFrz [3] ((bIf ((eB (eOp neB ((eCallN 0 1 [0] m_ring_strand (eNil) ((eCons (eVar 3) (eNil))))) ((eCall m__law_least_turn ((eCons ((eCall m__law_other_strand ((eCons (eVar 3) (eNil))))) (eNil)))))))) ((bRet (eC (.bl false)))) (bNext))))))))))))))))))))))))))))))))))) ((bRet (eC (.bl true)))))))
def m__law_pieces_right : List D → M Vl := bodyM 1 10 b__law_pieces_right
theorem s__law_pieces_right {k : Kx} (hXT : XTab k XT) (E : XK) : SS k E (t__law_pieces_right k E) b__law_pieces_right := (ss_seq (ss_set (se_call (sa_cons se_var sa_nil))) (ss_seq (ss_for (si_rng1 (sa_cons (se_op os_add se_int (se_cb cs_min2 (sa_cons (se_cb cs_len (sa_cons se_var sa_nil)) (sa_cons se_int sa_nil)))) sa_nil)) tg_name (ss_seq (ss_frz (ss_set (se_call (sa_cons (se_op os_mul (se_call (sa_cons se_var (sa_cons se_int sa_nil))) (se_call (sa_cons se_var (sa_cons (se_lst (sa_cons se_int (sa_cons se_int (sa_cons se_int sa_nil)))) sa_nil)))) sa_nil)))) (ss_seq (ss_frz (ss_set (se_call (sa_cons se_var (sa_cons (se_cb cs_len (sa_cons se_var sa_nil)) sa_nil))))) (ss_seq (ss_frz (ss_set (se_call (sa_cons se_var (sa_cons se_var (sa_cons (se_op os_add se_int (se_call (sa_cons se_var (sa_cons (se_op os_mul se_int (se_cb cs_len (sa_cons se_var sa_nil))) sa_nil)))) sa_nil)))))) (ss_seq (ss_frz (ss_set (se_call (sa_cons se_var (sa_cons (se_lst (sa_cons se_var (sa_cons se_var (sa_cons (se_sl se_var so_no (so_part se_int)) (sa_cons (se_call (sa_cons se_var (sa_cons se_int sa_nil))) (sa_cons (se_op os_add se_var (se_str (by decide +kernel))) sa_nil)))))) sa_nil))))) (ss_seq (ss_frz (ss_set (se_lc (si_rng1 (sa_cons (se_cb cs_len (sa_cons se_var sa_nil)) sa_nil)) tg_name (st_test (se_op os_eq (se_call (sa_cons se_var (sa_cons se_var (sa_cons (se_cb cs_len (sa_cons se_var sa_nil)) sa_nil)))) se_var)) se_var))) (ss_seq (ss_frz (ss_set (se_call (sa_cons se_var (sa_cons se_var sa_nil))))) (ss_seq (ss_frz (ss_if (st_or (st_test (se_op os_ne se_var se_var)) (st_not (st_b (se_cb (cs_isi hXT) (sa_cons se_var (sa_cons se_ty sa_nil)))))) (ss_ret se_bl) ss_next)) (ss_seq (ss_app se_non) (ss_seq (ss_frz (ss_if (st_test (se_op os_ne (se_callN sa_nil (sa_cons se_var (sa_cons se_var sa_nil))) se_var)) (ss_ret se_bl) ss_next)) (ss_seq (ss_frz (ss_set (se_op os_add se_int (se_call (sa_cons se_var (sa_cons (se_call (sa_cons se_var (sa_cons (se_lst (sa_cons se_int (sa_cons (se_cb cs_len (sa_cons se_var sa_nil)) (sa_cons (se_op os_mul se_int (se_cb cs_len (sa_cons se_var sa_nil))) sa_nil)))) sa_nil))) sa_nil)))))) (ss_seq (ss_frz (ss_parT (sao_cons (se_call (sa_cons (se_call (sa_cons se_var (sa_cons se_var sa_nil))) sa_nil)) (sao_cons (se_call (sa_cons se_var (sa_cons se_var sa_nil))) sao_nil)))) (ss_seq (ss_frz (ss_if (st_or (st_test (se_op os_ne se_var se_var)) (st_or (st_test (se_op os_ne (se_cov co_listA (sa_cons se_var sa_nil)) (se_cov co_listA (sa_cons se_var sa_nil)))) (st_test (se_op os_ne (se_cb cs_sum (sa_cons (se_lc (si_anyD se_var) tg_name st_yes (se_ixA se_var se_var)) sa_nil)) (se_cb cs_len (sa_cons se_var sa_nil)))))) (ss_ret se_bl) ss_next)) (ss_seq (ss_dput (se_str (by decide +kernel)) (se_un us_neg se_int)) (ss_seq (ss_frz (ss_if (st_test (se_op os_ne (se_callN sa_nil (sa_cons se_var (sa_cons se_var sa_nil))) se_var)) (ss_ret se_bl) ss_next)) (ss_frz (ss_if (st_test (se_op os_ne (se_callN sa_nil (sa_cons se_var sa_nil)) (se_call (sa_cons (se_call (sa_cons se_var sa_nil)) sa_nil)))) (ss_ret se_bl) ss_next))))))))))))))))) (ss_ret se_bl)))
def t_law (k : Kx) (E : XK) : TS := (tRet ((tAndV ((tCall (spM k m__law_turns_right) [] E ((tCons (tVar 0) (tNil))))) ((tCall (spM k m__law_pieces_right) [] E ((tCons (tVar 0) (tNil))))))))
def b_law : Env → M Out := (bRet ((eAndV ((eCall m__law_turns_right ((eCons (eVar 0) (eNil))))) ((eCall m__law_pieces_right ((eCons (eVar 0) (eNil))))))))
def m_law : List D → M Vl := bodyM 1 1 b_law
theorem s_law {k : Kx} (E : XK) : SS k E (t_law k E) b_law := (ss_ret (se_andV (se_call (sa_cons se_var sa_nil)) (se_call (sa_cons se_var sa_nil))))
end Y

/-! ### runs that draw: plain reasoning -/
namespace Y
open PySem PySem.Spec PyProof.Rows L2 Z
/-- m draws from q at most c times, raises nothing, and ends in P -/
structure Dn {α : Type} (q : Tk) (c : Nat) (m : M α) (P : α → Prop) : Prop where
  run : ∀ dr n, q ∈ dr → c ≤ n → wp dr n m (fun dr' n' a => dr' = dr ∧ n ≤ n' + c ∧ P a) (fun _ _ _ => False)
section
variable {α β : Type} {q : Tk} {c c' : Nat} {m : M α} {P P' : α → Prop} {R : β → Prop} {f : α → M β}
theorem Dn.ok {a : α} (h : P a) : Dn q c (.ok a) P := ⟨fun dr n _ _ => ⟨rfl, Nat.le_add_right _ _, h⟩⟩
theorem Dn.mono (h : Dn q c m P) (hp : ∀ a, P a → P' a) : Dn q c m P' := ⟨fun dr n hq hc => wp_mono (h.run dr n hq hc) (fun _ _ _ ⟨a, b, d⟩ => ⟨a, b, hp _ d⟩) fun _ _ _ e => e⟩
theorem Dn.le (h : Dn q c m P) (hc : c ≤ c') : Dn q c' m P := ⟨fun dr n hq hn => wp_mono (h.run dr n hq (Nat.le_trans hc hn)) (fun _ _ _ ⟨a, b, d⟩ => ⟨a, by omega, d⟩) fun _ _ _ e => e⟩
theorem Dn.bind {c1 c2 : Nat} (h : Dn q c1 m P) (hf : ∀ a, P a → Dn q c2 (f a) R) : Dn q (c1 + c2) (m.bind f) R := ⟨fun dr n hq hc => by
  refine wp_bind.mpr (wp_mono (h.run dr n hq (by omega)) (fun dr' n' a ⟨e, b, d⟩ => ?_) fun _ _ _ e => e)
  subst e
  exact wp_mono ((hf a d).run dr' n' hq (by omega)) (fun _ _ _ ⟨a, b, d⟩ => ⟨a, by omega, d⟩) fun _ _ _ e => e⟩
theorem Dn.take {t : Int} {k : Int → M α} (h0 : 0 < t) (h1 : t < 1000000000) (h : ∀ i, 0 ≤ i → i < t → Dn q c (k i) P) : Dn q (c + 1) (.take q t k) P := ⟨fun dr n hq hc => by
  cases n with
  | zero => omega
  | succ n => exact ⟨hq, h0, h1, n, rfl, fun i a b => wp_mono ((h i a b).run dr n hq (by omega)) (fun _ _ _ ⟨a, b, d⟩ => ⟨a, by omega, d⟩) fun _ _ _ e => e⟩⟩
theorem Dn.nox (h : Dn q c m P) : Dn q c m.nox P := ⟨fun dr n hq hc => wp_nox.mpr (wp_mono (h.run dr n hq hc) (fun _ _ _ x => x) fun _ _ _ e => e)⟩
/-- a call of the draw -/
theorem Dn.tk {t : Int} {f : Vl → M α} (h0 : 0 < t) (h1 : t < 1000000000) (h : ∀ i, 0 ≤ i → i < t → Dn q c (f (.s, .int i)) P) : Dn q (c + 1) ((m_take [.drw q, .int t]).bind f) P := Dn.take h0 h1 h
theorem dn_beg {ns : List Int} {f : Vl → M α} (hl : ns.length ≤ 1000) (h : ∀ q, Dn q c (f (.s, .drw q)) P) {dr : Dr} {n : Nat} (hc : c ≤ n) : wp dr n ((m_begun [.scr ns]).bind f) (fun _ n' a => n ≤ n' + c ∧ P a) (fun _ _ _ => False) := by
  show wp dr n ((if ns.length ≤ 1000 then M.beg fun q => M.ok (Md.s, D.drw q) else M.bad).bind f) _ _
  rw [if_pos hl]
  exact fun q => wp_mono ((h q).run (q :: dr) n (List.mem_cons_self ..) hc) (fun _ _ _ ⟨_, b, d⟩ => ⟨b, d⟩) fun _ _ _ e => e
theorem atI_some {α : Type} {xs : List α} {i : Int} (h0 : 0 ≤ i) (h1 : i < xs.length) : ∃ d, atI xs i = some d ∧ d ∈ xs := by
  obtain ⟨k, rfl⟩ : ∃ k : Nat, i = (k : Int) := ⟨i.toNat, by omega⟩
  have hk : k < xs.length := by omega
  refine ⟨xs[k], ?_, List.getElem_mem hk⟩
  unfold atI ixN
  simp [hk]
/-- a run without draws -/
theorem Dn.pure {a : α} (e : m = .ok a) (h : P a) : Dn q c m P := e ▸ Dn.ok h
end
/-! ### loops -/
section
variable {α : Type} {q : Tk} {c : Nat} {tg : D → Env → Option Env} {fb : Env → M Out} {I : Env → Prop}
theorem Dn.forGo (F : α → D) : ∀ (xs : List α) (env : Env), I env → (∀ x ∈ xs, ∀ e, I e → ∃ e1, tg (F x) e = some e1 ∧ Dn q c (fb e1) fun o => ∃ e2, o = .nx e2 ∧ I e2) → Dn q (xs.length * c) (forGo tg fb (xs.map F) env) fun o => ∃ e, o = .nx e ∧ I e
  | [], env, h, _ => Dn.ok ⟨env, rfl, h⟩
  | x :: xs, env, h, hb => by
    obtain ⟨e1, e, d⟩ := hb x (List.mem_cons_self ..) env h
    have := Dn.bind (c2 := xs.length * c) (f := fun o => match o with | .nx e => Y.forGo tg fb (xs.map F) e | .ct e => Y.forGo tg fb (xs.map F) e | .bk e => .ok (.nx e) | .rt v => .ok (.rt v)) d (R := fun o => ∃ e, o = .nx e ∧ I e) (fun o ho => by
      obtain ⟨e2, rfl, i2⟩ := ho
      exact Dn.forGo F xs e2 i2 fun y hy => hb y (List.mem_cons_of_mem _ hy))
    have e' : Y.forGo tg fb ((x :: xs).map F) env = (fb e1).bind fun o => match o with | .nx e => Y.forGo tg fb (xs.map F) e | .ct e => Y.forGo tg fb (xs.map F) e | .bk e => .ok (.nx e) | .rt v => .ok (.rt v) := by
      show (M.of (tg (F x) env)).bind _ = _
      rw [e]
      rfl
    rw [e']
    exact this.le (by simp only [List.length_cons, Nat.add_mul]; omega)
/-- .. told by what is left -/
theorem Dn.forGoR {J : List α → Env → Prop} (F : α → D) (hb : ∀ x r e, J (x :: r) e → ∃ e1, tg (F x) e = some e1 ∧ Dn q c (fb e1) fun o => ∃ e2, o = .nx e2 ∧ J r e2) : ∀ (xs : List α) (env : Env), J xs env → Dn q (xs.length * c) (Y.forGo tg fb (xs.map F) env) fun o => ∃ e, o = .nx e ∧ J [] e
  | [], env, h => Dn.ok ⟨env, rfl, h⟩
  | x :: xs, env, h => by
    obtain ⟨e1, e, d⟩ := hb x xs env h
    have := Dn.bind (c2 := xs.length * c) (f := fun o => match o with | .nx e => Y.forGo tg fb (xs.map F) e | .ct e => Y.forGo tg fb (xs.map F) e | .bk e => .ok (.nx e) | .rt v => .ok (.rt v)) d (R := fun o => ∃ e, o = .nx e ∧ J [] e) (fun o ho => by
      obtain ⟨e2, rfl, i2⟩ := ho
      exact Dn.forGoR F hb xs e2 i2)
    have e' : Y.forGo tg fb ((x :: xs).map F) env = (fb e1).bind fun o => match o with | .nx e => Y.forGo tg fb (xs.map F) e | .ct e => Y.forGo tg fb (xs.map F) e | .bk e => .ok (.nx e) | .rt v => .ok (.rt v) := by
      show (M.of (tg (F x) env)).bind _ = _
      rw [e]
      rfl
    rw [e']
    exact this.le (by simp only [List.length_cons, Nat.add_mul]; omega)
variable {ft : Env → M Bool} {fe : Env → M Vl} {env : Env} {P : D → Prop}
theorem Dn.lcGo (F : α → D) : ∀ (xs : List α), (∀ x ∈ xs, ∃ e1, tg (F x) env = some e1 ∧ ft e1 = .ok true ∧ Dn q c (fe e1) fun r => isV r = false ∧ P r.2) → Dn q (xs.length * c) (lcGo tg ft fe env (xs.map F)) fun rs => rs.length = xs.length ∧ ∀ r ∈ rs, P r
  | [], _ => Dn.ok ⟨rfl, fun r h => nomatch h⟩
  | x :: xs, hb => by
    obtain ⟨e1, e, e2, d⟩ := hb x (List.mem_cons_self ..)
    have ih := Dn.lcGo F xs fun y hy => hb y (List.mem_cons_of_mem _ hy)
    have e' : Y.lcGo tg ft fe env ((x :: xs).map F) = (fe e1).bind fun r => if isV r then .bad else (Y.lcGo tg ft fe env (xs.map F)).bind fun rs => .ok (r.2 :: rs) := by
      simp only [List.map_cons, Y.lcGo, e, e2, of_some, ok_bind, if_true]
    rw [e']
    refine (Dn.bind (c2 := xs.length * c + 0) d fun r ⟨h1, h2⟩ => ?_).le (by simp only [List.length_cons, Nat.add_mul]; omega)
    rw [h1]
    refine Dn.bind ih fun rs ⟨h3, h4⟩ => Dn.ok ⟨by simp [h3], fun z hz => ?_⟩
    rcases List.mem_cons.mp hz with rfl | hz
    · exact h2
    · exact h4 z hz
/-- a comprehension without draws -/
theorem lc_ok (F g : α → D) (e1 : α → Env) (p : α → Bool) : ∀ (xs : List α), (∀ x ∈ xs, tg (F x) env = some (e1 x) ∧ ft (e1 x) = .ok (p x) ∧ (p x = true → ∃ md, fe (e1 x) = .ok (md, g x) ∧ isV (md, g x) = false)) → lcGo tg ft fe env (xs.map F) = .ok ((xs.filter p).map g)
  | [], _ => rfl
  | x :: xs, h => by
    obtain ⟨h1, h2, h3⟩ := h x (List.mem_cons_self ..)
    have ih := lc_ok F g e1 p xs fun y hy => h y (List.mem_cons_of_mem _ hy)
    simp only [List.map_cons, Y.lcGo, h1, h2, of_some, ok_bind]
    cases hp : p x with
    | false => simp only [Bool.false_eq_true, if_false, ih, List.filter_cons, hp]
    | true =>
      obtain ⟨md, h4, h5⟩ := h3 hp
      simp only [if_true, h4, ok_bind, h5, Bool.false_eq_true, if_false, ih, List.filter_cons, hp, List.map_cons]
theorem lc_map (F g : α → D) (e1 : α → Env) (xs : List α) (h : ∀ x ∈ xs, tg (F x) env = some (e1 x) ∧ ft (e1 x) = .ok true ∧ ∃ md, fe (e1 x) = .ok (md, g x) ∧ isV (md, g x) = false) : lcGo tg ft fe env (xs.map F) = .ok (xs.map g) := by
  have := lc_ok (tg := tg) (ft := ft) (fe := fe) (env := env) F g e1 (fun _ => true) xs fun x hx => ⟨(h x hx).1, (h x hx).2.1, fun _ => (h x hx).2.2⟩
  rw [this, List.filter_eq_self.mpr fun _ _ => rfl]
end
@[simp] theorem strsOf_mapf {α : Type} (g : α → List Nat) (xs : List α) : strsOf (xs.map fun x => .str (g x)) = some (xs.map g) := by
  induction xs with
  | nil => rfl
  | cons x xs ih => simp [strsOf, ih]
@[simp] theorem intsOf_mapf {α : Type} (g : α → Int) (xs : List α) : intsOf (xs.map fun x => .int (g x)) = some (xs.map g) := by
  induction xs with
  | nil => rfl
  | cons x xs ih => simp [intsOf, ih]
@[simp] theorem blsOf_mapf {α : Type} (g : α → Bool) (xs : List α) : blsOf (xs.map fun x => .bl (g x)) = some (xs.map g) := by
  induction xs with
  | nil => rfl
  | cons x xs ih => simp [blsOf, ih]
@[simp] theorem kb_NoneType_int : kitB "NoneType" "int" = some false := by decide +kernel
@[simp] theorem kb_NoneType_bool : kitB "NoneType" "bool" = some false := by decide +kernel
@[simp] theorem kb_NoneType_str : kitB "NoneType" "str" = some false := by decide +kernel
@[simp] theorem kb_NoneType_list : kitB "NoneType" "list" = some false := by decide +kernel
@[simp] theorem kb_NoneType_tuple : kitB "NoneType" "tuple" = some false := by decide +kernel
@[simp] theorem kb_NoneType_dict : kitB "NoneType" "dict" = some false := by decide +kernel
@[simp] theorem kb_bool_int : kitB "bool" "int" = some true := by decide +kernel
@[simp] theorem kb_bool_bool : kitB "bool" "bool" = some true := by decide +kernel
@[simp] theorem kb_bool_str : kitB "bool" "str" = some false := by decide +kernel
@[simp] theorem kb_bool_list : kitB "bool" "list" = some false := by decide +kernel
@[simp] theorem kb_bool_tuple : kitB "bool" "tuple" = some false := by decide +kernel
@[simp] theorem kb_bool_dict : kitB "bool" "dict" = some false := by decide +kernel
@[simp] theorem kb_int_int : kitB "int" "int" = some true := by decide +kernel
@[simp] theorem kb_int_bool : kitB "int" "bool" = some false := by decide +kernel
@[simp] theorem kb_int_str : kitB "int" "str" = some false := by decide +kernel
@[simp] theorem kb_int_list : kitB "int" "list" = some false := by decide +kernel
@[simp] theorem kb_int_tuple : kitB "int" "tuple" = some false := by decide +kernel
@[simp] theorem kb_int_dict : kitB "int" "dict" = some false := by decide +kernel
@[simp] theorem kb_str_int : kitB "str" "int" = some false := by decide +kernel
@[simp] theorem kb_str_bool : kitB "str" "bool" = some false := by decide +kernel
@[simp] theorem kb_str_str : kitB "str" "str" = some true := by decide +kernel
@[simp] theorem kb_str_list : kitB "str" "list" = some false := by decide +kernel
@[simp] theorem kb_str_tuple : kitB "str" "tuple" = some false := by decide +kernel
@[simp] theorem kb_str_dict : kitB "str" "dict" = some false := by decide +kernel
@[simp] theorem kb_list_int : kitB "list" "int" = some false := by decide +kernel
@[simp] theorem kb_list_bool : kitB "list" "bool" = some false := by decide +kernel
@[simp] theorem kb_list_str : kitB "list" "str" = some false := by decide +kernel
@[simp] theorem kb_list_list : kitB "list" "list" = some true := by decide +kernel
@[simp] theorem kb_list_tuple : kitB "list" "tuple" = some false := by decide +kernel
@[simp] theorem kb_list_dict : kitB "list" "dict" = some false := by decide +kernel
@[simp] theorem kb_tuple_int : kitB "tuple" "int" = some false := by decide +kernel
@[simp] theorem kb_tuple_bool : kitB "tuple" "bool" = some false := by decide +kernel
@[simp] theorem kb_tuple_str : kitB "tuple" "str" = some false := by decide +kernel
@[simp] theorem kb_tuple_list : kitB "tuple" "list" = some false := by decide +kernel
@[simp] theorem kb_tuple_tuple : kitB "tuple" "tuple" = some true := by decide +kernel
@[simp] theorem kb_tuple_dict : kitB "tuple" "dict" = some false := by decide +kernel
@[simp] theorem kb_dict_int : kitB "dict" "int" = some false := by decide +kernel
@[simp] theorem kb_dict_bool : kitB "dict" "bool" = some false := by decide +kernel
@[simp] theorem kb_dict_str : kitB "dict" "str" = some false := by decide +kernel
@[simp] theorem kb_dict_list : kitB "dict" "list" = some false := by decide +kernel
@[simp] theorem kb_dict_tuple : kitB "dict" "tuple" = some false := by decide +kernel
@[simp] theorem kb_dict_dict : kitB "dict" "dict" = some true := by decide +kernel
end Y

namespace Y
open PySem PySem.Spec PyProof.Rows L2 Z
def lineI (w : List Nat) : Bool := w.all fun c => inS [c] [97, 99, 103, 116]
def wordI (w : List Nat) : Bool := lineI w && decide (0 < w.length)
theorem q_is_line {w : List Nat} (hl : w.length ≤ 10000) : m_is_line [.str w] = .ok (.s, .bl (lineI w)) := by
  have hl' : w.length ≤ 100000 := by omega
  simp [bodyM, eVar, eC, eOp, eUn, eNil, eCons, eCB, eCO, eCOV, eLst, eTup, eB, eAnd, eOr, eNot, eBv, eAndV, eOrV, eNotV, eIf, eChain, eCall, okA, eTgN, eTgNil, eTgCons, eTgT, eRng, wipeE, noOwn, eLc, eYes, eDc, bNext, bSeq, bRet, bSet, bAsg, bDrop, bIf, bRaise, bFor, frzE, bFrz, setsE, bSets, isiD, tyName, chars, rng_len, eDGet2, eDNew, bApp, ownL, ownD, bDPut, eSl, ePart, eNo, eItA, itA, itD, eIxA, eJoin, isV, iop, cop, subD, modD, fdivD, leD, gtD, geD, eqB, neB, isBlD, notBlD, keyD, isDic, m_is_line, b_is_line, hl', allD]
  rw [lc_map (fun c => D.str [c]) (fun c => D.bl (inS [c] [97, 99, 103, 116])) (fun c => [some (false, D.str w), some (false, D.str [c])]) w]
  · simp [lineI, Function.comp_def]
  · exact fun c hc => ⟨rfl, rfl, .s, by simp [bodyM, eVar, eC, eOp, eUn, eNil, eCons, eCB, eCO, eCOV, eLst, eTup, eB, eAnd, eOr, eNot, eBv, eAndV, eOrV, eNotV, eIf, eChain, eCall, okA, eTgN, eTgNil, eTgCons, eTgT, eRng, wipeE, noOwn, eLc, eYes, eDc, bNext, bSeq, bRet, bSet, bAsg, bDrop, bIf, bRaise, bFor, frzE, bFrz, setsE, bSets, isiD, tyName, chars, rng_len, eDGet2, eDNew, bApp, ownL, ownD, bDPut, eSl, ePart, eNo, eItA, itA, itD, eIxA, eJoin, isV, iop, cop, subD, modD, fdivD, leD, gtD, geD, eqB, neB, isBlD, notBlD, keyD, isDic, inAB, inA, inD], rfl⟩
theorem q_is_word {w : List Nat} (hl : w.length ≤ 10000) : m_is_word [.str w] = .ok (.s, .bl (wordI w)) := by
  have hl' : w.length ≤ 10000000 := by omega
  simp [bodyM, eVar, eC, eOp, eUn, eNil, eCons, eCB, eCO, eCOV, eLst, eTup, eB, eAnd, eOr, eNot, eBv, eAndV, eOrV, eNotV, eIf, eChain, eCall, okA, eTgN, eTgNil, eTgCons, eTgT, eRng, wipeE, noOwn, eLc, eYes, eDc, bNext, bSeq, bRet, bSet, bAsg, bDrop, bIf, bRaise, bFor, frzE, bFrz, setsE, bSets, isiD, tyName, chars, rng_len, eDGet2, eDNew, bApp, ownL, ownD, bDPut, eSl, ePart, eNo, eItA, itA, itD, eIxA, eJoin, isV, iop, cop, subD, modD, fdivD, leD, gtD, geD, eqB, neB, isBlD, notBlD, keyD, isDic, m_is_word, b_is_word, q_is_line hl, lenD, hl', wordI]
  cases lineI w <;> simp
theorem q_need_word {w : List Nat} (hl : w.length ≤ 10000) (h : wordI w = true) : m_need_word [.str w] = .ok (.s, .non) := by
  simp [bodyM, eVar, eC, eOp, eUn, eNil, eCons, eCB, eCO, eCOV, eLst, eTup, eB, eAnd, eOr, eNot, eBv, eAndV, eOrV, eNotV, eIf, eChain, eCall, okA, eTgN, eTgNil, eTgCons, eTgT, eRng, wipeE, noOwn, eLc, eYes, eDc, bNext, bSeq, bRet, bSet, bAsg, bDrop, bIf, bRaise, bFor, frzE, bFrz, setsE, bSets, isiD, tyName, chars, rng_len, eDGet2, eDNew, bApp, ownL, ownD, bDPut, eSl, ePart, eNo, eItA, itA, itD, eIxA, eJoin, isV, iop, cop, subD, modD, fdivD, leD, gtD, geD, eqB, neB, isBlD, notBlD, keyD, isDic, m_need_word, b_need_word, q_is_word hl, h]
theorem q_is_between (i lo hi : Int) : m_is_between [.int i, .int lo, .int hi] = .ok (.s, .bl (decide (lo ≤ i) && decide (i ≤ hi))) := by
  simp [bodyM, eVar, eC, eOp, eUn, eNil, eCons, eCB, eCO, eCOV, eLst, eTup, eB, eAnd, eOr, eNot, eBv, eAndV, eOrV, eNotV, eIf, eChain, eCall, okA, eTgN, eTgNil, eTgCons, eTgT, eRng, wipeE, noOwn, eLc, eYes, eDc, bNext, bSeq, bRet, bSet, bAsg, bDrop, bIf, bRaise, bFor, frzE, bFrz, setsE, bSets, isiD, tyName, chars, rng_len, eDGet2, eDNew, bApp, ownL, ownD, bDPut, eSl, ePart, eNo, eItA, itA, itD, eIxA, eJoin, isV, iop, cop, subD, modD, fdivD, leD, gtD, geD, eqB, neB, isBlD, notBlD, keyD, isDic, m_is_between, b_is_between, m_is_integer, b_is_integer]
  by_cases h : lo ≤ i <;> simp [h]
def turnW (w : List Nat) (i : Int) : List Nat := cutL w (some i) none ++ cutL w none (some i)
theorem q_turn_of {w : List Nat} {i : Int} (hl : w.length ≤ 10000) : m_turn_of [.str w, .int i] = .ok (.s, .str (turnW w i)) := by
  have hl' : w.length ≤ 10000000 := by omega
  have h1 := cutL_le w (some i) none
  have h2 := cutL_le w none (some i)
  have h3 : (cutL w (some i) none).length + (cutL w none (some i)).length ≤ 10000000 := by omega
  simp [bodyM, eVar, eC, eOp, eUn, eNil, eCons, eCB, eCO, eCOV, eLst, eTup, eB, eAnd, eOr, eNot, eBv, eAndV, eOrV, eNotV, eIf, eChain, eCall, okA, eTgN, eTgNil, eTgCons, eTgT, eRng, wipeE, noOwn, eLc, eYes, eDc, bNext, bSeq, bRet, bSet, bAsg, bDrop, bIf, bRaise, bFor, frzE, bFrz, setsE, bSets, isiD, tyName, chars, rng_len, eDGet2, eDNew, bApp, ownL, ownD, bDPut, eSl, ePart, eNo, eItA, itA, itD, eIxA, eJoin, isV, iop, cop, subD, modD, fdivD, leD, gtD, geD, eqB, neB, isBlD, notBlD, keyD, isDic, m_turn_of, b_turn_of, slD, hl', addD, h3, turnW]
theorem minL_mapf {α : Type} (g : α → List Nat) {xs : List α} (h : xs ≠ []) : minL [.lst (xs.map fun x => .str (g x))] = some (.str (minS (xs.map g))) := by
  cases xs with
  | nil => exact absurd rfl h
  | cons x xs =>
    have := strsOf_mapf g (x :: xs)
    simp only [minL, this]
    rfl
theorem rng0_ne {n : Nat} (h : 0 < n) : rng 0 n ≠ [] := by
  cases n with
  | zero => omega
  | succ n => simp [rng, List.range_succ]
def leastW (w : List Nat) : List Nat := minS ((rng 0 w.length).map (turnW w))
theorem turnW_len (w : List Nat) (i : Int) : (turnW w i).length ≤ 2 * w.length := by
  have h1 := cutL_le w (some i) none
  have h2 := cutL_le w none (some i)
  simp only [turnW, List.length_append]
  omega
theorem q_least_turn {w : List Nat} (hl : w.length ≤ 10000) (hw : 0 < w.length) : m_least_turn [.str w] = .ok (.s, .str (leastW w)) := by
  have hl' : w.length ≤ 10000000 := by omega
  have h1 : (w.length : Int) ≤ 1000000 := by omega
  have h2 : (-1000000 : Int) ≤ w.length := by omega
  have h3 : w.length ≤ 100000 := by omega
  simp [bodyM, eVar, eC, eOp, eUn, eNil, eCons, eCB, eCO, eCOV, eLst, eTup, eB, eAnd, eOr, eNot, eBv, eAndV, eOrV, eNotV, eIf, eChain, eCall, okA, eTgN, eTgNil, eTgCons, eTgT, eRng, wipeE, noOwn, eLc, eYes, eDc, bNext, bSeq, bRet, bSet, bAsg, bDrop, bIf, bRaise, bFor, frzE, bFrz, setsE, bSets, isiD, tyName, chars, rng_len, eDGet2, eDNew, bApp, ownL, ownD, bDPut, eSl, ePart, eNo, eItA, itA, itD, eIxA, eJoin, isV, iop, cop, subD, modD, fdivD, leD, gtD, geD, eqB, neB, isBlD, notBlD, keyD, isDic, m_least_turn, b_least_turn, lenD, hl', rngD1, h1, h2, dInts, h3]
  rw [lc_map (fun i => D.int i) (fun i => D.str (turnW w i)) (fun i => [some (false, D.str w), some (false, D.int i)]) (rng 0 w.length)]
  · simp [minL_mapf _ (rng0_ne hw), leastW]
  · exact fun i _ => ⟨rfl, rfl, .s, by simp [bodyM, eVar, eC, eOp, eUn, eNil, eCons, eCB, eCO, eCOV, eLst, eTup, eB, eAnd, eOr, eNot, eBv, eAndV, eOrV, eNotV, eIf, eChain, eCall, okA, eTgN, eTgNil, eTgCons, eTgT, eRng, wipeE, noOwn, eLc, eYes, eDc, bNext, bSeq, bRet, bSet, bAsg, bDrop, bIf, bRaise, bFor, frzE, bFrz, setsE, bSets, isiD, tyName, chars, rng_len, eDGet2, eDNew, bApp, ownL, ownD, bDPut, eSl, ePart, eNo, eItA, itA, itD, eIxA, eJoin, isV, iop, cop, subD, modD, fdivD, leD, gtD, geD, eqB, neB, isBlD, notBlD, keyD, isDic, q_turn_of hl], rfl⟩
theorem q_is_ring {w : List Nat} (hl : w.length ≤ 10000) : m_is_ring [.str w] = .ok (.s, .bl (wordI w && decide (leastW w = w))) := by
  cases h : wordI w with
  | false => simp [bodyM, eVar, eC, eOp, eUn, eNil, eCons, eCB, eCO, eCOV, eLst, eTup, eB, eAnd, eOr, eNot, eBv, eAndV, eOrV, eNotV, eIf, eChain, eCall, okA, eTgN, eTgNil, eTgCons, eTgT, eRng, wipeE, noOwn, eLc, eYes, eDc, bNext, bSeq, bRet, bSet, bAsg, bDrop, bIf, bRaise, bFor, frzE, bFrz, setsE, bSets, isiD, tyName, chars, rng_len, eDGet2, eDNew, bApp, ownL, ownD, bDPut, eSl, ePart, eNo, eItA, itA, itD, eIxA, eJoin, isV, iop, cop, subD, modD, fdivD, leD, gtD, geD, eqB, neB, isBlD, notBlD, keyD, isDic, m_is_ring, b_is_ring, q_is_word hl, h]
  | true =>
    have hw : 0 < w.length := by simp [wordI] at h; exact h.2
    simp [bodyM, eVar, eC, eOp, eUn, eNil, eCons, eCB, eCO, eCOV, eLst, eTup, eB, eAnd, eOr, eNot, eBv, eAndV, eOrV, eNotV, eIf, eChain, eCall, okA, eTgN, eTgNil, eTgCons, eTgT, eRng, wipeE, noOwn, eLc, eYes, eDc, bNext, bSeq, bRet, bSet, bAsg, bDrop, bIf, bRaise, bFor, frzE, bFrz, setsE, bSets, isiD, tyName, chars, rng_len, eDGet2, eDNew, bApp, ownL, ownD, bDPut, eSl, ePart, eNo, eItA, itA, itD, eIxA, eJoin, isV, iop, cop, subD, modD, fdivD, leD, gtD, geD, eqB, neB, isBlD, notBlD, keyD, isDic, m_is_ring, b_is_ring, q_is_word hl, h, q_least_turn hl hw, eqD]
theorem q_need_ring {w : List Nat} (hl : w.length ≤ 10000) (h : wordI w = true) (hr : leastW w = w) : m_need_ring [.str w] = .ok (.s, .non) := by
  simp [bodyM, eVar, eC, eOp, eUn, eNil, eCons, eCB, eCO, eCOV, eLst, eTup, eB, eAnd, eOr, eNot, eBv, eAndV, eOrV, eNotV, eIf, eChain, eCall, okA, eTgN, eTgNil, eTgCons, eTgT, eRng, wipeE, noOwn, eLc, eYes, eDc, bNext, bSeq, bRet, bSet, bAsg, bDrop, bIf, bRaise, bFor, frzE, bFrz, setsE, bSets, isiD, tyName, chars, rng_len, eDGet2, eDNew, bApp, ownL, ownD, bDPut, eSl, ePart, eNo, eItA, itA, itD, eIxA, eJoin, isV, iop, cop, subD, modD, fdivD, leD, gtD, geD, eqB, neB, isBlD, notBlD, keyD, isDic, m_need_ring, b_need_ring, q_is_ring hl, h, hr]
theorem q_turn {w : List Nat} {i : Int} (hl : w.length ≤ 10000) (h : wordI w = true) (h0 : 0 ≤ i) (h1 : i < w.length) : m_turn [.str w, .int i] = .ok (.s, .str (turnW w i)) := by
  have hl' : w.length ≤ 10000000 := by omega
  have h2 : i ≤ (w.length : Int) - 1 := by omega
  simp [bodyM, eVar, eC, eOp, eUn, eNil, eCons, eCB, eCO, eCOV, eLst, eTup, eB, eAnd, eOr, eNot, eBv, eAndV, eOrV, eNotV, eIf, eChain, eCall, okA, eTgN, eTgNil, eTgCons, eTgT, eRng, wipeE, noOwn, eLc, eYes, eDc, bNext, bSeq, bRet, bSet, bAsg, bDrop, bIf, bRaise, bFor, frzE, bFrz, setsE, bSets, isiD, tyName, chars, rng_len, eDGet2, eDNew, bApp, ownL, ownD, bDPut, eSl, ePart, eNo, eItA, itA, itD, eIxA, eJoin, isV, iop, cop, subD, modD, fdivD, leD, gtD, geD, eqB, neB, isBlD, notBlD, keyD, isDic, m_turn, b_turn, q_need_word hl h, lenD, hl', q_is_between, h0, h2, q_turn_of hl]
theorem q_ring_of {w : List Nat} (hl : w.length ≤ 10000) (h : wordI w = true) : m_ring_of [.str w] = .ok (.s, .str (leastW w)) := by
  have hw : 0 < w.length := by simp [wordI] at h; exact h.2
  simp [bodyM, eVar, eC, eOp, eUn, eNil, eCons, eCB, eCO, eCOV, eLst, eTup, eB, eAnd, eOr, eNot, eBv, eAndV, eOrV, eNotV, eIf, eChain, eCall, okA, eTgN, eTgNil, eTgCons, eTgT, eRng, wipeE, noOwn, eLc, eYes, eDc, bNext, bSeq, bRet, bSet, bAsg, bDrop, bIf, bRaise, bFor, frzE, bFrz, setsE, bSets, isiD, tyName, chars, rng_len, eDGet2, eDNew, bApp, ownL, ownD, bDPut, eSl, ePart, eNo, eItA, itA, itD, eIxA, eJoin, isV, iop, cop, subD, modD, fdivD, leD, gtD, geD, eqB, neB, isBlD, notBlD, keyD, isDic, m_ring_of, b_ring_of, q_need_word hl h, q_least_turn hl hw]
theorem q__law_turns {w : List Nat} (hl : w.length ≤ 10000) : m__law_turns [.str w] = .ok (.o, .lst ((rng 0 w.length).map fun i => .str (turnW w i))) := by
  have hl' : w.length ≤ 10000000 := by omega
  have h1 : (w.length : Int) ≤ 1000000 := by omega
  have h2 : (-1000000 : Int) ≤ w.length := by omega
  have h3 : w.length ≤ 100000 := by omega
  simp [bodyM, eVar, eC, eOp, eUn, eNil, eCons, eCB, eCO, eCOV, eLst, eTup, eB, eAnd, eOr, eNot, eBv, eAndV, eOrV, eNotV, eIf, eChain, eCall, okA, eTgN, eTgNil, eTgCons, eTgT, eRng, wipeE, noOwn, eLc, eYes, eDc, bNext, bSeq, bRet, bSet, bAsg, bDrop, bIf, bRaise, bFor, frzE, bFrz, setsE, bSets, isiD, tyName, chars, rng_len, eDGet2, eDNew, bApp, ownL, ownD, bDPut, eSl, ePart, eNo, eItA, itA, itD, eIxA, eJoin, isV, iop, cop, subD, modD, fdivD, leD, gtD, geD, eqB, neB, isBlD, notBlD, keyD, isDic, m__law_turns, b__law_turns, lenD, hl', rngD1, h1, h2, dInts, h3]
  rw [lc_map (fun i => D.int i) (fun i => D.str (turnW w i)) (fun i => [some (false, D.str w), some (false, D.int i)]) (rng 0 w.length)]
  · simp
  · refine fun i _ => ⟨rfl, rfl, .s, ?_, rfl⟩
    have h1 := cutL_le w (some i) none
    have h2 := cutL_le w none (some i)
    have h3 : (cutL w (some i) none).length + (cutL w none (some i)).length ≤ 10000000 := by omega
    simp [bodyM, eVar, eC, eOp, eUn, eNil, eCons, eCB, eCO, eCOV, eLst, eTup, eB, eAnd, eOr, eNot, eBv, eAndV, eOrV, eNotV, eIf, eChain, eCall, okA, eTgN, eTgNil, eTgCons, eTgT, eRng, wipeE, noOwn, eLc, eYes, eDc, bNext, bSeq, bRet, bSet, bAsg, bDrop, bIf, bRaise, bFor, frzE, bFrz, setsE, bSets, isiD, tyName, chars, rng_len, eDGet2, eDNew, bApp, ownL, ownD, bDPut, eSl, ePart, eNo, eItA, itA, itD, eIxA, eJoin, isV, iop, cop, subD, modD, fdivD, leD, gtD, geD, eqB, neB, isBlD, notBlD, keyD, isDic, slD, hl', addD, h3, turnW]
theorem q__law_least_turn {w : List Nat} (hl : w.length ≤ 10000) (hw : 0 < w.length) : m__law_least_turn [.str w] = .ok (.s, .str (leastW w)) := by
  simp [bodyM, eVar, eC, eOp, eUn, eNil, eCons, eCB, eCO, eCOV, eLst, eTup, eB, eAnd, eOr, eNot, eBv, eAndV, eOrV, eNotV, eIf, eChain, eCall, okA, eTgN, eTgNil, eTgCons, eTgT, eRng, wipeE, noOwn, eLc, eYes, eDc, bNext, bSeq, bRet, bSet, bAsg, bDrop, bIf, bRaise, bFor, frzE, bFrz, setsE, bSets, isiD, tyName, chars, rng_len, eDGet2, eDNew, bApp, ownL, ownD, bDPut, eSl, ePart, eNo, eItA, itA, itD, eIxA, eJoin, isV, iop, cop, subD, modD, fdivD, leD, gtD, geD, eqB, neB, isBlD, notBlD, keyD, isDic, m__law_least_turn, b__law_least_turn, q__law_turns hl, minL_mapf _ (rng0_ne hw), leastW]
def readW (w : List Nat) (a : Int) (n : Nat) : List Nat := (rng 0 n).map fun s => (atI w ((a + s).fmod w.length)).getD 0
theorem flatten_single {α : Type} (g : α → Nat) (xs : List α) : (xs.map fun x => [g x]).flatten = xs.map g := by
  induction xs with
  | nil => rfl
  | cons x xs ih => simp [ih]
theorem atI_mod' {w : List Nat} {i : Int} (h : 0 < w.length) : atI w (i.fmod (w.length : Int)) = some ((atI w (i.fmod (w.length : Int))).getD 0) := by
  have := atI_mod (l := w) (i := i) (by intro e; simp [e] at h)
  cases e : atI w (i.fmod (w.length : Int)) with
  | none => rw [e] at this; cases this
  | some c => rfl
theorem sum_one {α : Type} (xs : List α) (g : α → List Nat) (h : ∀ x, (g x).length = 1) : ((xs.map g).map List.length).sum = xs.length := by
  induction xs with
  | nil => rfl
  | cons x xs ih => simp only [List.map_cons, List.sum_cons, ih, h, List.length_cons]; omega
theorem q_read_on {w : List Nat} {a : Int} {n : Nat} (hl : w.length ≤ 10000) (hw : 0 < w.length) (hn : n ≤ 10000) : m_read_on [.str w, .int a, .int n] = .ok (.s, .str (readW w a n)) := by
  have hl' : w.length ≤ 10000000 := by omega
  have h1 : (n : Int) ≤ 1000000 := by omega
  have h2 : (-1000000 : Int) ≤ n := by omega
  have h3 : n ≤ 100000 := by omega
  have h4 : ¬ w = [] := by intro e; simp [e] at hw
  simp [bodyM, eVar, eC, eOp, eUn, eNil, eCons, eCB, eCO, eCOV, eLst, eTup, eB, eAnd, eOr, eNot, eBv, eAndV, eOrV, eNotV, eIf, eChain, eCall, okA, eTgN, eTgNil, eTgCons, eTgT, eRng, wipeE, noOwn, eLc, eYes, eDc, bNext, bSeq, bRet, bSet, bAsg, bDrop, bIf, bRaise, bFor, frzE, bFrz, setsE, bSets, isiD, tyName, chars, rng_len, eDGet2, eDNew, bApp, ownL, ownD, bDPut, eSl, ePart, eNo, eItA, itA, itD, eIxA, eJoin, isV, iop, cop, subD, modD, fdivD, leD, gtD, geD, eqB, neB, isBlD, notBlD, keyD, isDic, m_read_on, b_read_on, lenD, hl', rngD1, h1, h2, dInts, h3]
  rw [lc_map (fun i => D.int i) (fun s => D.str [(atI w ((a + s).fmod w.length)).getD 0]) (fun i => [some (false, D.str w), some (false, D.int a), some (false, .int n), some (false, D.int i)]) (rng 0 n)]
  · have e : ((rng 0 n).map (List.length ∘ fun s => [(atI w ((a + s).fmod w.length)).getD 0])).sum ≤ 10000000 := by
      rw [← List.map_map, sum_one _ _ fun _ => rfl, rng_len]; omega
    simp [joinD, e, flatten_single, readW]
  · refine fun i _ => ⟨rfl, rfl, .s, ?_, rfl⟩
    simp [bodyM, eVar, eC, eOp, eUn, eNil, eCons, eCB, eCO, eCOV, eLst, eTup, eB, eAnd, eOr, eNot, eBv, eAndV, eOrV, eNotV, eIf, eChain, eCall, okA, eTgN, eTgNil, eTgCons, eTgT, eRng, wipeE, noOwn, eLc, eYes, eDc, bNext, bSeq, bRet, bSet, bAsg, bDrop, bIf, bRaise, bFor, frzE, bFrz, setsE, bSets, isiD, tyName, chars, rng_len, eDGet2, eDNew, bApp, ownL, ownD, bDPut, eSl, ePart, eNo, eItA, itA, itD, eIxA, eJoin, isV, iop, cop, subD, modD, fdivD, leD, gtD, geD, eqB, neB, isBlD, notBlD, keyD, isDic, addD, lenD, hl', h4, ixA, ixD]
    rw [atI_mod' hw]
    rfl
end Y

namespace Y
open PySem PySem.Spec PyProof.Rows L2 Z
theorem pys_mapf {α : Type} (f : α → D) (T : α → PyData) (h : ∀ x, py (f x) = some (T x)) : ∀ xs : List α, pys (xs.map f) = some (xs.map T)
  | [] => rfl
  | x :: xs => by simp [pys, h, pys_mapf f T h xs]
theorem eqD_lst {α : Type} [DecidableEq α] {f : α → D} {T : α → PyData} {ok : α → Prop} {n : Nat} (h : ∀ x, py (f x) = some (T x)) (e : Eqt T ok n) (hn : n ≤ 60) {xs ys : List α} (hx : ∀ x ∈ xs, ok x) (hy : ∀ x ∈ ys, ok x) : eqD (.lst (xs.map f)) (.lst (ys.map f)) = some (decide (xs = ys)) := by
  have e2 := eqt_L e
  have p1 : py (.lst (xs.map f)) = some (dL T xs) := by simp [py, pys_mapf f T h, dL]
  have p2 : py (.lst (ys.map f)) = some (dL T ys) := by simp [py, pys_mapf f T h, dL]
  have s1 : SeqAt.shaped (dL T xs) = true := by
    unfold SeqAt.shaped
    rw [e2.lay xs hx]
    have := e2.dep xs
    simp; omega
  have s2 : SeqAt.shaped (dL T ys) = true := by
    unfold SeqAt.shaped
    rw [e2.lay ys hy]
    have := e2.dep ys
    simp; omega
  show (match py (.lst (xs.map f)), py (.lst (ys.map f)) with
    | some p, some q => if SeqAt.shaped p && SeqAt.shaped q then some (PyData.eqv p q) else none
    | _, _ => none) = _
  rw [p1, p2]
  show (if SeqAt.shaped (dL T xs) && SeqAt.shaped (dL T ys) then some (PyData.eqv (dL T xs) (dL T ys)) else none) = _
  rw [s1, s2, e2.eq]
  rfl
theorem eqD_strs {α : Type} {f g : α → List Nat} {xs ys : List α} (hx : ∀ x ∈ xs, okS (f x)) (hy : ∀ x ∈ ys, okS (g x)) : eqD (.lst (xs.map fun x => .str (f x))) (.lst (ys.map fun x => .str (g x))) = some (decide (xs.map f = ys.map g)) := by
  have := eqD_lst (f := D.str) (T := dS) (fun x => rfl) eqt_S (by decide) (xs := xs.map f) (ys := ys.map g) (by simpa using hx) (by simpa using hy)
  simpa [Function.comp_def] using this
theorem eqD_ints {xs ys : List Int} : eqD (.lst (xs.map .int)) (.lst (ys.map .int)) = some (decide (xs = ys)) :=
  eqD_lst (f := D.int) (T := dI) (fun x => rfl) eqt_I (by decide) (fun _ _ => trivial) (fun _ _ => trivial)
/-! ### words -/
def Ac (w : List Nat) : Prop := ∀ c ∈ w, c ∈ acgt
theorem lineI_iff {w : List Nat} : lineI w = true ↔ Ac w := by
  unfold lineI
  rw [List.all_eq_true]
  constructor
  · intro h c hc; have := h c hc; rw [inS_one] at this; exact of_decide_eq_true this
  · intro h c hc; rw [inS_one]; exact decide_eq_true (h c hc)
theorem wordI_iff {w : List Nat} : wordI w = true ↔ Ac w ∧ 0 < w.length := by
  simp only [wordI, Bool.and_eq_true, lineI_iff, decide_eq_true_eq]
theorem Ac.okS {w : List Nat} (h : Ac w) : okS w := fun c hc => by
  have := h c hc
  simp only [acgt, List.mem_cons, List.not_mem_nil, or_false] at this
  omega
theorem cut_from {α : Type} {t : List α} {i : Nat} : cutL t (some (i : Int)) none = t.drop i := by
  unfold cutL
  rw [HT.sIx_none, HT.sIx_nat]
  by_cases h : i ≤ t.length
  · rw [Nat.min_eq_left h]
    exact List.take_of_length_le (by simp)
  · rw [Nat.min_eq_right (by omega), List.drop_of_length_le (i := i) (by omega)]
    simp
theorem cut_to {α : Type} {t : List α} {i : Nat} : cutL t none (some (i : Int)) = t.take i := by
  unfold cutL
  rw [HT.sIx_none, HT.sIx_nat]
  simp only [List.drop_zero, Nat.sub_zero]
  by_cases h : i ≤ t.length
  · rw [Nat.min_eq_left h]
  · rw [Nat.min_eq_right (by omega), List.take_of_length_le (i := i) (by omega), List.take_of_length_le (Nat.le_refl _)]
def turnN (w : List Nat) (k : Nat) : List Nat := w.drop k ++ w.take k
theorem turnW_nat (w : List Nat) (k : Nat) : turnW w (k : Int) = turnN w k := by
  unfold turnW turnN
  rw [cut_from, cut_to]
theorem turnN_len {w : List Nat} {k : Nat} (h : k ≤ w.length) : (turnN w k).length = w.length := by
  simp only [turnN, List.length_append, List.length_drop, List.length_take]
  omega
theorem turnN_ac {w : List Nat} {k : Nat} (h : Ac w) : Ac (turnN w k) := fun c hc => by
  rcases List.mem_append.mp hc with z | z
  · exact h c (List.mem_of_mem_drop z)
  · exact h c (List.mem_of_mem_take z)
theorem turnN_get {w : List Nat} {k j : Nat} (hk : k < w.length) (hj : j < w.length) : (turnN w k)[j]? = w[(k + j) % w.length]? := by
  unfold turnN
  by_cases h : k + j < w.length
  · rw [List.getElem?_append_left (by simp; omega), List.getElem?_drop, Nat.mod_eq_of_lt h]
  · rw [List.getElem?_append_right (by simp; omega), List.length_drop, List.getElem?_take_of_lt (by omega)]
    have : (k + j) % w.length = k + j - w.length := by
      rw [Nat.mod_eq_sub_mod (by omega), Nat.mod_eq_of_lt (by omega)]
    rw [this]
    congr 1
    omega
theorem turnN_turnN {w : List Nat} {k j : Nat} (hk : k < w.length) (hj : j < w.length) : turnN (turnN w k) j = turnN w ((k + j) % w.length) := by
  have hn : 0 < w.length := by omega
  have l1 := turnN_len (w := w) (k := k) (by omega)
  have hm : (k + j) % w.length < w.length := Nat.mod_lt _ hn
  apply List.ext_getElem?
  intro i
  by_cases hi : i < w.length
  · rw [turnN_get (by rw [l1]; exact hj) (by rw [l1]; exact hi), l1, turnN_get hk (Nat.mod_lt _ hn), turnN_get hm hi]
    congr 1
    rw [Nat.add_mod_mod, Nat.mod_add_mod]
    congr 1
    omega
  · rw [List.getElem?_eq_none, List.getElem?_eq_none]
    · rw [turnN_len (by omega)]; omega
    · rw [turnN_len (by rw [l1]; omega), l1]; omega
theorem fold_min : ∀ (xs : List (List Nat)) (x : List Nat), (xs.foldl (fun a y => if y < a then y else a) x ∈ x :: xs) ∧ ∀ y ∈ x :: xs, ¬ y < xs.foldl (fun a y => if y < a then y else a) x
  | [], x => by
    refine ⟨by simp, fun y hy => ?_⟩
    simp only [List.mem_cons, List.not_mem_nil, or_false] at hy
    subst hy
    exact List.lt_irrefl _
  | z :: xs, x => by
    simp only [List.foldl_cons]
    obtain ⟨h1, h2⟩ := fold_min xs (if z < x then z else x)
    by_cases h : z < x
    · simp only [if_pos h] at h1 h2 ⊢
      refine ⟨?_, fun y hy => ?_⟩
      · rcases List.mem_cons.mp h1 with e | e
        · rw [e]; simp
        · exact List.mem_cons_of_mem _ (List.mem_cons_of_mem _ e)
      · rcases List.mem_cons.mp hy with e | e
        · subst e
          intro hlt
          exact h2 z (List.mem_cons_self ..) (List.lt_trans h hlt)
        · exact h2 y e
    · simp only [if_neg h] at h1 h2 ⊢
      refine ⟨?_, fun y hy => ?_⟩
      · rcases List.mem_cons.mp h1 with e | e
        · rw [e]; simp
        · exact List.mem_cons_of_mem _ (List.mem_cons_of_mem _ e)
      · rcases List.mem_cons.mp hy with e | e
        · subst e
          exact h2 _ (List.mem_cons_self ..)
        · rcases List.mem_cons.mp e with e | e
          · subst e
            intro hlt
            have h3 := h2 x (List.mem_cons_self ..)
            exact h3 (List.lt_of_le_of_lt (List.not_lt.mp h) hlt)
          · exact h2 y (List.mem_cons_of_mem _ e)
theorem minS_mem {xs : List (List Nat)} (h : xs ≠ []) : minS xs ∈ xs := by
  cases xs with
  | nil => exact absurd rfl h
  | cons x xs => exact (fold_min xs x).1
theorem minS_le {xs : List (List Nat)} {y : List Nat} (h : y ∈ xs) : ¬ y < minS xs := by
  cases xs with
  | nil => cases h
  | cons x xs => exact (fold_min xs x).2 y h
theorem minS_ext {xs ys : List (List Nat)} (h1 : xs ≠ []) (h2 : ys ≠ []) (h : ∀ z, z ∈ xs ↔ z ∈ ys) : minS xs = minS ys :=
  List.le_antisymm (List.not_lt.mp (minS_le ((h _).mpr (minS_mem h2)))) (List.not_lt.mp (minS_le ((h _).mp (minS_mem h1))))
theorem turns_eq (w : List Nat) : (rng 0 w.length).map (turnW w) = (List.range w.length).map (turnN w) := by
  unfold rng
  rw [List.map_map]
  apply List.map_congr_left
  intro k _
  show turnW w (0 + (k : Int)) = _
  rw [Int.zero_add, turnW_nat]
theorem range_ne {n : Nat} (h : 0 < n) {α : Type} (f : Nat → α) : (List.range n).map f ≠ [] := by
  intro e
  have := congrArg List.length e
  simp at this
  omega
theorem least_mem {w : List Nat} (h : 0 < w.length) : ∃ k, k < w.length ∧ leastW w = turnN w k := by
  unfold leastW
  rw [turns_eq]
  obtain ⟨k, hk, e⟩ := List.mem_map.mp (minS_mem (range_ne h (turnN w)))
  exact ⟨k, List.mem_range.mp hk, e.symm⟩
theorem least_turnN {w : List Nat} {k : Nat} (hk : k < w.length) : leastW (turnN w k) = leastW w := by
  have hn : 0 < w.length := by omega
  unfold leastW
  rw [turns_eq, turns_eq, turnN_len (by omega)]
  refine minS_ext (range_ne hn _) (range_ne hn _) fun z => ?_
  simp only [List.mem_map, List.mem_range]
  constructor
  · rintro ⟨j, hj, rfl⟩
    exact ⟨(k + j) % w.length, Nat.mod_lt _ hn, (turnN_turnN hk hj).symm⟩
  · rintro ⟨j, hj, rfl⟩
    refine ⟨(j + (w.length - k)) % w.length, Nat.mod_lt _ hn, ?_⟩
    rw [turnN_turnN hk (Nat.mod_lt _ hn)]
    congr 1
    rw [Nat.add_mod_mod, show k + (j + (w.length - k)) = j + w.length by omega, Nat.add_mod_right, Nat.mod_eq_of_lt hj]
theorem least_len {w : List Nat} (h : 0 < w.length) : (leastW w).length = w.length := by
  obtain ⟨k, hk, e⟩ := least_mem h
  rw [e, turnN_len (by omega)]
theorem least_ac {w : List Nat} (h : 0 < w.length) (ha : Ac w) : Ac (leastW w) := by
  obtain ⟨k, hk, e⟩ := least_mem h
  rw [e]; exact turnN_ac ha
theorem least_least {w : List Nat} (h : 0 < w.length) : leastW (leastW w) = leastW w := by
  obtain ⟨k, hk, e⟩ := least_mem h
  rw [e, least_turnN hk, e]
end Y

namespace Y
open PySem PySem.Spec PyProof.Rows L2 Z
section
variable {α : Type} {q : Tk} {c : Nat} {P : α → Prop} {f : Vl → M α}
theorem q_pickL (q : Tk) (ds : List D) : m__law_pick [.drw q, .lst ds] = .take q ds.length fun i => (M.of (atI ds i)).bind fun d => .ok (.s, d) := by
  simp [bodyM, eVar, eC, eOp, eUn, eNil, eCons, eCB, eCO, eCOV, eLst, eTup, eB, eAnd, eOr, eNot, eBv, eAndV, eOrV, eNotV, eIf, eChain, eCall, okA, eTgN, eTgNil, eTgCons, eTgT, eRng, wipeE, noOwn, eLc, eYes, eDc, bNext, bSeq, bRet, bSet, bAsg, bDrop, bIf, bRaise, bFor, frzE, bFrz, setsE, bSets, isiD, tyName, chars, rng_len, eDGet2, eDNew, bApp, ownL, ownD, bDPut, eSl, ePart, eNo, eItA, itA, itD, eIxA, eJoin, isV, iop, cop, subD, modD, fdivD, leD, gtD, geD, eqB, neB, isBlD, notBlD, keyD, isDic, m__law_pick, b__law_pick, lenD, m_take, ixA, ixD]
theorem q_pickS (q : Tk) {w : List Nat} (hl : w.length ≤ 10000) : m__law_pick [.drw q, .str w] = .take q w.length fun i => (M.of ((atI w i).map fun c => .str [c])).bind fun d => .ok (.s, d) := by
  have hl' : w.length ≤ 10000000 := by omega
  simp [bodyM, eVar, eC, eOp, eUn, eNil, eCons, eCB, eCO, eCOV, eLst, eTup, eB, eAnd, eOr, eNot, eBv, eAndV, eOrV, eNotV, eIf, eChain, eCall, okA, eTgN, eTgNil, eTgCons, eTgT, eRng, wipeE, noOwn, eLc, eYes, eDc, bNext, bSeq, bRet, bSet, bAsg, bDrop, bIf, bRaise, bFor, frzE, bFrz, setsE, bSets, isiD, tyName, chars, rng_len, eDGet2, eDNew, bApp, ownL, ownD, bDPut, eSl, ePart, eNo, eItA, itA, itD, eIxA, eJoin, isV, iop, cop, subD, modD, fdivD, leD, gtD, geD, eqB, neB, isBlD, notBlD, keyD, isDic, m__law_pick, b__law_pick, lenD, m_take, ixA, ixD, hl']
theorem Dn.pickL {ds : List D} (h0 : ds ≠ []) (hl : ds.length < 1000000000) (h : ∀ d ∈ ds, Dn q c (f (.s, d)) P) : Dn q (c + 1) ((m__law_pick [.drw q, .lst ds]).bind f) P := by
  rw [q_pickL]
  have hp : 0 < ds.length := List.length_pos_iff.mpr h0
  refine Dn.take (by omega) (by omega) fun i a b => ?_
  obtain ⟨d, e, hd⟩ := atI_some a b
  simp only [e]
  exact h d hd
theorem Dn.pickS {w : List Nat} (h0 : 0 < w.length) (hl : w.length ≤ 10000) (h : ∀ x ∈ w, Dn q c (f (.s, .str [x])) P) : Dn q (c + 1) ((m__law_pick [.drw q, .str w]).bind f) P := by
  rw [q_pickS q hl]
  refine Dn.take (by omega) (by omega) fun i a b => ?_
  obtain ⟨d, e, hd⟩ := atI_some a b
  simp only [e]
  exact h d hd
end
section
variable {q : Tk}
theorem d_signs : Dn q 1 (m__law_signs [.drw q]) fun r => ∃ w, r = (.s, .str w) ∧ Ac w ∧ 0 < w.length ∧ w.length ≤ 10 := by
  simp [bodyM, eVar, eC, eOp, eUn, eNil, eCons, eCB, eCO, eCOV, eLst, eTup, eB, eAnd, eOr, eNot, eBv, eAndV, eOrV, eNotV, eIf, eChain, eCall, okA, eTgN, eTgNil, eTgCons, eTgT, eRng, wipeE, noOwn, eLc, eYes, eDc, bNext, bSeq, bRet, bSet, bAsg, bDrop, bIf, bRaise, bFor, frzE, bFrz, setsE, bSets, isiD, tyName, chars, rng_len, eDGet2, eDNew, bApp, ownL, ownD, bDPut, eSl, ePart, eNo, eItA, itA, itD, eIxA, eJoin, isV, iop, cop, subD, modD, fdivD, leD, gtD, geD, eqB, neB, isBlD, notBlD, keyD, isDic, m__law_signs, b__law_signs]
  refine Dn.pickL (c := 0) (by simp) (by simp) fun d hd => Dn.ok ?_
  simp only [List.mem_cons, List.not_mem_nil, or_false] at hd
  rcases hd with rfl | rfl | rfl | rfl | rfl | rfl | rfl | rfl | rfl | rfl
  all_goals exact ⟨_, rfl, by unfold Ac; decide, by decide, by decide⟩
theorem flat_len {α : Type} : ∀ (xs : List (List α)), (∀ x ∈ xs, x.length = 1) → xs.flatten.length = xs.length ∧ (xs.map List.length).sum = xs.length
  | [], _ => ⟨rfl, rfl⟩
  | x :: xs, h => by
    obtain ⟨h1, h2⟩ := flat_len xs fun y hy => h y (List.mem_cons_of_mem _ hy)
    have h3 := h x (List.mem_cons_self ..)
    simp only [List.flatten_cons, List.length_append, List.map_cons, List.sum_cons, List.length_cons]
    omega
/-- a list of texts as data -/
theorem strs_all : ∀ (rs : List D) (P : List Nat → Prop), (∀ r ∈ rs, ∃ w, r = .str w ∧ P w) → ∃ ws : List (List Nat), rs = ws.map .str ∧ ∀ w ∈ ws, P w
  | [], _, _ => ⟨[], rfl, fun _ h => nomatch h⟩
  | r :: rs, P, h => by
    obtain ⟨w, rfl, hw⟩ := h r (List.mem_cons_self ..)
    obtain ⟨ws, e, hws⟩ := strs_all rs P fun x hx => h x (List.mem_cons_of_mem _ hx)
    refine ⟨w :: ws, by rw [e]; rfl, fun x hx => ?_⟩
    rcases List.mem_cons.mp hx with rfl | hx
    · exact hw
    · exact hws x hx
theorem d_letters {w : List Nat} {n : Nat} (hw : Ac w) (h0 : 0 < w.length) (hl : w.length ≤ 1000) (hn : n ≤ 1000) : Dn q n (m__law_letters [.drw q, .str w, .int n]) fun r => ∃ z, r = (.s, .str z) ∧ Ac z ∧ z.length = n := by
  have h1 : (n : Int) ≤ 1000000 := by omega
  have h2 : (-1000000 : Int) ≤ n := by omega
  have h3 : n ≤ 100000 := by omega
  simp [bodyM, eVar, eC, eOp, eUn, eNil, eCons, eCB, eCO, eCOV, eLst, eTup, eB, eAnd, eOr, eNot, eBv, eAndV, eOrV, eNotV, eIf, eChain, eCall, okA, eTgN, eTgNil, eTgCons, eTgT, eRng, wipeE, noOwn, eLc, eYes, eDc, bNext, bSeq, bRet, bSet, bAsg, bDrop, bIf, bRaise, bFor, frzE, bFrz, setsE, bSets, isiD, tyName, chars, rng_len, eDGet2, eDNew, bApp, ownL, ownD, bDPut, eSl, ePart, eNo, eItA, itA, itD, eIxA, eJoin, isV, iop, cop, subD, modD, fdivD, leD, gtD, geD, eqB, neB, isBlD, notBlD, keyD, isDic, m__law_letters, b__law_letters, rngD1, h1, h2, dInts, h3]
  refine (Dn.bind (c1 := (rng 0 n).length * 1) (c2 := 0) (Dn.nox (Dn.lcGo (P := fun d => ∃ z, d = .str z ∧ Ac z ∧ z.length = 1) (fun i => D.int i) (rng 0 n) fun i _ => ⟨_, rfl, rfl, ?_⟩)) fun rs hrs => ?_).le (by rw [rng_len]; omega)
  · simp [bodyM, eVar, eC, eOp, eUn, eNil, eCons, eCB, eCO, eCOV, eLst, eTup, eB, eAnd, eOr, eNot, eBv, eAndV, eOrV, eNotV, eIf, eChain, eCall, okA, eTgN, eTgNil, eTgCons, eTgT, eRng, wipeE, noOwn, eLc, eYes, eDc, bNext, bSeq, bRet, bSet, bAsg, bDrop, bIf, bRaise, bFor, frzE, bFrz, setsE, bSets, isiD, tyName, chars, rng_len, eDGet2, eDNew, bApp, ownL, ownD, bDPut, eSl, ePart, eNo, eItA, itA, itD, eIxA, eJoin, isV, iop, cop, subD, modD, fdivD, leD, gtD, geD, eqB, neB, isBlD, notBlD, keyD, isDic]
    exact Dn.pickS (c := 0) h0 (by omega) fun x hx => Dn.ok ⟨rfl, [x], rfl, fun y hy => by simp at hy; rw [hy]; exact hw x hx, rfl⟩
  · obtain ⟨hlen, hall⟩ := hrs
    obtain ⟨ws, rfl, hws⟩ := strs_all rs _ hall
    obtain ⟨f1, f2⟩ := flat_len ws fun x hx => (hws x hx).2
    have f3 : ws.length = n := by rw [← rng_len 0 n, ← hlen]; simp
    have f4 : (ws.map List.length).sum ≤ 10000000 := by omega
    refine Dn.pure (a := (.s, .str ws.flatten)) ?_ ⟨_, rfl, fun c hc => ?_, by omega⟩
    · simp [bodyM, eVar, eC, eOp, eUn, eNil, eCons, eCB, eCO, eCOV, eLst, eTup, eB, eAnd, eOr, eNot, eBv, eAndV, eOrV, eNotV, eIf, eChain, eCall, okA, eTgN, eTgNil, eTgCons, eTgT, eRng, wipeE, noOwn, eLc, eYes, eDc, bNext, bSeq, bRet, bSet, bAsg, bDrop, bIf, bRaise, bFor, frzE, bFrz, setsE, bSets, isiD, tyName, chars, rng_len, eDGet2, eDNew, bApp, ownL, ownD, bDPut, eSl, ePart, eNo, eItA, itA, itD, eIxA, eJoin, isV, iop, cop, subD, modD, fdivD, leD, gtD, geD, eqB, neB, isBlD, notBlD, keyD, isDic, joinD, f4]
    · obtain ⟨x, hx, hc⟩ := List.mem_flatten.mp hc
      exact (hws x hx).1 c hc
theorem ac_app {a b : List Nat} (ha : Ac a) (hb : Ac b) : Ac (a ++ b) := fun c hc => by
  rcases List.mem_append.mp hc with h | h
  · exact ha c h
  · exact hb c h
theorem ac_take {a : List Nat} {n : Nat} (ha : Ac a) : Ac (a.take n) := fun c hc => ha c (List.mem_of_mem_take hc)
theorem d_text {most : Nat} (h0 : 0 < most) (hm : most ≤ 100) : Dn q 400 (m__law_text [.drw q, .int most]) fun r => ∃ w, r = (.s, .str w) ∧ Ac w ∧ 0 < w.length ∧ w.length ≤ most := by
  simp [bodyM, eVar, eC, eOp, eUn, eNil, eCons, eCB, eCO, eCOV, eLst, eTup, eB, eAnd, eOr, eNot, eBv, eAndV, eOrV, eNotV, eIf, eChain, eCall, okA, eTgN, eTgNil, eTgCons, eTgT, eRng, wipeE, noOwn, eLc, eYes, eDc, bNext, bSeq, bRet, bSet, bAsg, bDrop, bIf, bRaise, bFor, frzE, bFrz, setsE, bSets, isiD, tyName, chars, rng_len, eDGet2, eDNew, bApp, ownL, ownD, bDPut, eSl, ePart, eNo, eItA, itA, itD, eIxA, eJoin, isV, iop, cop, subD, modD, fdivD, leD, gtD, geD, eqB, neB, isBlD, notBlD, keyD, isDic, m__law_text, b__law_text]
  refine (Dn.bind (c2 := 399) d_signs fun r hr => ?_).le (by omega)
  obtain ⟨z, rfl, hz, hz0, hz1⟩ := hr
  refine Dn.tk (c := 398) (by omega) (by omega) fun i a b => ?_
  obtain ⟨i, rfl⟩ : ∃ k : Nat, i = (k : Int) := ⟨i.toNat, by omega⟩
  have hn : (1 : Int) + (i : Int) = ((1 + i : Nat) : Int) := by omega
  simp [bodyM, eVar, eC, eOp, eUn, eNil, eCons, eCB, eCO, eCOV, eLst, eTup, eB, eAnd, eOr, eNot, eBv, eAndV, eOrV, eNotV, eIf, eChain, eCall, okA, eTgN, eTgNil, eTgCons, eTgT, eRng, wipeE, noOwn, eLc, eYes, eDc, bNext, bSeq, bRet, bSet, bAsg, bDrop, bIf, bRaise, bFor, frzE, bFrz, setsE, bSets, isiD, tyName, chars, rng_len, eDGet2, eDNew, bApp, ownL, ownD, bDPut, eSl, ePart, eNo, eItA, itA, itD, eIxA, eJoin, isV, iop, cop, subD, modD, fdivD, leD, gtD, geD, eqB, neB, isBlD, notBlD, keyD, isDic, addD]
  rw [hn]
  generalize hN : 1 + i = N
  have hN0 : 0 < N := by omega
  have hN1 : N ≤ most := by omega
  refine Dn.tk (c := 397) (by omega) (by omega) fun j a2 b2 => ?_
  simp [bodyM, eVar, eC, eOp, eUn, eNil, eCons, eCB, eCO, eCOV, eLst, eTup, eB, eAnd, eOr, eNot, eBv, eAndV, eOrV, eNotV, eIf, eChain, eCall, okA, eTgN, eTgNil, eTgCons, eTgT, eRng, wipeE, noOwn, eLc, eYes, eDc, bNext, bSeq, bRet, bSet, bAsg, bDrop, bIf, bRaise, bFor, frzE, bFrz, setsE, bSets, isiD, tyName, chars, rng_len, eDGet2, eDNew, bApp, ownL, ownD, bDPut, eSl, ePart, eNo, eItA, itA, itD, eIxA, eJoin, isV, iop, cop, subD, modD, fdivD, leD, gtD, geD, eqB, neB, isBlD, notBlD, keyD, isDic]
  by_cases hj : 0 < j
  · simp [bodyM, eVar, eC, eOp, eUn, eNil, eCons, eCB, eCO, eCOV, eLst, eTup, eB, eAnd, eOr, eNot, eBv, eAndV, eOrV, eNotV, eIf, eChain, eCall, okA, eTgN, eTgNil, eTgCons, eTgT, eRng, wipeE, noOwn, eLc, eYes, eDc, bNext, bSeq, bRet, bSet, bAsg, bDrop, bIf, bRaise, bFor, frzE, bFrz, setsE, bSets, isiD, tyName, chars, rng_len, eDGet2, eDNew, bApp, ownL, ownD, bDPut, eSl, ePart, eNo, eItA, itA, itD, eIxA, eJoin, isV, iop, cop, subD, modD, fdivD, leD, gtD, geD, eqB, neB, isBlD, notBlD, keyD, isDic, hj]
    refine (Dn.bind (c2 := 0) (d_letters (n := N) hz hz0 (by omega) (by omega)) fun r hr => ?_).le (by omega)
    obtain ⟨w, rfl, h1, h2⟩ := hr
    simp [bodyM, eVar, eC, eOp, eUn, eNil, eCons, eCB, eCO, eCOV, eLst, eTup, eB, eAnd, eOr, eNot, eBv, eAndV, eOrV, eNotV, eIf, eChain, eCall, okA, eTgN, eTgNil, eTgCons, eTgT, eRng, wipeE, noOwn, eLc, eYes, eDc, bNext, bSeq, bRet, bSet, bAsg, bDrop, bIf, bRaise, bFor, frzE, bFrz, setsE, bSets, isiD, tyName, chars, rng_len, eDGet2, eDNew, bApp, ownL, ownD, bDPut, eSl, ePart, eNo, eItA, itA, itD, eIxA, eJoin, isV, iop, cop, subD, modD, fdivD, leD, gtD, geD, eqB, neB, isBlD, notBlD, keyD, isDic]
    exact Dn.ok ⟨w, rfl, h1, by omega, by omega⟩
  · simp [bodyM, eVar, eC, eOp, eUn, eNil, eCons, eCB, eCO, eCOV, eLst, eTup, eB, eAnd, eOr, eNot, eBv, eAndV, eOrV, eNotV, eIf, eChain, eCall, okA, eTgN, eTgNil, eTgCons, eTgT, eRng, wipeE, noOwn, eLc, eYes, eDc, bNext, bSeq, bRet, bSet, bAsg, bDrop, bIf, bRaise, bFor, frzE, bFrz, setsE, bSets, isiD, tyName, chars, rng_len, eDGet2, eDNew, bApp, ownL, ownD, bDPut, eSl, ePart, eNo, eItA, itA, itD, eIxA, eJoin, isV, iop, cop, subD, modD, fdivD, leD, gtD, geD, eqB, neB, isBlD, notBlD, keyD, isDic, hj, rngD1, dInts]
    refine (Dn.bind (c1 := (rng 0 2).length * 6) (c2 := 300) (Dn.nox (Dn.lcGo (c := 6) (P := fun d => ∃ z, d = .str z ∧ Ac z ∧ 0 < z.length ∧ z.length ≤ 4) (fun i => D.int i) (rng 0 2) fun i _ => ⟨_, rfl, rfl, ?_⟩)) fun rs hrs => ?_).le (by rw [rng_len]; omega)
    · simp [bodyM, eVar, eC, eOp, eUn, eNil, eCons, eCB, eCO, eCOV, eLst, eTup, eB, eAnd, eOr, eNot, eBv, eAndV, eOrV, eNotV, eIf, eChain, eCall, okA, eTgN, eTgNil, eTgCons, eTgT, eRng, wipeE, noOwn, eLc, eYes, eDc, bNext, bSeq, bRet, bSet, bAsg, bDrop, bIf, bRaise, bFor, frzE, bFrz, setsE, bSets, isiD, tyName, chars, rng_len, eDGet2, eDNew, bApp, ownL, ownD, bDPut, eSl, ePart, eNo, eItA, itA, itD, eIxA, eJoin, isV, iop, cop, subD, modD, fdivD, leD, gtD, geD, eqB, neB, isBlD, notBlD, keyD, isDic]
      refine Dn.tk (c := 5) (by omega) (by omega) fun i a b => ?_
      obtain ⟨i, rfl⟩ : ∃ k : Nat, i = (k : Int) := ⟨i.toNat, by omega⟩
      have hn : (1 : Int) + (i : Int) = ((1 + i : Nat) : Int) := by omega
      simp [bodyM, eVar, eC, eOp, eUn, eNil, eCons, eCB, eCO, eCOV, eLst, eTup, eB, eAnd, eOr, eNot, eBv, eAndV, eOrV, eNotV, eIf, eChain, eCall, okA, eTgN, eTgNil, eTgCons, eTgT, eRng, wipeE, noOwn, eLc, eYes, eDc, bNext, bSeq, bRet, bSet, bAsg, bDrop, bIf, bRaise, bFor, frzE, bFrz, setsE, bSets, isiD, tyName, chars, rng_len, eDGet2, eDNew, bApp, ownL, ownD, bDPut, eSl, ePart, eNo, eItA, itA, itD, eIxA, eJoin, isV, iop, cop, subD, modD, fdivD, leD, gtD, geD, eqB, neB, isBlD, notBlD, keyD, isDic, addD]
      rw [hn]
      refine Dn.le (c := 1 + i + 0) ?_ (by omega)
      refine Dn.bind (d_letters (n := 1 + i) hz hz0 (by omega) (by omega)) fun r hr => ?_
      obtain ⟨w, rfl, h1, h2⟩ := hr
      exact Dn.ok ⟨rfl, w, rfl, h1, by omega, by omega⟩
    · obtain ⟨hlen, hall⟩ := hrs
      rw [rng_len] at hlen
      obtain ⟨ws, rfl, hws⟩ := strs_all rs _ hall
      have hN' : (N : Int) ≤ 1000000 := by omega
      simp [bodyM, eVar, eC, eOp, eUn, eNil, eCons, eCB, eCO, eCOV, eLst, eTup, eB, eAnd, eOr, eNot, eBv, eAndV, eOrV, eNotV, eIf, eChain, eCall, okA, eTgN, eTgNil, eTgCons, eTgT, eRng, wipeE, noOwn, eLc, eYes, eDc, bNext, bSeq, bRet, bSet, bAsg, bDrop, bIf, bRaise, bFor, frzE, bFrz, setsE, bSets, isiD, tyName, chars, rng_len, eDGet2, eDNew, bApp, ownL, ownD, bDPut, eSl, ePart, eNo, eItA, itA, itD, eIxA, eJoin, isV, iop, cop, subD, modD, fdivD, leD, gtD, geD, eqB, neB, isBlD, notBlD, keyD, isDic, hN']
      refine (Dn.bind (c1 := (rng 0 N).length * 1) (c2 := 0) (Dn.forGoR (J := fun r e => ∃ b4 f o6, e = [some (false, D.drw q), some (false, D.int most), some (false, D.str z), some (false, D.int N), some (b4, D.lst (ws.map .str)), some (false, D.str f), o6] ∧ Ac f ∧ N ≤ f.length + r.length ∧ f.length + 4 * r.length ≤ 4 * N) D.int (fun x r e he => ?_) (rng 0 N) _ ⟨true, [], none, rfl, fun _ h => (nomatch h), by rw [rng_len]; simp, by rw [rng_len]; simp⟩) fun o ho => ?_).le (by rw [rng_len]; omega)
      · obtain ⟨b4, f, o6, rfl, hf, hf1, hf2⟩ := he
        simp only [List.length_cons] at hf1 hf2
        refine ⟨_, rfl, ?_⟩
        have hws2 : ws.map D.str ≠ [] := by intro e; rw [e] at hlen; simp at hlen
        cases b4 <;> (conv => arg 3; simp [bodyM, eVar, eC, eOp, eUn, eNil, eCons, eCB, eCO, eCOV, eLst, eTup, eB, eAnd, eOr, eNot, eBv, eAndV, eOrV, eNotV, eIf, eChain, eCall, okA, eTgN, eTgNil, eTgCons, eTgT, eRng, wipeE, noOwn, eLc, eYes, eDc, bNext, bSeq, bRet, bSet, bAsg, bDrop, bIf, bRaise, bFor, frzE, bFrz, setsE, bSets, isiD, tyName, chars, rng_len, eDGet2, eDNew, bApp, ownL, ownD, bDPut, eSl, ePart, eNo, eItA, itA, itD, eIxA, eJoin, isV, iop, cop, subD, modD, fdivD, leD, gtD, geD, eqB, neB, isBlD, notBlD, keyD, isDic])
        all_goals
          refine Dn.pickL (c := 0) hws2 (by rw [hlen]; omega) fun d hd => ?_
          obtain ⟨w, hw, rfl⟩ := List.mem_map.mp hd
          obtain ⟨g1, g2, g3⟩ := hws w hw
          have g4 : f.length + w.length ≤ 10000000 := by omega
          (conv => arg 3; simp [bodyM, eVar, eC, eOp, eUn, eNil, eCons, eCB, eCO, eCOV, eLst, eTup, eB, eAnd, eOr, eNot, eBv, eAndV, eOrV, eNotV, eIf, eChain, eCall, okA, eTgN, eTgNil, eTgCons, eTgT, eRng, wipeE, noOwn, eLc, eYes, eDc, bNext, bSeq, bRet, bSet, bAsg, bDrop, bIf, bRaise, bFor, frzE, bFrz, setsE, bSets, isiD, tyName, chars, rng_len, eDGet2, eDNew, bApp, ownL, ownD, bDPut, eSl, ePart, eNo, eItA, itA, itD, eIxA, eJoin, isV, iop, cop, subD, modD, fdivD, leD, gtD, geD, eqB, neB, isBlD, notBlD, keyD, isDic, addD, g4])
          exact Dn.ok ⟨_, rfl, _, _, _, rfl, ac_app hf g1, by simp; omega, by simp; omega⟩
      · obtain ⟨e, rfl, b4, f, o6, rfl, hf, hf1, hf2⟩ := ho
        simp only [List.length_nil] at hf1 hf2
        have g4 : f.length ≤ 10000000 := by omega
        (conv => arg 3; simp [bodyM, eVar, eC, eOp, eUn, eNil, eCons, eCB, eCO, eCOV, eLst, eTup, eB, eAnd, eOr, eNot, eBv, eAndV, eOrV, eNotV, eIf, eChain, eCall, okA, eTgN, eTgNil, eTgCons, eTgT, eRng, wipeE, noOwn, eLc, eYes, eDc, bNext, bSeq, bRet, bSet, bAsg, bDrop, bIf, bRaise, bFor, frzE, bFrz, setsE, bSets, isiD, tyName, chars, rng_len, eDGet2, eDNew, bApp, ownL, ownD, bDPut, eSl, ePart, eNo, eItA, itA, itD, eIxA, eJoin, isV, iop, cop, subD, modD, fdivD, leD, gtD, geD, eqB, neB, isBlD, notBlD, keyD, isDic, slD, g4, cut_to])
        exact Dn.ok ⟨_, rfl, ac_take hf, by simp; omega, by simp; omega⟩
def oddL : List D := [.non, .bl true, .bl false, .int (-1), .int (10 ^ 30 - 1), .str [], .str [65], .str [97, 99, 103, 117], .str [97, 32, 99], .str [32, 97], .str [97, 99, 10], .tup [], .lst [], .dic [], .tup [.str [97]], .lst [.str [97]], .dic [(.inr [97], .int 1)], .tup [.non], .str [49], .tup [.str [97], .str [99]], .lst [.lst [.str [97]]], .str [110]]
theorem d_odd : Dn q 1 (m__law_odd [.drw q]) fun r => ∃ d ∈ oddL, r = (.s, d) := by
  have e1 : CPow 10 30 := by decide
  simp [bodyM, eVar, eC, eOp, eUn, eNil, eCons, eCB, eCO, eCOV, eLst, eTup, eB, eAnd, eOr, eNot, eBv, eAndV, eOrV, eNotV, eIf, eChain, eCall, okA, eTgN, eTgNil, eTgCons, eTgT, eRng, wipeE, noOwn, eLc, eYes, eDc, bNext, bSeq, bRet, bSet, bAsg, bDrop, bIf, bRaise, bFor, frzE, bFrz, setsE, bSets, isiD, tyName, chars, rng_len, eDGet2, eDNew, bApp, ownL, ownD, bDPut, eSl, ePart, eNo, eItA, itA, itD, eIxA, eJoin, isV, iop, cop, subD, modD, fdivD, leD, gtD, geD, eqB, neB, isBlD, notBlD, keyD, isDic, m__law_odd, b__law_odd, negD, powD, e1, eDisp, ePairs, mrgD, putD, addD]
  refine Dn.pickL (c := 0) (by simp) (by simp) fun d hd => Dn.ok ⟨d, ?_, rfl⟩
  exact hd
theorem odd_ring : ∀ d ∈ oddL, m_is_ring [d] = .ok (.s, .bl false) := by
  intro d hd
  simp only [oddL, List.mem_cons, List.not_mem_nil, or_false] at hd
  rcases hd with rfl | rfl | rfl | rfl | rfl | rfl | rfl | rfl | rfl | rfl | rfl | rfl | rfl | rfl | rfl | rfl | rfl | rfl | rfl | rfl | rfl | rfl <;> kernel_rfl
end
end Y

namespace Y
open PySem PySem.Spec PyProof.Rows L2 Z
section
variable {q : Tk} {c c1 c2 : Nat} {f g : Env → M Out} {env e' : Env} {P : Out → Prop} {R : Env → Prop}
theorem Dn.seq (h : Dn q c1 (f env) fun o => ∃ e, o = .nx e ∧ R e) (hg : ∀ e, R e → Dn q c2 (g e) P) : Dn q (c1 + c2) (bSeq f g env) P :=
  Dn.bind h fun o ⟨e, eo, r⟩ => by subst eo; exact hg e r
theorem Dn.seqP (h : f env = .ok (.nx e')) (hg : Dn q c (g e') P) : Dn q c (bSeq f g env) P := by
  show Dn q c ((f env).bind _) P
  rw [h]
  exact hg
end
def nf (o : Option D) : Option (Bool × D) := o.map fun d => (false, d)
theorem q_turns_list {w : List Nat} (hl : w.length ≤ 1000) (hw : wordI w = true) (env : Env) (h3 : env[3]? = some (some (false, D.str w))) (h10 : ∃ o, env[10]? = some (nf o)) (hlen : env.length = 11) :
    eLc (eRng rngD1 (eCons (eCB lenD (eCons (eVar 3) eNil)) eNil)) (eTgN 10) eYes (eCall m_turn (eCons (eVar 3) (eCons (eVar 10) eNil))) [10] env = .ok (.o, .lst ((rng 0 w.length).map fun i => .str (turnW w i))) := by
  obtain ⟨o, h10⟩ := h10
  have hno : noOwn env [10] = true := by
    simp only [noOwn, List.all_cons, List.all_nil, h10, nf]
    cases o <;> rfl
  have hl' : w.length ≤ 10000000 := by omega
  have h1 : (w.length : Int) ≤ 1000000 := by omega
  have h2 : (-1000000 : Int) ≤ w.length := by omega
  have h5 : w.length ≤ 100000 := by omega
  simp [bodyM, eVar, eC, eOp, eUn, eNil, eCons, eCB, eCO, eCOV, eLst, eTup, eB, eAnd, eOr, eNot, eBv, eAndV, eOrV, eNotV, eIf, eChain, eCall, okA, eTgN, eTgNil, eTgCons, eTgT, eRng, wipeE, noOwn, eLc, eYes, eDc, bNext, bSeq, bRet, bSet, bAsg, bDrop, bIf, bRaise, bFor, frzE, bFrz, setsE, bSets, isiD, tyName, chars, rng_len, eDGet2, eDNew, bApp, ownL, ownD, bDPut, eSl, ePart, eNo, eItA, itA, itD, eIxA, eJoin, isV, iop, cop, subD, modD, fdivD, leD, gtD, geD, eqB, neB, isBlD, notBlD, keyD, isDic, h3, lenD, hl', rngD1, h1, h2, dInts, h5, -noOwn, hno]
  rw [lc_map (fun i => D.int i) (fun i => D.str (turnW w i)) (fun i => (env.set 10 none).set 10 (some (false, D.int i))) (rng 0 w.length)]
  · simp
  · intro i hi
    obtain ⟨i0, i1⟩ := rng_mem hi
    refine ⟨rfl, rfl, .s, ?_, rfl⟩
    have e3 : ((env.set 10 none).set 10 (some (false, D.int i)))[3]? = some (some (false, D.str w)) := by simp [List.getElem?_set, h3]
    have e10 : ((env.set 10 none).set 10 (some (false, D.int i)))[10]? = some (some (false, D.int i)) := by simp [List.getElem?_set, hlen]
    simp only [eCall, eCons, eVar, e3, e10, eNil, ok_bind, okA, List.all_cons, List.all_nil, isV, dats_cons, dats_nil, q_turn (by omega) hw i0 (by omega)]
    rfl
theorem upper_eq (w : List Nat) : (Txt.upper (S w)).cps.toList = w.flatMap Unicode.upperOf := by
  show (placed (S w) fun _ c => Unicode.upperOf c).toList = _
  unfold placed
  rw [Array.toList_flatten, Array.toList_mapIdx, S_cps]
  have : ∀ (l : List Nat) (g : Nat → Array Nat), l.mapIdx (fun _ c => g c) = l.map g := fun l g => by
    apply List.ext_getElem?
    intro i
    simp
  rw [this, List.map_map, List.flatMap_def]
  congr 1
theorem upper_one {c : Nat} (h : c ∈ acgt) : Unicode.upperOf c = [c - 32] := by
  simp only [acgt, List.mem_cons, List.not_mem_nil, or_false] at h
  rcases h with rfl | rfl | rfl | rfl <;> decide +kernel
theorem upper_ac : ∀ {w : List Nat}, Ac w → w.flatMap Unicode.upperOf = w.map (· - 32)
  | [], _ => rfl
  | c :: w, h => by
    rw [List.flatMap_cons, upper_one (h c (List.mem_cons_self ..)), upper_ac fun x hx => h x (List.mem_cons_of_mem _ hx)]
    rfl
theorem upper_line {w : List Nat} (h : Ac w) (h0 : 0 < w.length) : lineI (w.map (· - 32)) = false := by
  cases w with
  | nil => simp at h0
  | cons c w =>
    have hc := h c (List.mem_cons_self ..)
    simp only [acgt, List.mem_cons, List.not_mem_nil, or_false] at hc
    unfold lineI
    rw [List.map_cons, List.all_cons, inS_one]
    rcases hc with rfl | rfl | rfl | rfl <;> rfl
theorem flat_rep {w : List Nat} (h : Ac w) : ∀ n : Nat, Ac (List.replicate n w).flatten ∧ (List.replicate n w).flatten.length = n * w.length
  | 0 => ⟨fun _ h => (nomatch h), by simp⟩
  | n + 1 => by
    obtain ⟨h1, h2⟩ := flat_rep h n
    rw [List.replicate_succ, List.flatten_cons]
    exact ⟨ac_app h h1, by rw [List.length_append, h2, Nat.add_mul]; omega⟩
theorem atI_map {α β : Type} (f : α → β) (xs : List α) (i : Int) : atI (xs.map f) i = (atI xs i).map f := by
  unfold atI
  simp
  cases ixN xs.length i <;> simp
theorem atI_rng {n : Nat} {i : Int} (h0 : 0 ≤ i) (h1 : i < n) : atI (rng 0 n) i = some i := by
  obtain ⟨k, rfl⟩ : ∃ k : Nat, i = (k : Int) := ⟨i.toNat, by omega⟩
  have hk : k < n := by omega
  unfold atI ixN
  simp [rng_len, rng, hk]
theorem bad_index {w : List Nat} (hl : w.length ≤ 1000) (hw : wordI w = true) {d : D} (h : m_is_between [d, .int 0, .int ((w.length : Int) - 1)] = .ok (.s, .bl false)) : m_turn [.str w, d] = .raise ⟨"BadIndex", []⟩ := by
  have hl' : w.length ≤ 10000000 := by omega
  simp [bodyM, eVar, eC, eOp, eUn, eNil, eCons, eCB, eCO, eCOV, eLst, eTup, eB, eAnd, eOr, eNot, eBv, eAndV, eOrV, eNotV, eIf, eChain, eCall, okA, eTgN, eTgNil, eTgCons, eTgT, eRng, wipeE, noOwn, eLc, eYes, eDc, bNext, bSeq, bRet, bSet, bAsg, bDrop, bIf, bRaise, bFor, frzE, bFrz, setsE, bSets, isiD, tyName, chars, rng_len, eDGet2, eDNew, bApp, ownL, ownD, bDPut, eSl, ePart, eNo, eItA, itA, itD, eIxA, eJoin, isV, iop, cop, subD, modD, fdivD, leD, gtD, geD, eqB, neB, isBlD, notBlD, keyD, isDic, m_turn, b_turn, q_need_word (by omega) hw, lenD, hl', h]
section
variable {q : Tk} {ns : List Int}
/-- what stands behind the text and its turns -/
abbrev EnT (ns : List Int) (q : Tk) (lap : D) (w : List Nat) (x4 x5 x6 : Option (Bool × D)) (o7 : Option D) (o10 : Option D) : Env :=
  [some (false, .scr ns), some (false, .drw q), some (false, lap), some (false, .str w), x4, x5, x6, nf o7, some (false, .lst ((rng 0 w.length).map fun i => .str (turnW w i))), some (false, .str (leastW w)), nf o10]
theorem repr_bl (b : Bool) : ∃ s, reprD [.bl b] = some (.str s) ∧ s = shw (.bool b) := by
  cases b <;> exact ⟨_, rfl, rfl⟩
end
end Y

namespace Y
open PySem PySem.Spec PyProof.Rows L2 Z
theorem turns_right {ns : List Int} (hl : ns.length ≤ 63) {dr : Dr} {n : Nat} (hn : 100000 ≤ n) : wp dr n (m__law_turns_right [.scr ns]) (fun _ n' r => n ≤ n' + 100000 ∧ r = (.s, .bl true)) (fun _ _ _ => False) := by
  have h1 : (3 : Int) + min (ns.length : Int) 12 = ((3 + min ns.length 12 : Nat) : Int) := by omega
  simp [m__law_turns_right, bodyM, b__law_turns_right, bSeq, bSet, eCall, eCons, eVar, eNil, okA, isV]
  refine dn_beg (c := 100000) (by omega) (fun q => ?_) hn
  simp [bFor, eRng, eCons, eOp, eC, eCB, eVar, eNil, lenD, minD2, addD, isV]
  rw [h1]
  generalize hN : 3 + min ns.length 12 = N
  have hN1 : N ≤ 15 := by omega
  have e1 : rngD1 [.int (N : Int)] = some ((rng 0 N).map D.int) := by
    have a1 : (N : Int) ≤ 1000000 := by omega
    have a2 : (-1000000 : Int) ≤ N := by omega
    simp [rngD1, a1, a2, dInts]
  simp only [e1, of_some, ok_bind]
  refine Dn.le (c := (rng 0 N).length * 2000 + 0) (Dn.bind (Dn.forGo (c := 2000) (I := fun e => ∃ o2 x3 x4 x5 x6 o7 x8 x9 o10, e = [some (false, D.scr ns), some (false, D.drw q), o2, x3, x4, x5, x6, nf o7, x8, x9, nf o10]) D.int (rng 0 N) _ ⟨none, none, none, none, none, none, none, none, none, rfl⟩ ?body) fun o ho => ?fin) (by rw [rng_len]; omega)
  case fin =>
    obtain ⟨e, rfl, _⟩ := ho
    exact Dn.ok rfl
  case body =>
    rintro x - e ⟨o2, x3, x4, x5, x6, o7, x8, x9, o10, rfl⟩
    refine ⟨_, rfl, ?_⟩
    simp only [List.set_cons_succ, List.set_cons_zero]
    -- the text
    refine Dn.le (c := 402 + 1500) (Dn.seq (c1 := 402) (c2 := 1500) (R := fun e => ∃ w, wordI w = true ∧ w.length ≤ 30 ∧ e = [some (false, D.scr ns), some (false, D.drw q), some (false, D.int x), some (false, D.str w), x4, x5, x6, nf o7, x8, x9, nf o10]) ?_ ?_) (by omega)
    · (conv => arg 3; simp [bodyM, eVar, eC, eOp, eUn, eNil, eCons, eCB, eCO, eCOV, eLst, eTup, eB, eAnd, eOr, eNot, eBv, eAndV, eOrV, eNotV, eIf, eChain, eCall, okA, eTgN, eTgNil, eTgCons, eTgT, eRng, wipeE, noOwn, eLc, eYes, eDc, bNext, bSeq, bRet, bSet, bAsg, bDrop, bIf, bRaise, bFor, frzE, bFrz, setsE, bSets, isiD, tyName, chars, rng_len, eDGet2, eDNew, bApp, ownL, ownD, bDPut, eSl, ePart, eNo, eItA, itA, itD, eIxA, eJoin, isV, iop, cop, subD, modD, fdivD, leD, gtD, geD, eqB, neB, isBlD, notBlD, keyD, isDic, frzE])
      refine Dn.bind (c1 := 400) (c2 := 2) (d_text (q := q) (most := 15) (by omega) (by omega)) fun r hr => ?_
      obtain ⟨w, rfl, w1, w2, w3⟩ := hr
      (conv => arg 3; simp [bodyM, eVar, eC, eOp, eUn, eNil, eCons, eCB, eCO, eCOV, eLst, eTup, eB, eAnd, eOr, eNot, eBv, eAndV, eOrV, eNotV, eIf, eChain, eCall, okA, eTgN, eTgNil, eTgCons, eTgT, eRng, wipeE, noOwn, eLc, eYes, eDc, bNext, bSeq, bRet, bSet, bAsg, bDrop, bIf, bRaise, bFor, frzE, bFrz, setsE, bSets, isiD, tyName, chars, rng_len, eDGet2, eDNew, bApp, ownL, ownD, bDPut, eSl, ePart, eNo, eItA, itA, itD, eIxA, eJoin, isV, iop, cop, subD, modD, fdivD, leD, gtD, geD, eqB, neB, isBlD, notBlD, keyD, isDic])
      refine Dn.pickL (c := 1) (by simp) (by simp) fun d hd => ?_
      have hd : d = .int 1 ∨ d = .int 2 := by simp at hd; exact hd
      obtain ⟨k, hk, rfl⟩ : ∃ k : Nat, (k = 1 ∨ k = 2) ∧ d = .int (k : Int) := by
        rcases hd with rfl | rfl
        · exact ⟨1, .inl rfl, rfl⟩
        · exact ⟨2, .inr rfl, rfl⟩
      obtain ⟨f1, f2⟩ := flat_rep w1 k
      have g1 : w.length * k ≤ 10000000 ∧ -1000000 ≤ (k : Int) ∧ (k : Int) ≤ 1000000 := by rcases hk with rfl | rfl <;> omega
      (conv => arg 3; simp [bodyM, eVar, eC, eOp, eUn, eNil, eCons, eCB, eCO, eCOV, eLst, eTup, eB, eAnd, eOr, eNot, eBv, eAndV, eOrV, eNotV, eIf, eChain, eCall, okA, eTgN, eTgNil, eTgCons, eTgT, eRng, wipeE, noOwn, eLc, eYes, eDc, bNext, bSeq, bRet, bSet, bAsg, bDrop, bIf, bRaise, bFor, frzE, bFrz, setsE, bSets, isiD, tyName, chars, rng_len, eDGet2, eDNew, bApp, ownL, ownD, bDPut, eSl, ePart, eNo, eItA, itA, itD, eIxA, eJoin, isV, iop, cop, subD, modD, fdivD, leD, gtD, geD, eqB, neB, isBlD, notBlD, keyD, isDic, mulD, g1])
      refine Dn.ok ⟨_, rfl, _, wordI_iff.mpr ⟨f1, ?_⟩, ?_, rfl⟩
      · rw [f2]; rcases hk with rfl | rfl <;> omega
      · rw [f2]; rcases hk with rfl | rfl <;> omega
    rintro e ⟨w, hw, hwl, rfl⟩
    obtain ⟨wa, w0⟩ := wordI_iff.mp hw
    -- its turns
    refine Dn.seqP (e' := [some (false, D.scr ns), some (false, D.drw q), some (false, D.int x), some (false, D.str w), x4, x5, x6, nf o7, some (true, .lst ((rng 0 w.length).map fun i => .str (turnW w i))), some (false, .str (leastW w)), nf o10]) (by simp [bodyM, eVar, eC, eOp, eUn, eNil, eCons, eCB, eCO, eCOV, eLst, eTup, eB, eAnd, eOr, eNot, eBv, eAndV, eOrV, eNotV, eIf, eChain, eCall, okA, eTgN, eTgNil, eTgCons, eTgT, eRng, wipeE, noOwn, eLc, eYes, eDc, bNext, bSeq, bRet, bSet, bAsg, bDrop, bIf, bRaise, bFor, frzE, bFrz, setsE, bSets, isiD, tyName, chars, rng_len, eDGet2, eDNew, bApp, ownL, ownD, bDPut, eSl, ePart, eNo, eItA, itA, itD, eIxA, eJoin, isV, iop, cop, subD, modD, fdivD, leD, gtD, geD, eqB, neB, isBlD, notBlD, keyD, isDic, q__law_turns (w := w) (by omega), q__law_least_turn (w := w) (by omega) w0]) ?_
    have okT : ∀ i ∈ rng 0 w.length, okS (turnW w i) := fun i hi => by
      obtain ⟨i0, i1⟩ := rng_mem hi
      obtain ⟨k, rfl⟩ : ∃ k : Nat, i = (k : Int) := ⟨i.toNat, by omega⟩
      rw [turnW_nat]
      exact (turnN_ac wa).okS
    refine Dn.seqP (e' := EnT ns q (.int x) w x4 x5 x6 o7 o10) ?_ ?_
    · simp only [bFrz, frzE, List.getElem?_cons_succ, List.getElem?_cons_zero, List.set_cons_succ, List.set_cons_zero, bIf, eB, eOp]
      rw [q_turns_list (w := w) (by omega) hw _ rfl ⟨o10, rfl⟩ rfl]
      simp [bodyM, eVar, eC, eOp, eUn, eNil, eCons, eCB, eCO, eCOV, eLst, eTup, eB, eAnd, eOr, eNot, eBv, eAndV, eOrV, eNotV, eIf, eChain, eCall, okA, eTgN, eTgNil, eTgCons, eTgT, eRng, wipeE, noOwn, eLc, eYes, eDc, bNext, bSeq, bRet, bSet, bAsg, bDrop, bIf, bRaise, bFor, frzE, bFrz, setsE, bSets, isiD, tyName, chars, rng_len, eDGet2, eDNew, bApp, ownL, ownD, bDPut, eSl, ePart, eNo, eItA, itA, itD, eIxA, eJoin, isV, iop, cop, subD, modD, fdivD, leD, gtD, geD, eqB, neB, isBlD, notBlD, keyD, isDic, eqD_strs okT okT]
    -- a spot
    have hl7 : w.length ≤ 10000000 := by omega
    refine Dn.le (c := 1 + 1000) (Dn.seq (c1 := 1) (c2 := 1000) (R := fun e => ∃ k : Nat, k < w.length ∧ e = EnT ns q (.int x) w (some (false, .int (k : Int))) x5 x6 o7 o10) ?_ ?_) (by omega)
    · (conv => arg 3; simp [bodyM, eVar, eC, eOp, eUn, eNil, eCons, eCB, eCO, eCOV, eLst, eTup, eB, eAnd, eOr, eNot, eBv, eAndV, eOrV, eNotV, eIf, eChain, eCall, okA, eTgN, eTgNil, eTgCons, eTgT, eRng, wipeE, noOwn, eLc, eYes, eDc, bNext, bSeq, bRet, bSet, bAsg, bDrop, bIf, bRaise, bFor, frzE, bFrz, setsE, bSets, isiD, tyName, chars, rng_len, eDGet2, eDNew, bApp, ownL, ownD, bDPut, eSl, ePart, eNo, eItA, itA, itD, eIxA, eJoin, isV, iop, cop, subD, modD, fdivD, leD, gtD, geD, eqB, neB, isBlD, notBlD, keyD, isDic, frzE, lenD, hl7])
      refine Dn.tk (c := 0) (by omega) (by omega) fun i a b => ?_
      obtain ⟨k, rfl⟩ : ∃ k : Nat, i = (k : Int) := ⟨i.toNat, by omega⟩
      (conv => arg 3; simp [bodyM, eVar, eC, eOp, eUn, eNil, eCons, eCB, eCO, eCOV, eLst, eTup, eB, eAnd, eOr, eNot, eBv, eAndV, eOrV, eNotV, eIf, eChain, eCall, okA, eTgN, eTgNil, eTgCons, eTgT, eRng, wipeE, noOwn, eLc, eYes, eDc, bNext, bSeq, bRet, bSet, bAsg, bDrop, bIf, bRaise, bFor, frzE, bFrz, setsE, bSets, isiD, tyName, chars, rng_len, eDGet2, eDNew, bApp, ownL, ownD, bDPut, eSl, ePart, eNo, eItA, itA, itD, eIxA, eJoin, isV, iop, cop, subD, modD, fdivD, leD, gtD, geD, eqB, neB, isBlD, notBlD, keyD, isDic])
      exact Dn.ok ⟨_, rfl, k, by omega, rfl⟩
    rintro e ⟨k, hk, rfl⟩
    have kT : turnW w (k : Int) = turnN w k := turnW_nat w k
    have tl : (turnN w k).length = w.length := turnN_len (by omega)
    have tw : wordI (turnN w k) = true := wordI_iff.mpr ⟨turnN_ac wa, by omega⟩
    have lw : wordI (leastW w) = true := wordI_iff.mpr ⟨least_ac w0 wa, by rw [least_len w0]; exact w0⟩
    have at8 : atI ((rng 0 w.length).map fun i => D.str (turnW w i)) (k : Int) = some (.str (turnN w k)) := by
      rw [atI_map, atI_rng (by omega) (by omega)]
      simp [kT]
    refine Dn.seqP (e' := EnT ns q (.int x) w (some (false, .int (k : Int))) x5 x6 o7 o10) ?_ ?_
    · simp [bodyM, eVar, eC, eOp, eUn, eNil, eCons, eCB, eCO, eCOV, eLst, eTup, eB, eAnd, eOr, eNot, eBv, eAndV, eOrV, eNotV, eIf, eChain, eCall, okA, eTgN, eTgNil, eTgCons, eTgT, eRng, wipeE, noOwn, eLc, eYes, eDc, bNext, bSeq, bRet, bSet, bAsg, bDrop, bIf, bRaise, bFor, frzE, bFrz, setsE, bSets, isiD, tyName, chars, rng_len, eDGet2, eDNew, bApp, ownL, ownD, bDPut, eSl, ePart, eNo, eItA, itA, itD, eIxA, eJoin, isV, iop, cop, subD, modD, fdivD, leD, gtD, geD, eqB, neB, isBlD, notBlD, keyD, isDic, ixA, ixD, at8, q_ring_of (w := turnN w k) (by omega) tw, least_turnN hk, eqD, eCallN, perm, q_ring_of (w := w) (by omega) hw, q_turn (w := w) (i := (k : Int)) (by omega) hw (by omega) (by omega), kT]
    refine Dn.seqP (e' := EnT ns q (.int x) w (some (false, .int (k : Int))) x5 x6 o7 o10) ?_ ?_
    · simp [bodyM, eVar, eC, eOp, eUn, eNil, eCons, eCB, eCO, eCOV, eLst, eTup, eB, eAnd, eOr, eNot, eBv, eAndV, eOrV, eNotV, eIf, eChain, eCall, okA, eTgN, eTgNil, eTgCons, eTgT, eRng, wipeE, noOwn, eLc, eYes, eDc, bNext, bSeq, bRet, bSet, bAsg, bDrop, bIf, bRaise, bFor, frzE, bFrz, setsE, bSets, isiD, tyName, chars, rng_len, eDGet2, eDNew, bApp, ownL, ownD, bDPut, eSl, ePart, eNo, eItA, itA, itD, eIxA, eJoin, isV, iop, cop, subD, modD, fdivD, leD, gtD, geD, eqB, neB, isBlD, notBlD, keyD, isDic, ixA, ixD, at8, q_is_ring (w := turnN w k) (by omega), least_turnN hk, eqD, eCallN, perm, tw, q_is_ring (w := leastW w) (by rw [least_len w0]; omega), lw, least_least w0]
      have ec : decide (leastW w = turnN w k) = decide (turnN w k = leastW w) := decide_eq_decide.mpr ⟨Eq.symm, Eq.symm⟩
      rw [ec]
      obtain ⟨z, hz, _⟩ := repr_bl (decide (turnN w k = leastW w))
      simp [hz]
    -- what is no ring
    have ll : (leastW w).length = w.length := least_len w0
    have la : Ac (leastW w) := least_ac w0 wa
    have l6 : (leastW w).length ≤ 1000000 := by omega
    refine Dn.le (c := 2 + 500) (Dn.seq (c1 := 2) (c2 := 500) (R := fun e => ∃ d, m_is_ring [d] = .ok (.s, .bl false) ∧ e = EnT ns q (.int x) w (some (false, .int (k : Int))) (some (false, d)) x6 o7 o10) ?_ ?_) (by omega)
    · (conv => arg 3; simp [bodyM, eVar, eC, eOp, eUn, eNil, eCons, eCB, eCO, eCOV, eLst, eTup, eB, eAnd, eOr, eNot, eBv, eAndV, eOrV, eNotV, eIf, eChain, eCall, okA, eTgN, eTgNil, eTgCons, eTgT, eRng, wipeE, noOwn, eLc, eYes, eDc, bNext, bSeq, bRet, bSet, bAsg, bDrop, bIf, bRaise, bFor, frzE, bFrz, setsE, bSets, isiD, tyName, chars, rng_len, eDGet2, eDNew, bApp, ownL, ownD, bDPut, eSl, ePart, eNo, eItA, itA, itD, eIxA, eJoin, isV, iop, cop, subD, modD, fdivD, leD, gtD, geD, eqB, neB, isBlD, notBlD, keyD, isDic, frzE])
      refine Dn.bind (c1 := 1) (c2 := 1) (d_odd (q := q)) fun r hr => ?_
      obtain ⟨d, hd, rfl⟩ := hr
      (conv => arg 3; simp [bodyM, eVar, eC, eOp, eUn, eNil, eCons, eCB, eCO, eCOV, eLst, eTup, eB, eAnd, eOr, eNot, eBv, eAndV, eOrV, eNotV, eIf, eChain, eCall, okA, eTgN, eTgNil, eTgCons, eTgT, eRng, wipeE, noOwn, eLc, eYes, eDc, bNext, bSeq, bRet, bSet, bAsg, bDrop, bIf, bRaise, bFor, frzE, bFrz, setsE, bSets, isiD, tyName, chars, rng_len, eDGet2, eDNew, bApp, ownL, ownD, bDPut, eSl, ePart, eNo, eItA, itA, itD, eIxA, eJoin, isV, iop, cop, subD, modD, fdivD, leD, gtD, geD, eqB, neB, isBlD, notBlD, keyD, isDic, eMt0, tyStr, upperD, l6, upper_eq, upper_ac la])
      refine Dn.pickL (c := 0) (by simp) (by simp) fun d' hd' => ?_
      have hr : m_is_ring [d'] = .ok (.s, .bl false) := by
        simp only [List.mem_cons, List.not_mem_nil, or_false] at hd'
        rcases hd' with rfl | rfl | rfl | rfl | rfl
        · exact odd_ring _ hd
        · simp [bodyM, eVar, eC, eOp, eUn, eNil, eCons, eCB, eCO, eCOV, eLst, eTup, eB, eAnd, eOr, eNot, eBv, eAndV, eOrV, eNotV, eIf, eChain, eCall, okA, eTgN, eTgNil, eTgCons, eTgT, eRng, wipeE, noOwn, eLc, eYes, eDc, bNext, bSeq, bRet, bSet, bAsg, bDrop, bIf, bRaise, bFor, frzE, bFrz, setsE, bSets, isiD, tyName, chars, rng_len, eDGet2, eDNew, bApp, ownL, ownD, bDPut, eSl, ePart, eNo, eItA, itA, itD, eIxA, eJoin, isV, iop, cop, subD, modD, fdivD, leD, gtD, geD, eqB, neB, isBlD, notBlD, keyD, isDic, m_is_ring, b_is_ring, m_is_word, b_is_word, m_is_line, b_is_line]
        · simp [bodyM, eVar, eC, eOp, eUn, eNil, eCons, eCB, eCO, eCOV, eLst, eTup, eB, eAnd, eOr, eNot, eBv, eAndV, eOrV, eNotV, eIf, eChain, eCall, okA, eTgN, eTgNil, eTgCons, eTgT, eRng, wipeE, noOwn, eLc, eYes, eDc, bNext, bSeq, bRet, bSet, bAsg, bDrop, bIf, bRaise, bFor, frzE, bFrz, setsE, bSets, isiD, tyName, chars, rng_len, eDGet2, eDNew, bApp, ownL, ownD, bDPut, eSl, ePart, eNo, eItA, itA, itD, eIxA, eJoin, isV, iop, cop, subD, modD, fdivD, leD, gtD, geD, eqB, neB, isBlD, notBlD, keyD, isDic, m_is_ring, b_is_ring, m_is_word, b_is_word, m_is_line, b_is_line]
        · rw [q_is_ring (by simp; omega)]
          simp [wordI, upper_line la (by omega)]
        · rw [q_is_ring (by simp)]
          simp [wordI]
      (conv => arg 3; simp [bodyM, eVar, eC, eOp, eUn, eNil, eCons, eCB, eCO, eCOV, eLst, eTup, eB, eAnd, eOr, eNot, eBv, eAndV, eOrV, eNotV, eIf, eChain, eCall, okA, eTgN, eTgNil, eTgCons, eTgT, eRng, wipeE, noOwn, eLc, eYes, eDc, bNext, bSeq, bRet, bSet, bAsg, bDrop, bIf, bRaise, bFor, frzE, bFrz, setsE, bSets, isiD, tyName, chars, rng_len, eDGet2, eDNew, bApp, ownL, ownD, bDPut, eSl, ePart, eNo, eItA, itA, itD, eIxA, eJoin, isV, iop, cop, subD, modD, fdivD, leD, gtD, geD, eqB, neB, isBlD, notBlD, keyD, isDic])
      exact Dn.ok ⟨_, rfl, d', hr, rfl⟩
    rintro e ⟨d, hd, rfl⟩
    refine Dn.seqP (e' := EnT ns q (.int x) w (some (false, .int (k : Int))) (some (false, d)) x6 o7 o10) (by simp [bodyM, eVar, eC, eOp, eUn, eNil, eCons, eCB, eCO, eCOV, eLst, eTup, eB, eAnd, eOr, eNot, eBv, eAndV, eOrV, eNotV, eIf, eChain, eCall, okA, eTgN, eTgNil, eTgCons, eTgT, eRng, wipeE, noOwn, eLc, eYes, eDc, bNext, bSeq, bRet, bSet, bAsg, bDrop, bIf, bRaise, bFor, frzE, bFrz, setsE, bSets, isiD, tyName, chars, rng_len, eDGet2, eDNew, bApp, ownL, ownD, bDPut, eSl, ePart, eNo, eItA, itA, itD, eIxA, eJoin, isV, iop, cop, subD, modD, fdivD, leD, gtD, geD, eqB, neB, isBlD, notBlD, keyD, isDic, hd]) ?_
    -- what is no index
    have e29 : CPow 10 29 := by decide
    refine Dn.le (c := 1 + 100) (Dn.seq (c1 := 1) (c2 := 100) (R := fun e => ∃ b, m_is_between [b, .int 0, .int ((w.length : Int) - 1)] = .ok (.s, .bl false) ∧ e = EnT ns q (.int x) w (some (false, .int (k : Int))) (some (false, d)) (some (false, b)) o7 o10) ?_ ?_) (by omega)
    · (conv => arg 3; simp [bodyM, eVar, eC, eOp, eUn, eNil, eCons, eCB, eCO, eCOV, eLst, eTup, eB, eAnd, eOr, eNot, eBv, eAndV, eOrV, eNotV, eIf, eChain, eCall, okA, eTgN, eTgNil, eTgCons, eTgT, eRng, wipeE, noOwn, eLc, eYes, eDc, bNext, bSeq, bRet, bSet, bAsg, bDrop, bIf, bRaise, bFor, frzE, bFrz, setsE, bSets, isiD, tyName, chars, rng_len, eDGet2, eDNew, bApp, ownL, ownD, bDPut, eSl, ePart, eNo, eItA, itA, itD, eIxA, eJoin, isV, iop, cop, subD, modD, fdivD, leD, gtD, geD, eqB, neB, isBlD, notBlD, keyD, isDic, frzE, lenD, hl7, negD, addD, powD, e29])
      refine Dn.pickL (c := 0) (by simp) (by simp) fun d' hd' => ?_
      have hr : m_is_between [d', .int 0, .int ((w.length : Int) - 1)] = .ok (.s, .bl false) := by
        simp only [List.mem_cons, List.not_mem_nil, or_false] at hd'
        rcases hd' with rfl | rfl | rfl | rfl | rfl | rfl | rfl | rfl
        · simp [bodyM, eVar, eC, eOp, eUn, eNil, eCons, eCB, eCO, eCOV, eLst, eTup, eB, eAnd, eOr, eNot, eBv, eAndV, eOrV, eNotV, eIf, eChain, eCall, okA, eTgN, eTgNil, eTgCons, eTgT, eRng, wipeE, noOwn, eLc, eYes, eDc, bNext, bSeq, bRet, bSet, bAsg, bDrop, bIf, bRaise, bFor, frzE, bFrz, setsE, bSets, isiD, tyName, chars, rng_len, eDGet2, eDNew, bApp, ownL, ownD, bDPut, eSl, ePart, eNo, eItA, itA, itD, eIxA, eJoin, isV, iop, cop, subD, modD, fdivD, leD, gtD, geD, eqB, neB, isBlD, notBlD, keyD, isDic, m_is_between, b_is_between, m_is_integer, b_is_integer]
        · simp [bodyM, eVar, eC, eOp, eUn, eNil, eCons, eCB, eCO, eCOV, eLst, eTup, eB, eAnd, eOr, eNot, eBv, eAndV, eOrV, eNotV, eIf, eChain, eCall, okA, eTgN, eTgNil, eTgCons, eTgT, eRng, wipeE, noOwn, eLc, eYes, eDc, bNext, bSeq, bRet, bSet, bAsg, bDrop, bIf, bRaise, bFor, frzE, bFrz, setsE, bSets, isiD, tyName, chars, rng_len, eDGet2, eDNew, bApp, ownL, ownD, bDPut, eSl, ePart, eNo, eItA, itA, itD, eIxA, eJoin, isV, iop, cop, subD, modD, fdivD, leD, gtD, geD, eqB, neB, isBlD, notBlD, keyD, isDic, m_is_between, b_is_between, m_is_integer, b_is_integer]
        · rw [q_is_between]; simp
        · rw [q_is_between]; simp; omega
        · rw [q_is_between]; simp; omega
        · simp [bodyM, eVar, eC, eOp, eUn, eNil, eCons, eCB, eCO, eCOV, eLst, eTup, eB, eAnd, eOr, eNot, eBv, eAndV, eOrV, eNotV, eIf, eChain, eCall, okA, eTgN, eTgNil, eTgCons, eTgT, eRng, wipeE, noOwn, eLc, eYes, eDc, bNext, bSeq, bRet, bSet, bAsg, bDrop, bIf, bRaise, bFor, frzE, bFrz, setsE, bSets, isiD, tyName, chars, rng_len, eDGet2, eDNew, bApp, ownL, ownD, bDPut, eSl, ePart, eNo, eItA, itA, itD, eIxA, eJoin, isV, iop, cop, subD, modD, fdivD, leD, gtD, geD, eqB, neB, isBlD, notBlD, keyD, isDic, m_is_between, b_is_between, m_is_integer, b_is_integer]
        · simp [bodyM, eVar, eC, eOp, eUn, eNil, eCons, eCB, eCO, eCOV, eLst, eTup, eB, eAnd, eOr, eNot, eBv, eAndV, eOrV, eNotV, eIf, eChain, eCall, okA, eTgN, eTgNil, eTgCons, eTgT, eRng, wipeE, noOwn, eLc, eYes, eDc, bNext, bSeq, bRet, bSet, bAsg, bDrop, bIf, bRaise, bFor, frzE, bFrz, setsE, bSets, isiD, tyName, chars, rng_len, eDGet2, eDNew, bApp, ownL, ownD, bDPut, eSl, ePart, eNo, eItA, itA, itD, eIxA, eJoin, isV, iop, cop, subD, modD, fdivD, leD, gtD, geD, eqB, neB, isBlD, notBlD, keyD, isDic, m_is_between, b_is_between, m_is_integer, b_is_integer]
        · rw [q_is_between]; simp; omega
      (conv => arg 3; simp [bodyM, eVar, eC, eOp, eUn, eNil, eCons, eCB, eCO, eCOV, eLst, eTup, eB, eAnd, eOr, eNot, eBv, eAndV, eOrV, eNotV, eIf, eChain, eCall, okA, eTgN, eTgNil, eTgCons, eTgT, eRng, wipeE, noOwn, eLc, eYes, eDc, bNext, bSeq, bRet, bSet, bAsg, bDrop, bIf, bRaise, bFor, frzE, bFrz, setsE, bSets, isiD, tyName, chars, rng_len, eDGet2, eDNew, bApp, ownL, ownD, bDPut, eSl, ePart, eNo, eItA, itA, itD, eIxA, eJoin, isV, iop, cop, subD, modD, fdivD, leD, gtD, geD, eqB, neB, isBlD, notBlD, keyD, isDic])
      exact Dn.ok ⟨_, rfl, d', hr, rfl⟩
    rintro e ⟨b, hb, rfl⟩
    refine Dn.seqP (e' := EnT ns q (.int x) w (some (false, .int (k : Int))) (some (false, d)) (some (false, b)) (some (.exc "BadIndex" [])) o10) ?_ ?_
    · have hf : frzE (EnT ns q (.int x) w (some (false, .int (k : Int))) (some (false, d)) (some (false, b)) o7 o10) [1, 4, 5, 6, 7, 8, 9] = EnT ns q (.int x) w (some (false, .int (k : Int))) (some (false, d)) (some (false, b)) o7 o10 := by cases o7 <;> rfl
      have hno : noOwns (EnT ns q (.int x) w (some (false, .int (k : Int))) (some (false, d)) (some (false, b)) o7 o10) = true := by cases o7 <;> cases o10 <;> rfl
      have hc : ("BadIndex" : Str) ∈ CAT := by decide
      simp only [bFrz, hf, bSet, eCaught, hno, if_true]
      simp [bodyM, eVar, eC, eOp, eUn, eNil, eCons, eCB, eCO, eCOV, eLst, eTup, eB, eAnd, eOr, eNot, eBv, eAndV, eOrV, eNotV, eIf, eChain, eCall, okA, eTgN, eTgNil, eTgCons, eTgT, eRng, wipeE, noOwn, eLc, eYes, eDc, bNext, bSeq, bRet, bSet, bAsg, bDrop, bIf, bRaise, bFor, frzE, bFrz, setsE, bSets, isiD, tyName, chars, rng_len, eDGet2, eDNew, bApp, ownL, ownD, bDPut, eSl, ePart, eNo, eItA, itA, itD, eIxA, eJoin, isV, iop, cop, subD, modD, fdivD, leD, gtD, geD, eqB, neB, isBlD, notBlD, keyD, isDic, bad_index (by omega) hw hb, hc, nf]
    refine Dn.pure (a := .nx (EnT ns q (.int x) w (some (false, .int (k : Int))) (some (false, d)) (some (false, b)) (some (.exc "BadIndex" [])) o10)) ?_ ⟨_, rfl, _, _, _, _, _, _, _, _, _, rfl⟩
    have x1 : lookX XT "BadIndex" "BadIndex" = some true := by decide
    have x2 : lookX XT "BadIndex" "BadWord" = some false := by decide
    simp [bodyM, eVar, eC, eOp, eUn, eNil, eCons, eCB, eCO, eCOV, eLst, eTup, eB, eAnd, eOr, eNot, eBv, eAndV, eOrV, eNotV, eIf, eChain, eCall, okA, eTgN, eTgNil, eTgCons, eTgT, eRng, wipeE, noOwn, eLc, eYes, eDc, bNext, bSeq, bRet, bSet, bAsg, bDrop, bIf, bRaise, bFor, frzE, bFrz, setsE, bSets, isiD, tyName, chars, rng_len, eDGet2, eDNew, bApp, ownL, ownD, bDPut, eSl, ePart, eNo, eItA, itA, itD, eIxA, eJoin, isV, iop, cop, subD, modD, fdivD, leD, gtD, geD, eqB, neB, isBlD, notBlD, keyD, isDic, nf, x1, x2]
end Y

namespace Y
open PySem PySem.Spec PyProof.Rows L2 Z
theorem readW_len (w : List Nat) (a : Int) (n : Nat) : (readW w a n).length = n := by simp [readW, rng_len]
theorem readW_ac {w : List Nat} {a : Int} {n : Nat} (h : Ac w) (h0 : 0 < w.length) : Ac (readW w a n) := fun c hc => by
  obtain ⟨s, _, rfl⟩ := List.mem_map.mp hc
  have e := atI_mod' (i := a + s) h0
  unfold atI at e
  cases h1 : ixN w.length ((a + s).fmod (w.length : Int)) with
  | none => rw [h1] at e; simp at e
  | some j =>
    unfold atI
    rw [h1] at e ⊢
    simp only [Option.bind_some] at e ⊢
    exact h _ (List.mem_of_getElem? e)
theorem q_ring_stretches {w : List Nat} {n : Nat} (hl : w.length ≤ 10000) (hw : 0 < w.length) (hn : n ≤ 10000) : m_ring_stretches [.str w, .int n] = .ok (.o, .lst ((rng 0 w.length).map fun i => .str (readW w i n))) := by
  have hl' : w.length ≤ 10000000 := by omega
  have h1 : (w.length : Int) ≤ 1000000 := by omega
  have h2 : (-1000000 : Int) ≤ w.length := by omega
  have h3 : w.length ≤ 100000 := by omega
  simp [bodyM, eVar, eC, eOp, eUn, eNil, eCons, eCB, eCO, eCOV, eLst, eTup, eB, eAnd, eOr, eNot, eBv, eAndV, eOrV, eNotV, eIf, eChain, eCall, okA, eTgN, eTgNil, eTgCons, eTgT, eRng, wipeE, noOwn, eLc, eYes, eDc, bNext, bSeq, bRet, bSet, bAsg, bDrop, bIf, bRaise, bFor, frzE, bFrz, setsE, bSets, isiD, tyName, chars, rng_len, eDGet2, eDNew, bApp, ownL, ownD, bDPut, eSl, ePart, eNo, eItA, itA, itD, eIxA, eJoin, isV, iop, cop, subD, modD, fdivD, leD, gtD, geD, eqB, neB, isBlD, notBlD, keyD, isDic, m_ring_stretches, b_ring_stretches, lenD, hl', rngD1, h1, h2, dInts, h3]
  rw [lc_map (fun i => D.int i) (fun i => D.str (readW w i n)) (fun i => [some (false, D.str w), some (false, D.int n), some (false, D.int i)]) (rng 0 w.length)]
  · simp
  · exact fun i _ => ⟨rfl, rfl, .s, by simp [bodyM, eVar, eC, eOp, eUn, eNil, eCons, eCB, eCO, eCOV, eLst, eTup, eB, eAnd, eOr, eNot, eBv, eAndV, eOrV, eNotV, eIf, eChain, eCall, okA, eTgN, eTgNil, eTgCons, eTgT, eRng, wipeE, noOwn, eLc, eYes, eDc, bNext, bSeq, bRet, bSet, bAsg, bDrop, bIf, bRaise, bFor, frzE, bFrz, setsE, bSets, isiD, tyName, chars, rng_len, eDGet2, eDNew, bApp, ownL, ownD, bDPut, eSl, ePart, eNo, eItA, itA, itD, eIxA, eJoin, isV, iop, cop, subD, modD, fdivD, leD, gtD, geD, eqB, neB, isBlD, notBlD, keyD, isDic, q_read_on hl hw hn], rfl⟩
theorem q__law_read_on {w : List Nat} {a : Int} {n : Nat} (hl : w.length ≤ 10000) (hw : 0 < w.length) (hn : n ≤ 10000) : m__law_read_on [.str w, .int a, .int n] = .ok (.s, .str (readW w a n)) := by
  have hl' : w.length ≤ 10000000 := by omega
  have h1 : (n : Int) ≤ 1000000 := by omega
  have h2 : (-1000000 : Int) ≤ n := by omega
  have h3 : n ≤ 100000 := by omega
  have h4 : ¬ w = [] := by intro e; simp [e] at hw
  simp [bodyM, eVar, eC, eOp, eUn, eNil, eCons, eCB, eCO, eCOV, eLst, eTup, eB, eAnd, eOr, eNot, eBv, eAndV, eOrV, eNotV, eIf, eChain, eCall, okA, eTgN, eTgNil, eTgCons, eTgT, eRng, wipeE, noOwn, eLc, eYes, eDc, bNext, bSeq, bRet, bSet, bAsg, bDrop, bIf, bRaise, bFor, frzE, bFrz, setsE, bSets, isiD, tyName, chars, rng_len, eDGet2, eDNew, bApp, ownL, ownD, bDPut, eSl, ePart, eNo, eItA, itA, itD, eIxA, eJoin, isV, iop, cop, subD, modD, fdivD, leD, gtD, geD, eqB, neB, isBlD, notBlD, keyD, isDic, m__law_read_on, b__law_read_on, lenD, hl', rngD1, h1, h2, dInts, h3]
  rw [lc_map (fun i => D.int i) (fun s => D.str [(atI w ((a + s).fmod w.length)).getD 0]) (fun i => [some (false, D.str w), some (false, D.int a), some (false, .int n), some (false, D.int i)]) (rng 0 n)]
  · have e : ((rng 0 n).map (List.length ∘ fun s => [(atI w ((a + s).fmod w.length)).getD 0])).sum ≤ 10000000 := by
      rw [← List.map_map, sum_one _ _ fun _ => rfl, rng_len]; omega
    simp [joinD, e, flatten_single, readW]
  · refine fun i _ => ⟨rfl, rfl, .s, ?_, rfl⟩
    simp [bodyM, eVar, eC, eOp, eUn, eNil, eCons, eCB, eCO, eCOV, eLst, eTup, eB, eAnd, eOr, eNot, eBv, eAndV, eOrV, eNotV, eIf, eChain, eCall, okA, eTgN, eTgNil, eTgCons, eTgT, eRng, wipeE, noOwn, eLc, eYes, eDc, bNext, bSeq, bRet, bSet, bAsg, bDrop, bIf, bRaise, bFor, frzE, bFrz, setsE, bSets, isiD, tyName, chars, rng_len, eDGet2, eDNew, bApp, ownL, ownD, bDPut, eSl, ePart, eNo, eItA, itA, itD, eIxA, eJoin, isV, iop, cop, subD, modD, fdivD, leD, gtD, geD, eqB, neB, isBlD, notBlD, keyD, isDic, addD, intD, lenD, hl', h4, ixA, ixD]
    rw [atI_mod' hw]
    rfl
theorem q__law_ring_runs {w : List Nat} {n : Nat} (hl : w.length ≤ 10000) (hw : 0 < w.length) (hn : n ≤ 10000) : m__law_ring_runs [.str w, .int n] = .ok (.o, .lst ((rng 0 w.length).map fun i => .str (readW w i n))) := by
  have hl' : w.length ≤ 10000000 := by omega
  have h1 : (w.length : Int) ≤ 1000000 := by omega
  have h2 : (-1000000 : Int) ≤ w.length := by omega
  have h3 : w.length ≤ 100000 := by omega
  simp [bodyM, eVar, eC, eOp, eUn, eNil, eCons, eCB, eCO, eCOV, eLst, eTup, eB, eAnd, eOr, eNot, eBv, eAndV, eOrV, eNotV, eIf, eChain, eCall, okA, eTgN, eTgNil, eTgCons, eTgT, eRng, wipeE, noOwn, eLc, eYes, eDc, bNext, bSeq, bRet, bSet, bAsg, bDrop, bIf, bRaise, bFor, frzE, bFrz, setsE, bSets, isiD, tyName, chars, rng_len, eDGet2, eDNew, bApp, ownL, ownD, bDPut, eSl, ePart, eNo, eItA, itA, itD, eIxA, eJoin, isV, iop, cop, subD, modD, fdivD, leD, gtD, geD, eqB, neB, isBlD, notBlD, keyD, isDic, m__law_ring_runs, b__law_ring_runs, lenD, hl', rngD1, h1, h2, dInts, h3]
  rw [lc_map (fun i => D.int i) (fun i => D.str (readW w i n)) (fun i => [some (false, D.str w), some (false, D.int n), some (false, D.int i)]) (rng 0 w.length)]
  · simp
  · exact fun i _ => ⟨rfl, rfl, .s, by simp [bodyM, eVar, eC, eOp, eUn, eNil, eCons, eCB, eCO, eCOV, eLst, eTup, eB, eAnd, eOr, eNot, eBv, eAndV, eOrV, eNotV, eIf, eChain, eCall, okA, eTgN, eTgNil, eTgCons, eTgT, eRng, wipeE, noOwn, eLc, eYes, eDc, bNext, bSeq, bRet, bSet, bAsg, bDrop, bIf, bRaise, bFor, frzE, bFrz, setsE, bSets, isiD, tyName, chars, rng_len, eDGet2, eDNew, bApp, ownL, ownD, bDPut, eSl, ePart, eNo, eItA, itA, itD, eIxA, eJoin, isV, iop, cop, subD, modD, fdivD, leD, gtD, geD, eqB, neB, isBlD, notBlD, keyD, isDic, q__law_read_on hl hw hn], rfl⟩
theorem enum_rng (f : Int → D) (n : Nat) : enumL ((rng 0 n).map f) = (rng 0 n).map fun i => D.tup [.int i, f i] := by
  unfold enumL rng
  apply List.ext_getElem?
  intro j
  by_cases h : j < n
  · simp [h]
  · simp [h]
def placesW (w p : List Nat) : List Int := (rng 0 w.length).filter fun i => decide (readW w i p.length = p)
theorem q_ring_places {w p : List Nat} (hl : w.length ≤ 10000) (hw : 0 < w.length) (hp : p.length ≤ 10000) : m_ring_places [.str w, .str p] = .ok (.o, .lst ((placesW w p).map .int)) := by
  have hl' : p.length ≤ 10000000 := by omega
  have h3 : w.length ≤ 100000 := by omega
  simp [bodyM, eVar, eC, eOp, eUn, eNil, eCons, eCB, eCO, eCOV, eLst, eTup, eB, eAnd, eOr, eNot, eBv, eAndV, eOrV, eNotV, eIf, eChain, eCall, okA, eTgN, eTgNil, eTgCons, eTgT, eRng, wipeE, noOwn, eLc, eYes, eDc, bNext, bSeq, bRet, bSet, bAsg, bDrop, bIf, bRaise, bFor, frzE, bFrz, setsE, bSets, isiD, tyName, chars, rng_len, eDGet2, eDNew, bApp, ownL, ownD, bDPut, eSl, ePart, eNo, eItA, itA, itD, eIxA, eJoin, isV, iop, cop, subD, modD, fdivD, leD, gtD, geD, eqB, neB, isBlD, notBlD, keyD, isDic, m_ring_places, b_ring_places, lenD, hl', q_ring_stretches hl hw hp, enumA, enum_rng, h3]
  rw [lc_ok (fun i => D.tup [.int i, .str (readW w i p.length)]) (fun i => D.int i) (fun i => [some (false, D.str w), some (false, D.str p), some (false, D.int i), some (false, D.str (readW w i p.length))]) (fun i => decide (readW w i p.length = p)) (rng 0 w.length)]
  · simp [placesW]
  · exact fun i _ => ⟨by simp [eTgT, eTgCons, eTgN, eTgNil], by simp [bodyM, eVar, eC, eOp, eUn, eNil, eCons, eCB, eCO, eCOV, eLst, eTup, eB, eAnd, eOr, eNot, eBv, eAndV, eOrV, eNotV, eIf, eChain, eCall, okA, eTgN, eTgNil, eTgCons, eTgT, eRng, wipeE, noOwn, eLc, eYes, eDc, bNext, bSeq, bRet, bSet, bAsg, bDrop, bIf, bRaise, bFor, frzE, bFrz, setsE, bSets, isiD, tyName, chars, rng_len, eDGet2, eDNew, bApp, ownL, ownD, bDPut, eSl, ePart, eNo, eItA, itA, itD, eIxA, eJoin, isV, iop, cop, subD, modD, fdivD, leD, gtD, geD, eqB, neB, isBlD, notBlD, keyD, isDic, eqD], fun _ => ⟨.s, by simp [bodyM, eVar, eC, eOp, eUn, eNil, eCons, eCB, eCO, eCOV, eLst, eTup, eB, eAnd, eOr, eNot, eBv, eAndV, eOrV, eNotV, eIf, eChain, eCall, okA, eTgN, eTgNil, eTgCons, eTgT, eRng, wipeE, noOwn, eLc, eYes, eDc, bNext, bSeq, bRet, bSet, bAsg, bDrop, bIf, bRaise, bFor, frzE, bFrz, setsE, bSets, isiD, tyName, chars, rng_len, eDGet2, eDNew, bApp, ownL, ownD, bDPut, eSl, ePart, eNo, eItA, itA, itD, eIxA, eJoin, isV, iop, cop, subD, modD, fdivD, leD, gtD, geD, eqB, neB, isBlD, notBlD, keyD, isDic], rfl⟩⟩
theorem q_ring_occurrences {w p : List Nat} (hl : w.length ≤ 10000) (hw : wordI w = true) (hr : leastW w = w) (hp : p.length ≤ 10000) (hpw : wordI p = true) : m_ring_occurrences [.str w, .str p] = .ok (.o, .lst ((placesW w p).map .int)) := by
  have w0 := (wordI_iff.mp hw).2
  simp [bodyM, eVar, eC, eOp, eUn, eNil, eCons, eCB, eCO, eCOV, eLst, eTup, eB, eAnd, eOr, eNot, eBv, eAndV, eOrV, eNotV, eIf, eChain, eCall, okA, eTgN, eTgNil, eTgCons, eTgT, eRng, wipeE, noOwn, eLc, eYes, eDc, bNext, bSeq, bRet, bSet, bAsg, bDrop, bIf, bRaise, bFor, frzE, bFrz, setsE, bSets, isiD, tyName, chars, rng_len, eDGet2, eDNew, bApp, ownL, ownD, bDPut, eSl, ePart, eNo, eItA, itA, itD, eIxA, eJoin, isV, iop, cop, subD, modD, fdivD, leD, gtD, geD, eqB, neB, isBlD, notBlD, keyD, isDic, m_ring_occurrences, b_ring_occurrences, q_need_ring hl hw hr, q_need_word hp hpw, q_ring_places hl w0 hp]
end Y

namespace Y
open PySem PySem.Spec PyProof.Rows L2 Z
abbrev WI := List (List Nat × Int)
def mp (es : WI) : List (Ky × D) := es.map fun e => (Sum.inr e.1, D.int e.2)
def putT (es : WI) (k : List Nat) (v : Int) : WI := if es.any (fun e => decide (e.1 = k)) then es.map (fun e => if e.1 = k then (e.1, v) else e) else es ++ [(k, v)]
def getT (es : WI) (k : List Nat) : Option Int := (es.find? fun e => decide (e.1 = k)).map (·.2)
def keysT (es : WI) : List (List Nat) := es.map (·.1)
def cnt (es : WI) (x : List Nat) : WI := putT es x ((getT es x).getD 0 + 1)
theorem any_mp (es : WI) (k : List Nat) : (mp es).any (fun e => decide (e.1 = Sum.inr k)) = es.any fun e => decide (e.1 = k) := by
  induction es with
  | nil => rfl
  | cons e es ih =>
    simp only [mp, List.map_cons, List.any_cons] at ih ⊢
    rw [ih]
    simp
theorem mp_put (es : WI) (k : List Nat) (v : Int) : putD (mp es) (.inr k) (.int v) = mp (putT es k v) := by
  unfold putD putT
  rw [any_mp]
  by_cases h : (es.any fun e => decide (e.1 = k)) = true
  · rw [if_pos h, if_pos h]
    unfold mp
    rw [List.map_map, List.map_map]
    apply List.map_congr_left
    intro e _
    by_cases hk : e.1 = k <;> simp [hk]
  · rw [if_neg h, if_neg h]
    simp [mp]
theorem mp_get (es : WI) (k : List Nat) : getD (mp es) (.inr k) = (getT es k).map .int := by
  induction es with
  | nil => rfl
  | cons e es ih =>
    unfold getD getT mp at ih ⊢
    by_cases hk : e.1 = k
    · simp [hk]
    · simp [hk] at ih ⊢
      exact ih
theorem any_keys (es : WI) (k : List Nat) : (es.any fun e => decide (e.1 = k)) = decide (k ∈ keysT es) := by
  induction es with
  | nil => rfl
  | cons e es ih =>
    by_cases hk : e.1 = k
    · simp [keysT, hk]
    · have : ¬ k = e.1 := fun h => hk h.symm
      have e3 : keysT (e :: es) = e.1 :: keysT es := rfl
      rw [List.any_cons, ih, e3]
      simp [hk, this]
theorem keys_put (es : WI) (k : List Nat) (v : Int) : keysT (putT es k v) = if k ∈ keysT es then keysT es else keysT es ++ [k] := by
  unfold putT
  rw [any_keys]
  by_cases h : k ∈ keysT es
  · simp only [h, decide_true, if_true]
    unfold keysT
    rw [List.map_map]
    apply List.map_congr_left
    intro e _
    by_cases hk : e.1 = k <;> simp [hk]
  · simp only [h, decide_false, Bool.false_eq_true, if_false]
    simp [keysT]
theorem get_none {es : WI} {k : List Nat} : getT es k = none ↔ k ∉ keysT es := by
  unfold getT keysT
  simp [List.find?_eq_none]
  constructor
  · intro h b hb; exact h k b hb rfl
  · rintro h a b hab rfl; exact h b hab
theorem get_app (es fs : WI) (k : List Nat) : getT (es ++ fs) k = (getT es k).or (getT fs k) := by
  unfold getT
  rw [List.find?_append]
  cases List.find? (fun e => decide (e.1 = k)) es <;> simp
theorem get_map (es : WI) (k k' : List Nat) (v : Int) : getT (es.map fun e => if e.1 = k then (e.1, v) else e) k' = if k' = k then (getT es k).map fun _ => v else getT es k' := by
  induction es with
  | nil => simp [getT]
  | cons e es ih =>
    unfold getT at ih ⊢
    by_cases h1 : e.1 = k'
    · by_cases h2 : e.1 = k
      · have : k' = k := h1.symm.trans h2
        simp [h1, h2, this]
      · have : ¬ k' = k := fun h => h2 (h1.trans h)
        simp [h1, this]
    · by_cases h2 : e.1 = k
      · have : ¬ k' = k := fun h => h1 (h2.trans h.symm)
        have h3 : ¬ k = k' := fun h => this h.symm
        simp [h2, h3, this] at ih ⊢
        exact ih
      · simp [h1, h2] at ih ⊢
        exact ih
theorem get_put (es : WI) (k k' : List Nat) (v : Int) : getT (putT es k v) k' = if k' = k then some v else getT es k' := by
  unfold putT
  rw [any_keys]
  by_cases h : k ∈ keysT es
  · simp only [h, decide_true, if_true]
    rw [get_map]
    by_cases hk : k' = k
    · simp only [hk, if_true]
      cases hg : getT es k with
      | none => exact absurd h (get_none.mp hg)
      | some z => rfl
    · simp [hk]
  · simp only [h, decide_false, Bool.false_eq_true, if_false]
    rw [get_app]
    by_cases hk : k' = k
    · subst hk
      rw [get_none.mpr h]
      simp [getT]
    · have : ¬ k = k' := fun h => hk h.symm
      simp [hk, getT, this]
theorem cnt_get (k : List Nat) : ∀ (xs : List (List Nat)) (es : WI), (getT (xs.foldl cnt es) k).getD 0 = (getT es k).getD 0 + (xs.count k : Int)
  | [], es => by simp
  | x :: xs, es => by
    rw [List.foldl_cons, cnt_get k xs, cnt, get_put]
    by_cases h : k = x
    · subst h; simp; omega
    · have : ¬ x = k := fun e => h e.symm
      simp [h, this, List.count_cons]
theorem cnt_keys (k : List Nat) : ∀ (xs : List (List Nat)) (es : WI), k ∈ keysT (xs.foldl cnt es) ↔ k ∈ keysT es ∨ k ∈ xs
  | [], es => by simp
  | x :: xs, es => by
    rw [List.foldl_cons, cnt_keys k xs, cnt, keys_put]
    by_cases h : x ∈ keysT es
    · simp only [h, if_true, List.mem_cons]
      constructor
      · rintro (z | z)
        · exact .inl z
        · exact .inr (.inr z)
      · rintro (z | z | z)
        · exact .inl z
        · subst z; exact .inl h
        · exact .inr z
    · simp only [h, if_false, List.mem_append, List.mem_cons, List.not_mem_nil, or_false]
      constructor
      · rintro ((z | z) | z)
        · exact .inl z
        · exact .inr (.inl z)
        · exact .inr (.inr z)
      · rintro (z | z | z)
        · exact .inl (.inl z)
        · exact .inl (.inr z)
        · exact .inr z
theorem cnt_nodup : ∀ (xs : List (List Nat)) (es : WI), (keysT es).Nodup → (keysT (xs.foldl cnt es)).Nodup
  | [], es, h => h
  | x :: xs, es, h => by
    rw [List.foldl_cons]
    refine cnt_nodup xs _ ?_
    rw [cnt, keys_put]
    by_cases hx : x ∈ keysT es
    · simp only [hx, if_true]; exact h
    · simp only [hx, if_false]
      rw [List.nodup_append]
      refine ⟨h, by simp, fun a ha b hb => ?_⟩
      simp at hb
      subst hb
      exact fun e => hx (e ▸ ha)
theorem sum_put (es : WI) (k : List Nat) (v : Int) (hn : (keysT es).Nodup) : ((putT es k v).map (·.2)).sum = (es.map (·.2)).sum - (getT es k).getD 0 + v := by
  unfold putT
  rw [any_keys]
  by_cases h : k ∈ keysT es
  · simp only [h, decide_true, if_true]
    induction es with
    | nil => cases h
    | cons e es ih =>
      have hn' : e.1 ∉ keysT es ∧ (keysT es).Nodup := by simpa [keysT] using hn
      by_cases hk : e.1 = k
      · have hni : ∀ e' ∈ es, ¬ e'.1 = k := fun e' he' hh => hn'.1 (by rw [hk, ← hh]; exact List.mem_map_of_mem he')
        have : es.map (fun e => if e.1 = k then (e.1, v) else e) = es := by
          conv => rhs; rw [← List.map_id es]
          apply List.map_congr_left
          intro e' he'
          simp [hni e' he']
        rw [List.map_cons, this]
        simp [getT, hk]
        omega
      · have hm : k ∈ keysT es := by
          have h' : k = e.1 ∨ k ∈ keysT es := by simpa [keysT] using h
          rcases h' with z | z
          · exact absurd z.symm hk
          · exact z
        have := ih hn'.2 hm
        have hg : getT (e :: es) k = getT es k := by simp [getT, hk]
        rw [hg]
        simp only [List.map_cons, hk, if_false, List.sum_cons, this]
        omega
  · simp only [h, decide_false, Bool.false_eq_true, if_false]
    rw [get_none.mpr h]
    simp
theorem cnt_sum : ∀ (xs : List (List Nat)) (es : WI), (keysT es).Nodup → ((xs.foldl cnt es).map (·.2)).sum = (es.map (·.2)).sum + (xs.length : Int)
  | [], es, h => by simp
  | x :: xs, es, h => by
    rw [List.foldl_cons, cnt_sum xs _ (by simpa using cnt_nodup [x] es h), cnt, sum_put _ _ _ h]
    simp only [List.length_cons]
    omega
theorem of_keys : ∀ (es : WI), (keysT es).Nodup → es = (keysT es).map fun k => (k, (getT es k).getD 0)
  | [], _ => rfl
  | e :: es, h => by
    have hn' : e.1 ∉ keysT es ∧ (keysT es).Nodup := by simpa [keysT] using h
    have ih := of_keys es hn'.2
    have h1 : keysT (e :: es) = e.1 :: keysT es := rfl
    rw [h1, List.map_cons]
    have h2 : getT (e :: es) e.1 = some e.2 := by simp [getT]
    rw [h2]
    congr 1
    rw [ih]
    have h3 : keysT ((keysT es).map fun k => (k, (getT es k).getD 0)) = keysT es := by rw [← ih]
    rw [h3]
    apply List.map_congr_left
    intro k hk
    have hne : ¬ e.1 = k := fun hh => hn'.1 (hh ▸ hk)
    rw [← ih]
    simp [getT, hne]
end Y

namespace Y
open PySem PySem.Spec PyProof.Rows L2 Z
/-! ### loops and dict comprehensions without draws -/
section
variable {α : Type} {tg : D → Env → Option Env} {fb : Env → M Out} {ft : Env → M Bool} {fk fe : Env → M Vl} {env : Env}
theorem for_okR {J : List α → Env → Prop} (F : α → D) (hb : ∀ x r e, J (x :: r) e → ∃ e1 e2, tg (F x) e = some e1 ∧ fb e1 = .ok (.nx e2) ∧ J r e2) : ∀ (xs : List α) (env : Env), J xs env → ∃ e, Y.forGo tg fb (xs.map F) env = .ok (.nx e) ∧ J [] e
  | [], env, h => ⟨env, rfl, h⟩
  | x :: xs, env, h => by
    obtain ⟨e1, e2, h1, h2, h3⟩ := hb x xs env h
    obtain ⟨e, h4, h5⟩ := for_okR F hb xs e2 h3
    refine ⟨e, ?_, h5⟩
    rw [← h4]
    show (M.of (tg (F x) env)).bind _ = _
    rw [h1]
    show (fb e1).bind _ = _
    rw [h2]
    rfl
theorem dc_map (F : α → D) (key : α → List Nat) (v : α → D) (e1 : α → Env) : ∀ (xs : List α) (es : List (Ky × D)), (∀ x ∈ xs, tg (F x) env = some (e1 x) ∧ ft (e1 x) = .ok true ∧ fk (e1 x) = .ok (.s, .str (key x)) ∧ fe (e1 x) = .ok (.s, v x)) → (xs.map key).Nodup → (∀ x ∈ xs, ∀ e ∈ es, e.1 ≠ .inr (key x)) → dcGo tg ft fk fe env es (xs.map F) = .ok (es ++ xs.map fun x => (Sum.inr (key x), v x))
  | [], es, _, _, _ => by simp [dcGo]
  | x :: xs, es, h, hn, hd => by
    obtain ⟨h1, h2, h3, h4⟩ := h x (List.mem_cons_self ..)
    have hn' : key x ∉ xs.map key ∧ (xs.map key).Nodup := by simpa using hn
    have hp : putD es (.inr (key x)) (v x) = es ++ [(.inr (key x), v x)] := by
      unfold putD
      rw [if_neg]
      intro ha
      obtain ⟨e, he, h5⟩ := List.any_eq_true.mp ha
      exact hd x (List.mem_cons_self ..) e he (of_decide_eq_true h5)
    have ih := dc_map F key v e1 xs (es ++ [(.inr (key x), v x)]) (fun y hy => h y (List.mem_cons_of_mem _ hy)) hn'.2 (fun y hy e he => by
      rcases List.mem_append.mp he with he | he
      · exact hd y (List.mem_cons_of_mem _ hy) e he
      · simp at he
        subst he
        intro z
        have z : key x = key y := Sum.inr.inj z
        exact hn'.1 (z ▸ List.mem_map_of_mem hy))
    simp only [List.map_cons, dcGo, h1, of_some, ok_bind, h2, if_true, h3, keyD, h4, isV, Bool.or_self, Bool.false_eq_true, if_false]
    rw [hp, ih]
    simp
end
/-! ### counting -/
theorem wi_sorted : ∀ (xs : List (List Nat)) (es : WI), (keysT es ++ xs).Pairwise (· ≤ ·) → (keysT (xs.foldl cnt es)).Pairwise (· ≤ ·)
  | [], es, h => by simpa using h
  | x :: xs, es, h => by
    rw [List.foldl_cons]
    refine wi_sorted xs _ ?_
    rw [cnt, keys_put]
    by_cases hx : x ∈ keysT es
    · simp only [hx, if_true]
      exact h.sublist (List.Sublist.append_left (List.sublist_cons_self ..) _)
    · simp only [hx, if_false]
      rw [List.append_assoc]
      exact h
def cntW (xs : List (List Nat)) : WI := (sortW (keysT (xs.foldl cnt []))).map fun k => (k, (xs.count k : Int))
theorem sortW_perm (xs : List (List Nat)) : (sortW xs).Perm xs := List.mergeSort_perm _ _
theorem sortW_pw (xs : List (List Nat)) : (sortW xs).Pairwise (· ≤ ·) := (List.pairwise_mergeSort (le := leW) leW_trans leW_total xs).imp fun h => of_decide_eq_true h
theorem cnt_val (xs : List (List Nat)) (k : List Nat) : (getT (xs.foldl cnt []) k).getD 0 = (xs.count k : Int) := by
  rw [cnt_get]
  simp [getT]
theorem cnt_sorted (xs : List (List Nat)) : (sortW xs).foldl cnt [] = cntW xs := by
  have hn : (keysT ((sortW xs).foldl cnt [])).Nodup := cnt_nodup _ _ (by simp [keysT])
  have hn2 : (keysT (xs.foldl cnt [])).Nodup := cnt_nodup _ _ (by simp [keysT])
  have hk : keysT ((sortW xs).foldl cnt []) = sortW (keysT (xs.foldl cnt [])) := by
    refine sortW_unique ?_ ?_
    · refine (List.perm_ext_iff_of_nodup hn hn2).mpr fun k => ?_
      rw [cnt_keys, cnt_keys]
      simp [keysT, (sortW_perm xs).mem_iff]
    · exact wi_sorted _ _ (by simpa [keysT] using sortW_pw xs)
  rw [of_keys _ hn, hk]
  unfold cntW
  apply List.map_congr_left
  intro k _
  rw [cnt_val, (sortW_perm xs).count_eq]
theorem keysT_cntW (xs : List (List Nat)) : keysT (cntW xs) = sortW (keysT (xs.foldl cnt [])) := by
  unfold cntW
  conv => lhs; unfold keysT
  rw [List.map_map]
  exact List.map_id _
theorem cntW_nodup (xs : List (List Nat)) : (keysT (cntW xs)).Nodup := by
  rw [keysT_cntW]
  exact (sortW_perm _).nodup_iff.mpr (cnt_nodup _ _ (by simp [keysT]))
theorem cntW_sum (xs : List (List Nat)) : ((cntW xs).map (·.2)).sum = (xs.length : Int) := by
  rw [← cnt_sorted, cnt_sum _ _ (by simp [keysT]), (sortW_perm xs).length_eq]
  simp
theorem cnt_len : ∀ (xs : List (List Nat)) (es : WI), (xs.foldl cnt es).length ≤ es.length + xs.length
  | [], es => by simp
  | x :: xs, es => by
    rw [List.foldl_cons]
    have h1 := cnt_len xs (cnt es x)
    have h2 : (cnt es x).length ≤ es.length + 1 := by
      unfold cnt putT
      split <;> simp
    simp only [List.length_cons]
    omega
theorem mp_len (es : WI) : (mp es).length = es.length := by simp [mp]
theorem keysOf_mp : ∀ es : WI, keysOf (mp es) = some (keysT es)
  | [] => rfl
  | e :: es => by
    have := keysOf_mp es
    simp only [mp] at this
    simp [mp, keysOf, keysT, this]
theorem q_cnt_loop (ws : List (List Nat)) (hl : ws.length ≤ 1000) (x0 : Option (Bool × D)) : ∃ o2 : Option D, forGo (eTgN 2) (bDPut 1 (eVar 2) (eOp addD (eDGet2 (eVar 1) (eVar 2) (eC (.int 0))) (eC (.int 1)))) (ws.map D.str) [x0, some (true, .dic []), none] = .ok (.nx [x0, some (true, .dic (mp (ws.foldl cnt []))), nf o2]) := by
  obtain ⟨e, h1, es, o2, h2, h3, h4⟩ := for_okR (tg := eTgN 2) (fb := bDPut 1 (eVar 2) (eOp addD (eDGet2 (eVar 1) (eVar 2) (eC (.int 0))) (eC (.int 1)))) (J := fun r e => ∃ es o2, e = [x0, some (true, .dic (mp es)), nf o2] ∧ r.foldl cnt es = ws.foldl cnt [] ∧ es.length + r.length ≤ 1000) D.str (fun x r e he => by
    obtain ⟨es, o2, rfl, h3, h4⟩ := he
    simp only [List.length_cons] at h4
    refine ⟨_, [x0, some (true, .dic (mp (cnt es x))), some (false, .str x)], rfl, ?_, cnt es x, some (.str x), rfl, h3, ?_⟩
    · have hlt : ¬ 1000000 ≤ (mp es).length := by rw [mp_len]; omega
      have hg : (Option.map D.int (getT es x)).getD (D.int 0) = .int ((getT es x).getD 0) := by cases getT es x <;> rfl
      simp [bodyM, eVar, eC, eOp, eUn, eNil, eCons, eCB, eCO, eCOV, eLst, eTup, eB, eAnd, eOr, eNot, eBv, eAndV, eOrV, eNotV, eIf, eChain, eCall, okA, eTgN, eTgNil, eTgCons, eTgT, eRng, wipeE, noOwn, eLc, eYes, eDc, bNext, bSeq, bRet, bSet, bAsg, bDrop, bIf, bRaise, bFor, frzE, bFrz, setsE, bSets, isiD, tyName, chars, rng_len, eDGet2, eDNew, bApp, ownL, ownD, bDPut, eSl, ePart, eNo, eItA, itA, itD, eIxA, eJoin, isV, iop, cop, subD, modD, fdivD, leD, gtD, geD, eqB, neB, isBlD, notBlD, keyD, isDic, mp_get, addD, hg, hlt, mp_put, fin]
      rfl
    · have := cnt_len [x] es
      simp only [List.foldl_cons, List.foldl_nil, List.length_cons, List.length_nil] at this
      omega) ws [x0, some (true, .dic []), none] ⟨[], none, rfl, rfl, by simpa using hl⟩
  simp only [List.foldl_nil] at h3
  subst h3
  exact ⟨o2, by rw [h1, h2]⟩
theorem get_mem {es : WI} (hn : (keysT es).Nodup) {e : List Nat × Int} (he : e ∈ es) : getT es e.1 = some e.2 := by
  induction es with
  | nil => cases he
  | cons x es ih =>
    have hn' : x.1 ∉ keysT es ∧ (keysT es).Nodup := by simpa [keysT] using hn
    rcases List.mem_cons.mp he with rfl | he
    · simp [getT]
    · have hne : ¬ x.1 = e.1 := fun h => hn'.1 (h ▸ List.mem_map_of_mem he)
      have := ih hn'.2 he
      unfold getT at this ⊢
      simpa [hne] using this
theorem q_counted {ws : List (List Nat)} (hl : ws.length ≤ 60) : m_counted [.lst (ws.map D.str)] = .ok (.o, .dic (mp (cntW ws))) := by
  obtain ⟨o2, h⟩ := q_cnt_loop ws (by omega) (some (false, .lst (ws.map D.str)))
  have hlen := cnt_len ws []
  have h63 : (mp (ws.foldl cnt [])).length < 64 := by rw [mp_len]; simp at hlen; omega
  have hn : (keysT (ws.foldl cnt [])).Nodup := cnt_nodup _ _ (by simp [keysT])
  have hpn := (sortW_perm (keysT (ws.foldl cnt []))).nodup_iff.mpr hn
  have hk5 : (sortW (keysT (ws.foldl cnt []))).length ≤ 100000 := by rw [(sortW_perm _).length_eq]; simp [keysT]; simp at hlen; omega
  simp [bodyM, eVar, eC, eOp, eUn, eNil, eCons, eCB, eCO, eCOV, eLst, eTup, eB, eAnd, eOr, eNot, eBv, eAndV, eOrV, eNotV, eIf, eChain, eCall, okA, eTgN, eTgNil, eTgCons, eTgT, eRng, wipeE, noOwn, eLc, eYes, eDc, bNext, bSeq, bRet, bSet, bAsg, bDrop, bIf, bRaise, bFor, frzE, bFrz, setsE, bSets, isiD, tyName, chars, rng_len, eDGet2, eDNew, bApp, ownL, ownD, bDPut, eSl, ePart, eNo, eItA, itA, itD, eIxA, eJoin, isV, iop, cop, subD, modD, fdivD, leD, gtD, geD, eqB, neB, isBlD, notBlD, keyD, isDic, m_counted, b_counted]
  rw [h]
  have hno : noOwn [some (false, .lst (ws.map D.str)), some (false, .dic (mp (ws.foldl cnt []))), nf o2] [2] = true := by cases o2 <;> rfl
  simp [bodyM, eVar, eC, eOp, eUn, eNil, eCons, eCB, eCO, eCOV, eLst, eTup, eB, eAnd, eOr, eNot, eBv, eAndV, eOrV, eNotV, eIf, eChain, eCall, okA, eTgN, eTgNil, eTgCons, eTgT, eRng, wipeE, noOwn, eLc, eYes, eDc, bNext, bSeq, bRet, bSet, bAsg, bDrop, bIf, bRaise, bFor, frzE, bFrz, setsE, bSets, isiD, tyName, chars, rng_len, eDGet2, eDNew, bApp, ownL, ownD, bDPut, eSl, ePart, eNo, eItA, itA, itD, eIxA, eJoin, isV, iop, cop, subD, modD, fdivD, leD, gtD, geD, eqB, neB, isBlD, notBlD, keyD, isDic, sortedD, h63, keysOf_mp, scalO, hk5, -noOwn, hno]
  rw [dc_map (fun k => D.str k) id (fun k => D.int (ws.count k : Int)) (fun k => [some (false, .lst (ws.map D.str)), some (false, .dic (mp (ws.foldl cnt []))), some (false, .str k)]) (sortW (keysT (ws.foldl cnt []))) []]
  · cases o2 <;> simp [cntW, mp, nf, Function.comp_def]
  · intro k hk
    refine ⟨rfl, rfl, by simp [bodyM, eVar, eC, eOp, eUn, eNil, eCons, eCB, eCO, eCOV, eLst, eTup, eB, eAnd, eOr, eNot, eBv, eAndV, eOrV, eNotV, eIf, eChain, eCall, okA, eTgN, eTgNil, eTgCons, eTgT, eRng, wipeE, noOwn, eLc, eYes, eDc, bNext, bSeq, bRet, bSet, bAsg, bDrop, bIf, bRaise, bFor, frzE, bFrz, setsE, bSets, isiD, tyName, chars, rng_len, eDGet2, eDNew, bApp, ownL, ownD, bDPut, eSl, ePart, eNo, eItA, itA, itD, eIxA, eJoin, isV, iop, cop, subD, modD, fdivD, leD, gtD, geD, eqB, neB, isBlD, notBlD, keyD, isDic], ?_⟩
    have hm : k ∈ keysT (ws.foldl cnt []) := (sortW_perm _).mem_iff.mp hk
    have hv := cnt_val ws k
    cases hg : getT (ws.foldl cnt []) k with
    | none => exact absurd hm (get_none.mp hg)
    | some v =>
      rw [hg] at hv
      have hv : v = (ws.count k : Int) := hv
      simp [bodyM, eVar, eC, eOp, eUn, eNil, eCons, eCB, eCO, eCOV, eLst, eTup, eB, eAnd, eOr, eNot, eBv, eAndV, eOrV, eNotV, eIf, eChain, eCall, okA, eTgN, eTgNil, eTgCons, eTgT, eRng, wipeE, noOwn, eLc, eYes, eDc, bNext, bSeq, bRet, bSet, bAsg, bDrop, bIf, bRaise, bFor, frzE, bFrz, setsE, bSets, isiD, tyName, chars, rng_len, eDGet2, eDNew, bApp, ownL, ownD, bDPut, eSl, ePart, eNo, eItA, itA, itD, eIxA, eJoin, isV, iop, cop, subD, modD, fdivD, leD, gtD, geD, eqB, neB, isBlD, notBlD, keyD, isDic, ixA, mp_get, hg, hv]
  · simpa using hpn
  · intro x _ e he
    cases he
theorem q__law_counted {ws : List (List Nat)} (hl : ws.length ≤ 60) : m__law_counted [.lst (ws.map D.str)] = .ok (.o, .dic (mp (cntW ws))) := by
  obtain ⟨o2, h⟩ := q_cnt_loop (sortW ws) (by rw [(sortW_perm ws).length_eq]; omega) (some (false, .lst (ws.map D.str)))
  have hs : strsOf (ws.map D.str) = some ws := by simpa using strsOf_mapf id ws
  simp [bodyM, eVar, eC, eOp, eUn, eNil, eCons, eCB, eCO, eCOV, eLst, eTup, eB, eAnd, eOr, eNot, eBv, eAndV, eOrV, eNotV, eIf, eChain, eCall, okA, eTgN, eTgNil, eTgCons, eTgT, eRng, wipeE, noOwn, eLc, eYes, eDc, bNext, bSeq, bRet, bSet, bAsg, bDrop, bIf, bRaise, bFor, frzE, bFrz, setsE, bSets, isiD, tyName, chars, rng_len, eDGet2, eDNew, bApp, ownL, ownD, bDPut, eSl, ePart, eNo, eItA, itA, itD, eIxA, eJoin, isV, iop, cop, subD, modD, fdivD, leD, gtD, geD, eqB, neB, isBlD, notBlD, keyD, isDic, m__law_counted, b__law_counted, sortedD, sortL, hs, scalO]
  rw [h]
  simp [bodyM, eVar, eC, eOp, eUn, eNil, eCons, eCB, eCO, eCOV, eLst, eTup, eB, eAnd, eOr, eNot, eBv, eAndV, eOrV, eNotV, eIf, eChain, eCall, okA, eTgN, eTgNil, eTgCons, eTgT, eRng, wipeE, noOwn, eLc, eYes, eDc, bNext, bSeq, bRet, bSet, bAsg, bDrop, bIf, bRaise, bFor, frzE, bFrz, setsE, bSets, isiD, tyName, chars, rng_len, eDGet2, eDNew, bApp, ownL, ownD, bDPut, eSl, ePart, eNo, eItA, itA, itD, eIxA, eJoin, isV, iop, cop, subD, modD, fdivD, leD, gtD, geD, eqB, neB, isBlD, notBlD, keyD, isDic, cnt_sorted]
theorem sameD_mp {es : WI} (hn : (keysT es).Nodup) : sameD (mp es) (mp es) = true := by
  unfold sameD
  simp only [beq_self_eq_true, Bool.true_and, List.all_eq_true]
  intro e he
  obtain ⟨x, hx, rfl⟩ := List.mem_map.mp he
  simp [mp_get, get_mem hn hx, flatEq]
theorem keyOf_mp (es : WI) : (mp es).map (fun e => keyOf e.1) = (keysT es).map D.str := by
  simp [mp, keysT, keyOf]
/-! ### other strands -/
def part (c : Nat) : Nat := if c = 97 then 116 else if c = 99 then 103 else if c = 103 then 99 else 97
def strandW (w : List Nat) : List Nat := w.reverse.map part
theorem strand_len (w : List Nat) : (strandW w).length = w.length := by simp [strandW]
theorem part_ac {c : Nat} (h : c ∈ acgt) : part c ∈ acgt := by
  simp only [acgt, List.mem_cons, List.not_mem_nil, or_false] at h
  rcases h with rfl | rfl | rfl | rfl <;> decide
theorem strand_ac {w : List Nat} (h : Ac w) : Ac (strandW w) := fun c hc => by
  obtain ⟨x, hx, rfl⟩ := List.mem_map.mp hc
  exact part_ac (h x (List.mem_reverse.mp hx))
theorem q_strand_of {w : List Nat} (hl : w.length ≤ 10000) (h : Ac w) : m_strand_of [.str w] = .ok (.s, .str (strandW w)) := by
  have h1 : w.length ≤ 1000000 := by omega
  have h2 : w.length ≤ 100000 := by omega
  simp [bodyM, eVar, eC, eOp, eUn, eNil, eCons, eCB, eCO, eCOV, eLst, eTup, eB, eAnd, eOr, eNot, eBv, eAndV, eOrV, eNotV, eIf, eChain, eCall, okA, eTgN, eTgNil, eTgCons, eTgT, eRng, wipeE, noOwn, eLc, eYes, eDc, bNext, bSeq, bRet, bSet, bAsg, bDrop, bIf, bRaise, bFor, frzE, bFrz, setsE, bSets, isiD, tyName, chars, rng_len, eDGet2, eDNew, bApp, ownL, ownD, bDPut, eSl, ePart, eNo, eItA, itA, itD, eIxA, eJoin, isV, iop, cop, subD, modD, fdivD, leD, gtD, geD, eqB, neB, isBlD, notBlD, keyD, isDic, m_strand_of, b_strand_of, revD, h1, h2]
  rw [← List.map_reverse]
  have hv : strandW w = (w.reverse).map part := rfl
  have hm : ∀ c ∈ w.reverse, c ∈ w := fun c hc => List.mem_reverse.mp hc
  have hlr : w.reverse.length = w.length := List.length_reverse
  rw [hv]
  generalize w.reverse = v at hm hlr
  rw [lc_map (fun c => D.str [c]) (fun c => D.str [part c]) (fun c => [some (false, D.str w), some (false, D.str [c])]) v]
  · have e : (v.map (List.length ∘ fun c => [part c])).sum ≤ 10000000 := by
      rw [← List.map_map, sum_one _ _ fun _ => rfl, hlr]; omega
    simp [joinD, e, flatten_single]
  · intro c hc
    refine ⟨rfl, rfl, .s, ?_, rfl⟩
    have hc := h c (hm c hc)
    simp only [acgt, List.mem_cons, List.not_mem_nil, or_false] at hc
    rcases hc with rfl | rfl | rfl | rfl <;> rfl
theorem q__law_other_strand {w : List Nat} (hl : w.length ≤ 10000) (h : Ac w) : m__law_other_strand [.str w] = .ok (.s, .str (strandW w)) := by
  have h1 : w.length ≤ 1000000 := by omega
  have h2 : w.length ≤ 100000 := by omega
  simp [bodyM, eVar, eC, eOp, eUn, eNil, eCons, eCB, eCO, eCOV, eLst, eTup, eB, eAnd, eOr, eNot, eBv, eAndV, eOrV, eNotV, eIf, eChain, eCall, okA, eTgN, eTgNil, eTgCons, eTgT, eRng, wipeE, noOwn, eLc, eYes, eDc, bNext, bSeq, bRet, bSet, bAsg, bDrop, bIf, bRaise, bFor, frzE, bFrz, setsE, bSets, isiD, tyName, chars, rng_len, eDGet2, eDNew, bApp, ownL, ownD, bDPut, eSl, ePart, eNo, eItA, itA, itD, eIxA, eJoin, isV, iop, cop, subD, modD, fdivD, leD, gtD, geD, eqB, neB, isBlD, notBlD, keyD, isDic, m__law_other_strand, b__law_other_strand, revD, h1, h2]
  rw [← List.map_reverse]
  have hv : strandW w = (w.reverse).map part := rfl
  have hm : ∀ c ∈ w.reverse, c ∈ w := fun c hc => List.mem_reverse.mp hc
  have hlr : w.reverse.length = w.length := List.length_reverse
  rw [hv]
  generalize w.reverse = v at hm hlr
  rw [lc_map (fun c => D.str [c]) (fun c => D.str [part c]) (fun c => [some (false, D.str w), some (false, D.str [c])]) v]
  · have e : (v.map (List.length ∘ fun c => [part c])).sum ≤ 10000000 := by
      rw [← List.map_map, sum_one _ _ fun _ => rfl, hlr]; omega
    simp [joinD, e, flatten_single]
  · intro c hc
    refine ⟨rfl, rfl, .s, ?_, rfl⟩
    have hc := h c (hm c hc)
    simp only [acgt, List.mem_cons, List.not_mem_nil, or_false] at hc
    rcases hc with rfl | rfl | rfl | rfl <;> rfl
theorem q_ring_strand {w : List Nat} (hl : w.length ≤ 10000) (hw : wordI w = true) (hr : leastW w = w) : m_ring_strand [.str w] = .ok (.s, .str (leastW (strandW w))) := by
  obtain ⟨wa, w0⟩ := wordI_iff.mp hw
  simp [bodyM, eVar, eC, eOp, eUn, eNil, eCons, eCB, eCO, eCOV, eLst, eTup, eB, eAnd, eOr, eNot, eBv, eAndV, eOrV, eNotV, eIf, eChain, eCall, okA, eTgN, eTgNil, eTgCons, eTgT, eRng, wipeE, noOwn, eLc, eYes, eDc, bNext, bSeq, bRet, bSet, bAsg, bDrop, bIf, bRaise, bFor, frzE, bFrz, setsE, bSets, isiD, tyName, chars, rng_len, eDGet2, eDNew, bApp, ownL, ownD, bDPut, eSl, ePart, eNo, eItA, itA, itD, eIxA, eJoin, isV, iop, cop, subD, modD, fdivD, leD, gtD, geD, eqB, neB, isBlD, notBlD, keyD, isDic, m_ring_strand, b_ring_strand, q_need_ring hl hw hr, q_strand_of hl wa, q_least_turn (w := strandW w) (by rw [strand_len]; omega) (by rw [strand_len]; omega)]
def runsW (w : List Nat) (n : Nat) : List (List Nat) := (rng 0 w.length).map fun i => readW w i n
theorem runsW_str (w : List Nat) (n : Nat) : ((rng 0 w.length).map fun i => D.str (readW w i n)) = (runsW w n).map D.str := by simp [runsW]
theorem runsW_len (w : List Nat) (n : Nat) : (runsW w n).length = w.length := by simp [runsW, rng_len]
theorem q_ring_pieces {w : List Nat} {n : Nat} (hl : w.length ≤ 60) (hw : wordI w = true) (hr : leastW w = w) (h0 : 0 < n) (hn : n ≤ 120) : m_ring_pieces [.str w, .int n] = .ok (.o, .dic (mp (cntW (runsW w n)))) := by
  obtain ⟨wa, w0⟩ := wordI_iff.mp hw
  have h1 : (1 : Int) ≤ n := by omega
  have h2 : (n : Int) ≤ 120 := by omega
  have hlen : m_need_length [.int (n : Int)] = .ok (.s, .non) := by simp [bodyM, eVar, eC, eOp, eUn, eNil, eCons, eCB, eCO, eCOV, eLst, eTup, eB, eAnd, eOr, eNot, eBv, eAndV, eOrV, eNotV, eIf, eChain, eCall, okA, eTgN, eTgNil, eTgCons, eTgT, eRng, wipeE, noOwn, eLc, eYes, eDc, bNext, bSeq, bRet, bSet, bAsg, bDrop, bIf, bRaise, bFor, frzE, bFrz, setsE, bSets, isiD, tyName, chars, rng_len, eDGet2, eDNew, bApp, ownL, ownD, bDPut, eSl, ePart, eNo, eItA, itA, itD, eIxA, eJoin, isV, iop, cop, subD, modD, fdivD, leD, gtD, geD, eqB, neB, isBlD, notBlD, keyD, isDic, m_need_length, b_need_length, q_is_between, h1, h2]
  simp [bodyM, eVar, eC, eOp, eUn, eNil, eCons, eCB, eCO, eCOV, eLst, eTup, eB, eAnd, eOr, eNot, eBv, eAndV, eOrV, eNotV, eIf, eChain, eCall, okA, eTgN, eTgNil, eTgCons, eTgT, eRng, wipeE, noOwn, eLc, eYes, eDc, bNext, bSeq, bRet, bSet, bAsg, bDrop, bIf, bRaise, bFor, frzE, bFrz, setsE, bSets, isiD, tyName, chars, rng_len, eDGet2, eDNew, bApp, ownL, ownD, bDPut, eSl, ePart, eNo, eItA, itA, itD, eIxA, eJoin, isV, iop, cop, subD, modD, fdivD, leD, gtD, geD, eqB, neB, isBlD, notBlD, keyD, isDic, m_ring_pieces, b_ring_pieces, q_need_ring (by omega) hw hr, hlen, q_ring_stretches (w := w) (n := n) (by omega) w0 (by omega), runsW_str, q_counted (ws := runsW w n) (by rw [runsW_len]; omega)]
end Y

namespace Y
open PySem PySem.Spec PyProof.Rows L2 Z
theorem keys_ac {w : List Nat} {n : Nat} (h : Ac w) (h0 : 0 < w.length) : ∀ k ∈ keysT (cntW (runsW w n)), okS k := fun k hk => by
  rw [keysT_cntW] at hk
  have := (cnt_keys k (runsW w n) []).mp ((sortW_perm _).mem_iff.mp hk)
  rcases this with z | z
  · simp [keysT] at z
  · obtain ⟨i, _, rfl⟩ := List.mem_map.mp z
    exact (readW_ac h h0).okS
abbrev EnP (ns : List Int) (q : Tk) (lap : D) (w : List Nat) (x4 x5 x6 x7 x8 : Option (Bool × D)) : Env :=
  [some (false, .scr ns), some (false, .drw q), some (false, lap), some (false, .str w), x4, x5, x6, x7, x8, none]
theorem pieces_right {ns : List Int} (hl : ns.length ≤ 63) {dr : Dr} {n : Nat} (hn : 100000 ≤ n) : wp dr n (m__law_pieces_right [.scr ns]) (fun _ n' r => n ≤ n' + 100000 ∧ r = (.s, .bl true)) (fun _ _ _ => False) := by
  have h1 : (3 : Int) + min (ns.length : Int) 12 = ((3 + min ns.length 12 : Nat) : Int) := by omega
  simp [m__law_pieces_right, bodyM, b__law_pieces_right, bSeq, bSet, eCall, eCons, eVar, eNil, okA, isV]
  refine dn_beg (c := 100000) (by omega) (fun q => ?_) hn
  simp [bFor, eRng, eCons, eOp, eC, eCB, eVar, eNil, lenD, minD2, addD, isV]
  rw [h1]
  generalize hN : 3 + min ns.length 12 = N
  have hN1 : N ≤ 15 := by omega
  have e1 : rngD1 [.int (N : Int)] = some ((rng 0 N).map D.int) := by
    have a1 : (N : Int) ≤ 1000000 := by omega
    have a2 : (-1000000 : Int) ≤ N := by omega
    simp [rngD1, a1, a2, dInts]
  simp only [e1, of_some, ok_bind]
  refine Dn.le (c := (rng 0 N).length * 2000 + 0) (Dn.bind (Dn.forGo (c := 2000) (I := fun e => ∃ o2 x3 x4 x5 x6 x7 x8, e = [some (false, D.scr ns), some (false, D.drw q), o2, x3, x4, x5, x6, x7, x8, none]) D.int (rng 0 N) _ ⟨none, none, none, none, none, none, none, rfl⟩ ?body) fun o ho => ?fin) (by rw [rng_len]; omega)
  case fin =>
    obtain ⟨e, rfl, _⟩ := ho
    exact Dn.ok rfl
  case body =>
    rintro x - e ⟨o2, x3, x4, x5, x6, x7, x8, rfl⟩
    refine ⟨_, rfl, ?_⟩
    simp only [List.set_cons_succ, List.set_cons_zero]
    -- the ring
    refine Dn.le (c := 402 + 1500) (Dn.seq (c1 := 402) (c2 := 1500) (R := fun e => ∃ w, wordI w = true ∧ w.length ≤ 20 ∧ leastW w = w ∧ e = EnP ns q (.int x) w x4 x5 x6 x7 x8) ?_ ?_) (by omega)
    · (conv => arg 3; simp [bodyM, eVar, eC, eOp, eUn, eNil, eCons, eCB, eCO, eCOV, eLst, eTup, eB, eAnd, eOr, eNot, eBv, eAndV, eOrV, eNotV, eIf, eChain, eCall, okA, eTgN, eTgNil, eTgCons, eTgT, eRng, wipeE, noOwn, eLc, eYes, eDc, bNext, bSeq, bRet, bSet, bAsg, bDrop, bIf, bRaise, bFor, frzE, bFrz, setsE, bSets, isiD, tyName, chars, rng_len, eDGet2, eDNew, bApp, ownL, ownD, bDPut, eSl, ePart, eNo, eItA, itA, itD, eIxA, eJoin, isV, iop, cop, subD, modD, fdivD, leD, gtD, geD, eqB, neB, isBlD, notBlD, keyD, isDic, frzE])
      refine Dn.bind (c1 := 400) (c2 := 2) (d_text (q := q) (most := 10) (by omega) (by omega)) fun r hr => ?_
      obtain ⟨w, rfl, w1, w2, w3⟩ := hr
      (conv => arg 3; simp [bodyM, eVar, eC, eOp, eUn, eNil, eCons, eCB, eCO, eCOV, eLst, eTup, eB, eAnd, eOr, eNot, eBv, eAndV, eOrV, eNotV, eIf, eChain, eCall, okA, eTgN, eTgNil, eTgCons, eTgT, eRng, wipeE, noOwn, eLc, eYes, eDc, bNext, bSeq, bRet, bSet, bAsg, bDrop, bIf, bRaise, bFor, frzE, bFrz, setsE, bSets, isiD, tyName, chars, rng_len, eDGet2, eDNew, bApp, ownL, ownD, bDPut, eSl, ePart, eNo, eItA, itA, itD, eIxA, eJoin, isV, iop, cop, subD, modD, fdivD, leD, gtD, geD, eqB, neB, isBlD, notBlD, keyD, isDic])
      refine Dn.pickL (c := 1) (by simp) (by simp) fun d hd => ?_
      have hd : d = .int 1 ∨ d = .int 2 := by simp at hd; exact hd
      obtain ⟨k, hk, rfl⟩ : ∃ k : Nat, (k = 1 ∨ k = 2) ∧ d = .int (k : Int) := by
        rcases hd with rfl | rfl
        · exact ⟨1, .inl rfl, rfl⟩
        · exact ⟨2, .inr rfl, rfl⟩
      obtain ⟨f1, f2⟩ := flat_rep w1 k
      have g1 : w.length * k ≤ 10000000 ∧ -1000000 ≤ (k : Int) ∧ (k : Int) ≤ 1000000 := by rcases hk with rfl | rfl <;> omega
      have g2 : (List.replicate k w).flatten.length ≤ 20 := by rw [f2]; rcases hk with rfl | rfl <;> omega
      have g3 : 0 < (List.replicate k w).flatten.length := by rw [f2]; rcases hk with rfl | rfl <;> omega
      (conv => arg 3; simp [bodyM, eVar, eC, eOp, eUn, eNil, eCons, eCB, eCO, eCOV, eLst, eTup, eB, eAnd, eOr, eNot, eBv, eAndV, eOrV, eNotV, eIf, eChain, eCall, okA, eTgN, eTgNil, eTgCons, eTgT, eRng, wipeE, noOwn, eLc, eYes, eDc, bNext, bSeq, bRet, bSet, bAsg, bDrop, bIf, bRaise, bFor, frzE, bFrz, setsE, bSets, isiD, tyName, chars, rng_len, eDGet2, eDNew, bApp, ownL, ownD, bDPut, eSl, ePart, eNo, eItA, itA, itD, eIxA, eJoin, isV, iop, cop, subD, modD, fdivD, leD, gtD, geD, eqB, neB, isBlD, notBlD, keyD, isDic, mulD, g1, q__law_least_turn (w := (List.replicate k w).flatten) (by omega) g3])
      exact Dn.ok ⟨_, rfl, _, wordI_iff.mpr ⟨least_ac g3 f1, by rw [least_len g3]; exact g3⟩, by rw [least_len g3]; exact g2, least_least g3, rfl⟩
    rintro e ⟨w, hw, hwl, hr, rfl⟩
    obtain ⟨wa, w0⟩ := wordI_iff.mp hw
    have hl7 : w.length ≤ 10000000 := by omega
    -- a spot
    refine Dn.le (c := 1 + 1400) (Dn.seq (c1 := 1) (c2 := 1400) (R := fun e => ∃ k : Nat, k < w.length ∧ e = EnP ns q (.int x) w (some (false, .int (k : Int))) x5 x6 x7 x8) ?_ ?_) (by omega)
    · (conv => arg 3; simp [bodyM, eVar, eC, eOp, eUn, eNil, eCons, eCB, eCO, eCOV, eLst, eTup, eB, eAnd, eOr, eNot, eBv, eAndV, eOrV, eNotV, eIf, eChain, eCall, okA, eTgN, eTgNil, eTgCons, eTgT, eRng, wipeE, noOwn, eLc, eYes, eDc, bNext, bSeq, bRet, bSet, bAsg, bDrop, bIf, bRaise, bFor, frzE, bFrz, setsE, bSets, isiD, tyName, chars, rng_len, eDGet2, eDNew, bApp, ownL, ownD, bDPut, eSl, ePart, eNo, eItA, itA, itD, eIxA, eJoin, isV, iop, cop, subD, modD, fdivD, leD, gtD, geD, eqB, neB, isBlD, notBlD, keyD, isDic, frzE, lenD, hl7])
      refine Dn.tk (c := 0) (by omega) (by omega) fun i a b => ?_
      obtain ⟨k, rfl⟩ : ∃ k : Nat, i = (k : Int) := ⟨i.toNat, by omega⟩
      (conv => arg 3; simp [bodyM, eVar, eC, eOp, eUn, eNil, eCons, eCB, eCO, eCOV, eLst, eTup, eB, eAnd, eOr, eNot, eBv, eAndV, eOrV, eNotV, eIf, eChain, eCall, okA, eTgN, eTgNil, eTgCons, eTgT, eRng, wipeE, noOwn, eLc, eYes, eDc, bNext, bSeq, bRet, bSet, bAsg, bDrop, bIf, bRaise, bFor, frzE, bFrz, setsE, bSets, isiD, tyName, chars, rng_len, eDGet2, eDNew, bApp, ownL, ownD, bDPut, eSl, ePart, eNo, eItA, itA, itD, eIxA, eJoin, isV, iop, cop, subD, modD, fdivD, leD, gtD, geD, eqB, neB, isBlD, notBlD, keyD, isDic])
      exact Dn.ok ⟨_, rfl, k, by omega, rfl⟩
    rintro e ⟨k, hk, rfl⟩
    -- a piece
    have m3 : CMul 3 (w.length : Int) := by unfold CMul; constructor <;> omega
    refine Dn.le (c := 1 + 1300) (Dn.seq (c1 := 1) (c2 := 1300) (R := fun e => ∃ p : List Nat, wordI p = true ∧ p.length ≤ 60 ∧ e = EnP ns q (.int x) w (some (false, .int (k : Int))) (some (false, .str p)) x6 x7 x8) ?_ ?_) (by omega)
    · (conv => arg 3; simp [bodyM, eVar, eC, eOp, eUn, eNil, eCons, eCB, eCO, eCOV, eLst, eTup, eB, eAnd, eOr, eNot, eBv, eAndV, eOrV, eNotV, eIf, eChain, eCall, okA, eTgN, eTgNil, eTgCons, eTgT, eRng, wipeE, noOwn, eLc, eYes, eDc, bNext, bSeq, bRet, bSet, bAsg, bDrop, bIf, bRaise, bFor, frzE, bFrz, setsE, bSets, isiD, tyName, chars, rng_len, eDGet2, eDNew, bApp, ownL, ownD, bDPut, eSl, ePart, eNo, eItA, itA, itD, eIxA, eJoin, isV, iop, cop, subD, modD, fdivD, leD, gtD, geD, eqB, neB, isBlD, notBlD, keyD, isDic, frzE, lenD, hl7, mulD, m3])
      refine Dn.tk (c := 0) (by omega) (by omega) fun i a b => ?_
      obtain ⟨j, rfl⟩ : ∃ k : Nat, i = (k : Int) := ⟨i.toNat, by omega⟩
      obtain ⟨J, hJ, hJ0, hJ1⟩ : ∃ J : Nat, (1 : Int) + (j : Int) = (J : Int) ∧ 0 < J ∧ J ≤ 60 := ⟨1 + j, by omega, by omega, by omega⟩
      (conv => arg 3; simp [bodyM, eVar, eC, eOp, eUn, eNil, eCons, eCB, eCO, eCOV, eLst, eTup, eB, eAnd, eOr, eNot, eBv, eAndV, eOrV, eNotV, eIf, eChain, eCall, okA, eTgN, eTgNil, eTgCons, eTgT, eRng, wipeE, noOwn, eLc, eYes, eDc, bNext, bSeq, bRet, bSet, bAsg, bDrop, bIf, bRaise, bFor, frzE, bFrz, setsE, bSets, isiD, tyName, chars, rng_len, eDGet2, eDNew, bApp, ownL, ownD, bDPut, eSl, ePart, eNo, eItA, itA, itD, eIxA, eJoin, isV, iop, cop, subD, modD, fdivD, leD, gtD, geD, eqB, neB, isBlD, notBlD, keyD, isDic, addD])
      rw [hJ]
      (conv => arg 3; simp [bodyM, eVar, eC, eOp, eUn, eNil, eCons, eCB, eCO, eCOV, eLst, eTup, eB, eAnd, eOr, eNot, eBv, eAndV, eOrV, eNotV, eIf, eChain, eCall, okA, eTgN, eTgNil, eTgCons, eTgT, eRng, wipeE, noOwn, eLc, eYes, eDc, bNext, bSeq, bRet, bSet, bAsg, bDrop, bIf, bRaise, bFor, frzE, bFrz, setsE, bSets, isiD, tyName, chars, rng_len, eDGet2, eDNew, bApp, ownL, ownD, bDPut, eSl, ePart, eNo, eItA, itA, itD, eIxA, eJoin, isV, iop, cop, subD, modD, fdivD, leD, gtD, geD, eqB, neB, isBlD, notBlD, keyD, isDic, q__law_read_on (w := w) (a := (k : Int)) (n := J) (by omega) w0 (by omega)])
      exact Dn.ok ⟨_, rfl, _, wordI_iff.mpr ⟨readW_ac wa w0, by rw [readW_len]; omega⟩, by rw [readW_len]; omega, rfl⟩
    rintro e ⟨p, hp, hpl, rfl⟩
    obtain ⟨pa, p0⟩ := wordI_iff.mp hp
    have pl7 : p.length ≤ 10000000 := by omega
    refine Dn.le (c := 401 + 800) (Dn.seq (c1 := 401) (c2 := 800) (R := fun e => ∃ p : List Nat, wordI p = true ∧ p.length ≤ 61 ∧ e = EnP ns q (.int x) w (some (false, .int (k : Int))) (some (false, .str p)) x6 x7 x8) ?_ ?_) (by omega)
    · have ct : cutL p none (some 3) = p.take 3 := cut_to (i := 3)
      (conv => arg 3; simp [bodyM, eVar, eC, eOp, eUn, eNil, eCons, eCB, eCO, eCOV, eLst, eTup, eB, eAnd, eOr, eNot, eBv, eAndV, eOrV, eNotV, eIf, eChain, eCall, okA, eTgN, eTgNil, eTgCons, eTgT, eRng, wipeE, noOwn, eLc, eYes, eDc, bNext, bSeq, bRet, bSet, bAsg, bDrop, bIf, bRaise, bFor, frzE, bFrz, setsE, bSets, isiD, tyName, chars, rng_len, eDGet2, eDNew, bApp, ownL, ownD, bDPut, eSl, ePart, eNo, eItA, itA, itD, eIxA, eJoin, isV, iop, cop, subD, modD, fdivD, leD, gtD, geD, eqB, neB, isBlD, notBlD, keyD, isDic, frzE, slD, pl7])
      refine Dn.bind (c1 := 400) (c2 := 1) (d_text (q := q) (most := 3) (by omega) (by omega)) fun r hr => ?_
      obtain ⟨z, rfl, z1, z2, z3⟩ := hr
      have pl8 : p.length + 1 ≤ 10000000 := by omega
      (conv => arg 3; simp [bodyM, eVar, eC, eOp, eUn, eNil, eCons, eCB, eCO, eCOV, eLst, eTup, eB, eAnd, eOr, eNot, eBv, eAndV, eOrV, eNotV, eIf, eChain, eCall, okA, eTgN, eTgNil, eTgCons, eTgT, eRng, wipeE, noOwn, eLc, eYes, eDc, bNext, bSeq, bRet, bSet, bAsg, bDrop, bIf, bRaise, bFor, frzE, bFrz, setsE, bSets, isiD, tyName, chars, rng_len, eDGet2, eDNew, bApp, ownL, ownD, bDPut, eSl, ePart, eNo, eItA, itA, itD, eIxA, eJoin, isV, iop, cop, subD, modD, fdivD, leD, gtD, geD, eqB, neB, isBlD, notBlD, keyD, isDic, addD, pl8])
      refine Dn.pickL (c := 0) (by simp) (by simp) fun d hd => ?_
      have hz : ∃ u : List Nat, d = .str u ∧ wordI u = true ∧ u.length ≤ 61 := by
        simp only [List.mem_cons, List.not_mem_nil, or_false] at hd
        rcases hd with rfl | rfl | rfl | rfl | rfl
        · exact ⟨p, rfl, hp, by omega⟩
        · exact ⟨p, rfl, hp, by omega⟩
        · refine ⟨_, rfl, ?_, ?_⟩
          · rw [ct]; exact wordI_iff.mpr ⟨ac_take pa, by rw [List.length_take]; omega⟩
          · rw [ct, List.length_take]; omega
        · exact ⟨z, rfl, wordI_iff.mpr ⟨z1, z2⟩, by omega⟩
        · exact ⟨_, rfl, wordI_iff.mpr ⟨ac_app pa (by unfold Ac; decide), by simp⟩, by simp; omega⟩
      obtain ⟨u, rfl, hu1, hu2⟩ := hz
      (conv => arg 3; simp [bodyM, eVar, eC, eOp, eUn, eNil, eCons, eCB, eCO, eCOV, eLst, eTup, eB, eAnd, eOr, eNot, eBv, eAndV, eOrV, eNotV, eIf, eChain, eCall, okA, eTgN, eTgNil, eTgCons, eTgT, eRng, wipeE, noOwn, eLc, eYes, eDc, bNext, bSeq, bRet, bSet, bAsg, bDrop, bIf, bRaise, bFor, frzE, bFrz, setsE, bSets, isiD, tyName, chars, rng_len, eDGet2, eDNew, bApp, ownL, ownD, bDPut, eSl, ePart, eNo, eItA, itA, itD, eIxA, eJoin, isV, iop, cop, subD, modD, fdivD, leD, gtD, geD, eqB, neB, isBlD, notBlD, keyD, isDic])
      exact Dn.ok ⟨_, rfl, u, hu1, hu2, rfl⟩
    clear hp hpl pa p0 pl7 p
    rintro e ⟨p, hp, hpl, rfl⟩
    obtain ⟨pa, p0⟩ := wordI_iff.mp hp
    have pl7 : p.length ≤ 10000000 := by omega
    -- its places
    refine Dn.seqP (e' := EnP ns q (.int x) w (some (false, .int (k : Int))) (some (false, .str p)) (some (true, .lst ((placesW w p).map .int))) x7 x8) ?_ ?_
    · have h1 : (w.length : Int) ≤ 1000000 := by omega
      have h2 : (-1000000 : Int) ≤ w.length := by omega
      have h3 : w.length ≤ 100000 := by omega
      simp [bodyM, eVar, eC, eOp, eUn, eNil, eCons, eCB, eCO, eCOV, eLst, eTup, eB, eAnd, eOr, eNot, eBv, eAndV, eOrV, eNotV, eIf, eChain, eCall, okA, eTgN, eTgNil, eTgCons, eTgT, eRng, wipeE, noOwn, eLc, eYes, eDc, bNext, bSeq, bRet, bSet, bAsg, bDrop, bIf, bRaise, bFor, frzE, bFrz, setsE, bSets, isiD, tyName, chars, rng_len, eDGet2, eDNew, bApp, ownL, ownD, bDPut, eSl, ePart, eNo, eItA, itA, itD, eIxA, eJoin, isV, iop, cop, subD, modD, fdivD, leD, gtD, geD, eqB, neB, isBlD, notBlD, keyD, isDic, lenD, hl7, rngD1, h1, h2, dInts, h3]
      rw [lc_ok (fun i => D.int i) (fun i => D.int i) (fun i => [some (false, D.scr ns), some (false, D.drw q), some (false, D.int x), some (false, D.str w), some (false, D.int (k : Int)), some (false, D.str p), x6, x7, x8, some (false, D.int i)]) (fun i => decide (readW w i p.length = p)) (rng 0 w.length)]
      · simp [placesW]
      · exact fun i _ => ⟨by simp [eTgN], by simp [bodyM, eVar, eC, eOp, eUn, eNil, eCons, eCB, eCO, eCOV, eLst, eTup, eB, eAnd, eOr, eNot, eBv, eAndV, eOrV, eNotV, eIf, eChain, eCall, okA, eTgN, eTgNil, eTgCons, eTgT, eRng, wipeE, noOwn, eLc, eYes, eDc, bNext, bSeq, bRet, bSet, bAsg, bDrop, bIf, bRaise, bFor, frzE, bFrz, setsE, bSets, isiD, tyName, chars, rng_len, eDGet2, eDNew, bApp, ownL, ownD, bDPut, eSl, ePart, eNo, eItA, itA, itD, eIxA, eJoin, isV, iop, cop, subD, modD, fdivD, leD, gtD, geD, eqB, neB, isBlD, notBlD, keyD, isDic, lenD, pl7, q__law_read_on (w := w) (a := i) (n := p.length) (by omega) w0 (by omega), eqD], fun _ => ⟨.s, by simp [bodyM, eVar, eC, eOp, eUn, eNil, eCons, eCB, eCO, eCOV, eLst, eTup, eB, eAnd, eOr, eNot, eBv, eAndV, eOrV, eNotV, eIf, eChain, eCall, okA, eTgN, eTgNil, eTgCons, eTgT, eRng, wipeE, noOwn, eLc, eYes, eDc, bNext, bSeq, bRet, bSet, bAsg, bDrop, bIf, bRaise, bFor, frzE, bFrz, setsE, bSets, isiD, tyName, chars, rng_len, eDGet2, eDNew, bApp, ownL, ownD, bDPut, eSl, ePart, eNo, eItA, itA, itD, eIxA, eJoin, isV, iop, cop, subD, modD, fdivD, leD, gtD, geD, eqB, neB, isBlD, notBlD, keyD, isDic], rfl⟩⟩
    refine Dn.seqP (e' := EnP ns q (.int x) w (some (false, .int (k : Int))) (some (false, .str p)) (some (true, .lst ((placesW w p).map .int))) (some (true, .lst ((placesW w p).map .int))) x8) ?_ ?_
    · simp [bodyM, eVar, eC, eOp, eUn, eNil, eCons, eCB, eCO, eCOV, eLst, eTup, eB, eAnd, eOr, eNot, eBv, eAndV, eOrV, eNotV, eIf, eChain, eCall, okA, eTgN, eTgNil, eTgCons, eTgT, eRng, wipeE, noOwn, eLc, eYes, eDc, bNext, bSeq, bRet, bSet, bAsg, bDrop, bIf, bRaise, bFor, frzE, bFrz, setsE, bSets, isiD, tyName, chars, rng_len, eDGet2, eDNew, bApp, ownL, ownD, bDPut, eSl, ePart, eNo, eItA, itA, itD, eIxA, eJoin, isV, iop, cop, subD, modD, fdivD, leD, gtD, geD, eqB, neB, isBlD, notBlD, keyD, isDic, q_ring_occurrences (w := w) (p := p) (by omega) hw hr (by omega) hp]
    refine Dn.seqP (e' := EnP ns q (.int x) w (some (false, .int (k : Int))) (some (false, .str p)) (some (false, .lst ((placesW w p).map .int))) (some (true, .lst ((placesW w p).map .int))) x8) ?_ ?_
    · simp [bodyM, eVar, eC, eOp, eUn, eNil, eCons, eCB, eCO, eCOV, eLst, eTup, eB, eAnd, eOr, eNot, eBv, eAndV, eOrV, eNotV, eIf, eChain, eCall, okA, eTgN, eTgNil, eTgCons, eTgT, eRng, wipeE, noOwn, eLc, eYes, eDc, bNext, bSeq, bRet, bSet, bAsg, bDrop, bIf, bRaise, bFor, frzE, bFrz, setsE, bSets, isiD, tyName, chars, rng_len, eDGet2, eDNew, bApp, ownL, ownD, bDPut, eSl, ePart, eNo, eItA, itA, itD, eIxA, eJoin, isV, iop, cop, subD, modD, fdivD, leD, gtD, geD, eqB, neB, isBlD, notBlD, keyD, isDic, eqD_ints, fin, scal]
    have pwl : (placesW w p).length ≤ 20 := by
      have := List.length_filter_le (fun i => decide (readW w i p.length = p)) (rng 0 w.length)
      rw [rng_len] at this
      unfold placesW
      omega
    refine Dn.seqP (e' := EnP ns q (.int x) w (some (false, .int (k : Int))) (some (false, .str p)) (some (false, .lst ((placesW w p).map .int))) (some (true, .lst ((placesW w p).map .int ++ [.non]))) x8) ?_ ?_
    · have : ¬ 1000000 ≤ (placesW w p).length := by omega
      simp [bodyM, eVar, eC, eOp, eUn, eNil, eCons, eCB, eCO, eCOV, eLst, eTup, eB, eAnd, eOr, eNot, eBv, eAndV, eOrV, eNotV, eIf, eChain, eCall, okA, eTgN, eTgNil, eTgCons, eTgT, eRng, wipeE, noOwn, eLc, eYes, eDc, bNext, bSeq, bRet, bSet, bAsg, bDrop, bIf, bRaise, bFor, frzE, bFrz, setsE, bSets, isiD, tyName, chars, rng_len, eDGet2, eDNew, bApp, ownL, ownD, bDPut, eSl, ePart, eNo, eItA, itA, itD, eIxA, eJoin, isV, iop, cop, subD, modD, fdivD, leD, gtD, geD, eqB, neB, isBlD, notBlD, keyD, isDic, this]
    refine Dn.seqP (e' := EnP ns q (.int x) w (some (false, .int (k : Int))) (some (false, .str p)) (some (false, .lst ((placesW w p).map .int))) (some (true, .lst ((placesW w p).map .int ++ [.non]))) x8) ?_ ?_
    · simp [bodyM, eVar, eC, eOp, eUn, eNil, eCons, eCB, eCO, eCOV, eLst, eTup, eB, eAnd, eOr, eNot, eBv, eAndV, eOrV, eNotV, eIf, eChain, eCall, okA, eTgN, eTgNil, eTgCons, eTgT, eRng, wipeE, noOwn, eLc, eYes, eDc, bNext, bSeq, bRet, bSet, bAsg, bDrop, bIf, bRaise, bFor, frzE, bFrz, setsE, bSets, isiD, tyName, chars, rng_len, eDGet2, eDNew, bApp, ownL, ownD, bDPut, eSl, ePart, eNo, eItA, itA, itD, eIxA, eJoin, isV, iop, cop, subD, modD, fdivD, leD, gtD, geD, eqB, neB, isBlD, notBlD, keyD, isDic, eCallN, perm, q_ring_occurrences (w := w) (p := p) (by omega) hw hr (by omega) hp, eqD_ints]
    -- pieces
    refine Dn.le (c := 2 + 500) (Dn.seq (c1 := 2) (c2 := 500) (R := fun e => ∃ m : Nat, 0 < m ∧ m ≤ 60 ∧ e = EnP ns q (.int x) w (some (false, .int (k : Int))) (some (false, .str p)) (some (false, .lst ((placesW w p).map .int))) (some (true, .lst ((placesW w p).map .int ++ [.non]))) (some (false, .int (m : Int)))) ?_ ?_) (by omega)
    · (conv => arg 3; simp [bodyM, eVar, eC, eOp, eUn, eNil, eCons, eCB, eCO, eCOV, eLst, eTup, eB, eAnd, eOr, eNot, eBv, eAndV, eOrV, eNotV, eIf, eChain, eCall, okA, eTgN, eTgNil, eTgCons, eTgT, eRng, wipeE, noOwn, eLc, eYes, eDc, bNext, bSeq, bRet, bSet, bAsg, bDrop, bIf, bRaise, bFor, frzE, bFrz, setsE, bSets, isiD, tyName, chars, rng_len, eDGet2, eDNew, bApp, ownL, ownD, bDPut, eSl, ePart, eNo, eItA, itA, itD, eIxA, eJoin, isV, iop, cop, subD, modD, fdivD, leD, gtD, geD, eqB, neB, isBlD, notBlD, keyD, isDic, frzE, lenD, hl7, mulD, m3])
      refine Dn.pickL (c := 1) (by simp) (by simp) fun d hd => ?_
      have hz : ∃ m : Nat, d = .int (m : Int) ∧ 0 < m ∧ m ≤ 60 := by
        simp only [List.mem_cons, List.not_mem_nil, or_false] at hd
        rcases hd with rfl | rfl | rfl
        · exact ⟨3, rfl, by omega, by omega⟩
        · exact ⟨w.length, rfl, by omega, by omega⟩
        · exact ⟨3 * w.length, by congr 1, by omega, by omega⟩
      obtain ⟨m, rfl, m0, m1⟩ := hz
      (conv => arg 3; simp [bodyM, eVar, eC, eOp, eUn, eNil, eCons, eCB, eCO, eCOV, eLst, eTup, eB, eAnd, eOr, eNot, eBv, eAndV, eOrV, eNotV, eIf, eChain, eCall, okA, eTgN, eTgNil, eTgCons, eTgT, eRng, wipeE, noOwn, eLc, eYes, eDc, bNext, bSeq, bRet, bSet, bAsg, bDrop, bIf, bRaise, bFor, frzE, bFrz, setsE, bSets, isiD, tyName, chars, rng_len, eDGet2, eDNew, bApp, ownL, ownD, bDPut, eSl, ePart, eNo, eItA, itA, itD, eIxA, eJoin, isV, iop, cop, subD, modD, fdivD, leD, gtD, geD, eqB, neB, isBlD, notBlD, keyD, isDic])
      refine Dn.tk (c := 0) (by omega) (by omega) fun i a b => ?_
      obtain ⟨j, rfl⟩ : ∃ k : Nat, i = (k : Int) := ⟨i.toNat, by omega⟩
      have hn : (1 : Int) + (j : Int) = ((1 + j : Nat) : Int) := by omega
      (conv => arg 3; simp [bodyM, eVar, eC, eOp, eUn, eNil, eCons, eCB, eCO, eCOV, eLst, eTup, eB, eAnd, eOr, eNot, eBv, eAndV, eOrV, eNotV, eIf, eChain, eCall, okA, eTgN, eTgNil, eTgCons, eTgT, eRng, wipeE, noOwn, eLc, eYes, eDc, bNext, bSeq, bRet, bSet, bAsg, bDrop, bIf, bRaise, bFor, frzE, bFrz, setsE, bSets, isiD, tyName, chars, rng_len, eDGet2, eDNew, bApp, ownL, ownD, bDPut, eSl, ePart, eNo, eItA, itA, itD, eIxA, eJoin, isV, iop, cop, subD, modD, fdivD, leD, gtD, geD, eqB, neB, isBlD, notBlD, keyD, isDic, addD])
      rw [hn]
      exact Dn.ok ⟨_, rfl, 1 + j, by omega, by omega, rfl⟩
    rintro e ⟨m, m0, m1, rfl⟩
    have rl : (runsW w m).length ≤ 60 := by rw [runsW_len]; omega
    have nd := cntW_nodup (runsW w m)
    have lk : (mp (cntW (runsW w m))).length ≤ 100000 := by
      rw [mp_len]
      have := cnt_len (runsW w m) []
      have h2 : (cntW (runsW w m)).length = (keysT ((runsW w m).foldl cnt [])).length := by unfold cntW; rw [List.length_map, (sortW_perm _).length_eq]
      have h3 : (keysT ((runsW w m).foldl cnt [])).length = ((runsW w m).foldl cnt []).length := by simp [keysT]
      simp at this
      omega
    refine Dn.seqP (e' := EnP ns q (.int x) w (some (false, .int (k : Int))) (some (false, .str p)) (some (true, .dic (mp (cntW (runsW w m))))) (some (true, .dic (mp (cntW (runsW w m))))) (some (false, .int (m : Int)))) ?_ ?_
    · simp [bodyM, eVar, eC, eOp, eUn, eNil, eCons, eCB, eCO, eCOV, eLst, eTup, eB, eAnd, eOr, eNot, eBv, eAndV, eOrV, eNotV, eIf, eChain, eCall, okA, eTgN, eTgNil, eTgCons, eTgT, eRng, wipeE, noOwn, eLc, eYes, eDc, bNext, bSeq, bRet, bSet, bAsg, bDrop, bIf, bRaise, bFor, frzE, bFrz, setsE, bSets, isiD, tyName, chars, rng_len, eDGet2, eDNew, bApp, ownL, ownD, bDPut, eSl, ePart, eNo, eItA, itA, itD, eIxA, eJoin, isV, iop, cop, subD, modD, fdivD, leD, gtD, geD, eqB, neB, isBlD, notBlD, keyD, isDic, q__law_ring_runs (w := w) (n := m) (by omega) w0 (by omega), runsW_str, q__law_counted (ws := runsW w m) rl, q_ring_pieces (w := w) (n := m) (by omega) hw hr m0 (by omega)]
    refine Dn.seqP (e' := EnP ns q (.int x) w (some (false, .int (k : Int))) (some (false, .str p)) (some (false, .dic (mp (cntW (runsW w m))))) (some (true, .dic (mp (cntW (runsW w m))))) (some (false, .int (m : Int)))) ?_ ?_
    · have ek : eqD (.lst ((keysT (cntW (runsW w m))).map D.str)) (.lst ((keysT (cntW (runsW w m))).map D.str)) = some true := by
        have := eqD_strs (f := id) (g := id) (xs := keysT (cntW (runsW w m))) (ys := keysT (cntW (runsW w m))) (keys_ac wa w0) (keys_ac wa w0)
        simpa using this
      have lc : lcGo (eTgN 5) eYes (eIxA (eVar 6) (eVar 5)) [some (false, D.scr ns), some (false, D.drw q), some (false, D.int x), some (false, D.str w), some (false, D.int (k : Int)), none, some (false, .dic (mp (cntW (runsW w m)))), some (true, .dic (mp (cntW (runsW w m)))), some (false, .int (m : Int)), none] ((keysT (cntW (runsW w m))).map D.str) = .ok ((cntW (runsW w m)).map fun e => D.int e.2) := by
        have : (keysT (cntW (runsW w m))).map D.str = (cntW (runsW w m)).map fun e => D.str e.1 := by simp [keysT]
        rw [this]
        refine lc_map _ _ (fun e => [some (false, D.scr ns), some (false, D.drw q), some (false, D.int x), some (false, D.str w), some (false, D.int (k : Int)), some (false, D.str e.1), some (false, .dic (mp (cntW (runsW w m)))), some (true, .dic (mp (cntW (runsW w m)))), some (false, .int (m : Int)), none]) _ fun e he => ⟨rfl, rfl, .s, ?_, rfl⟩
        simp [bodyM, eVar, eC, eOp, eUn, eNil, eCons, eCB, eCO, eCOV, eLst, eTup, eB, eAnd, eOr, eNot, eBv, eAndV, eOrV, eNotV, eIf, eChain, eCall, okA, eTgN, eTgNil, eTgCons, eTgT, eRng, wipeE, noOwn, eLc, eYes, eDc, bNext, bSeq, bRet, bSet, bAsg, bDrop, bIf, bRaise, bFor, frzE, bFrz, setsE, bSets, isiD, tyName, chars, rng_len, eDGet2, eDNew, bApp, ownL, ownD, bDPut, eSl, ePart, eNo, eItA, itA, itD, eIxA, eJoin, isV, iop, cop, subD, modD, fdivD, leD, gtD, geD, eqB, neB, isBlD, notBlD, keyD, isDic, ixA, mp_get, get_mem nd he]
      have sm : ((cntW (runsW w m)).map fun e => e.2).sum = (w.length : Int) := by rw [cntW_sum, runsW_len]
      have lk2 : (keysT (cntW (runsW w m))).length ≤ 100000 := by rw [mp_len] at lk; simpa [keysT] using lk
      have ed : eqD (.dic (mp (cntW (runsW w m)))) (.dic (mp (cntW (runsW w m)))) = some true := by simp [eqD, sameD_mp nd]
      have ei : ∀ i j : Int, eqD (.int i) (.int j) = some (decide (i = j)) := fun _ _ => rfl
      simp [bodyM, eVar, eC, eOp, eUn, eNil, eCons, eCB, eCO, eCOV, eLst, eTup, eB, eAnd, eOr, eNot, eBv, eAndV, eOrV, eNotV, eIf, eChain, eCall, okA, eTgN, eTgNil, eTgCons, eTgT, eRng, wipeE, noOwn, eLc, eYes, eDc, bNext, bSeq, bRet, bSet, bAsg, bDrop, bIf, bRaise, bFor, frzE, bFrz, setsE, bSets, isiD, tyName, chars, rng_len, eDGet2, eDNew, bApp, ownL, ownD, bDPut, eSl, ePart, eNo, eItA, itA, itD, eIxA, eJoin, isV, iop, cop, subD, modD, fdivD, leD, gtD, geD, eqB, neB, isBlD, notBlD, keyD, isDic, ed, fin, scal, listA, scalO, keyOf_mp, ek, lk, lk2, lc, sumD, sm, lenD, hl7, ei]
    refine Dn.seqP (e' := EnP ns q (.int x) w (some (false, .int (k : Int))) (some (false, .str p)) (some (false, .dic (mp (cntW (runsW w m))))) (some (true, .dic (putD (mp (cntW (runsW w m))) (.inr [97]) (.int (-1))))) (some (false, .int (m : Int)))) ?_ ?_
    · have : ¬ 1000000 ≤ (mp (cntW (runsW w m))).length := by omega
      simp [bodyM, eVar, eC, eOp, eUn, eNil, eCons, eCB, eCO, eCOV, eLst, eTup, eB, eAnd, eOr, eNot, eBv, eAndV, eOrV, eNotV, eIf, eChain, eCall, okA, eTgN, eTgNil, eTgCons, eTgT, eRng, wipeE, noOwn, eLc, eYes, eDc, bNext, bSeq, bRet, bSet, bAsg, bDrop, bIf, bRaise, bFor, frzE, bFrz, setsE, bSets, isiD, tyName, chars, rng_len, eDGet2, eDNew, bApp, ownL, ownD, bDPut, eSl, ePart, eNo, eItA, itA, itD, eIxA, eJoin, isV, iop, cop, subD, modD, fdivD, leD, gtD, geD, eqB, neB, isBlD, notBlD, keyD, isDic, negD, this]
    refine Dn.seqP (e' := EnP ns q (.int x) w (some (false, .int (k : Int))) (some (false, .str p)) (some (false, .dic (mp (cntW (runsW w m))))) (some (true, .dic (putD (mp (cntW (runsW w m))) (.inr [97]) (.int (-1))))) (some (false, .int (m : Int)))) ?_ ?_
    · have ed : eqD (.dic (mp (cntW (runsW w m)))) (.dic (mp (cntW (runsW w m)))) = some true := by simp [eqD, sameD_mp nd]
      simp [bodyM, eVar, eC, eOp, eUn, eNil, eCons, eCB, eCO, eCOV, eLst, eTup, eB, eAnd, eOr, eNot, eBv, eAndV, eOrV, eNotV, eIf, eChain, eCall, okA, eTgN, eTgNil, eTgCons, eTgT, eRng, wipeE, noOwn, eLc, eYes, eDc, bNext, bSeq, bRet, bSet, bAsg, bDrop, bIf, bRaise, bFor, frzE, bFrz, setsE, bSets, isiD, tyName, chars, rng_len, eDGet2, eDNew, bApp, ownL, ownD, bDPut, eSl, ePart, eNo, eItA, itA, itD, eIxA, eJoin, isV, iop, cop, subD, modD, fdivD, leD, gtD, geD, eqB, neB, isBlD, notBlD, keyD, isDic, eCallN, perm, q_ring_pieces (w := w) (n := m) (by omega) hw hr m0 (by omega), ed]
    refine Dn.pure (a := .nx (EnP ns q (.int x) w (some (false, .int (k : Int))) (some (false, .str p)) (some (false, .dic (mp (cntW (runsW w m))))) (some (true, .dic (putD (mp (cntW (runsW w m))) (.inr [97]) (.int (-1))))) (some (false, .int (m : Int))))) ?_ ⟨_, rfl, _, _, _, _, _, _, _, rfl⟩
    simp [bodyM, eVar, eC, eOp, eUn, eNil, eCons, eCB, eCO, eCOV, eLst, eTup, eB, eAnd, eOr, eNot, eBv, eAndV, eOrV, eNotV, eIf, eChain, eCall, okA, eTgN, eTgNil, eTgCons, eTgT, eRng, wipeE, noOwn, eLc, eYes, eDc, bNext, bSeq, bRet, bSet, bAsg, bDrop, bIf, bRaise, bFor, frzE, bFrz, setsE, bSets, isiD, tyName, chars, rng_len, eDGet2, eDNew, bApp, ownL, ownD, bDPut, eSl, ePart, eNo, eItA, itA, itD, eIxA, eJoin, isV, iop, cop, subD, modD, fdivD, leD, gtD, geD, eqB, neB, isBlD, notBlD, keyD, isDic, eCallN, perm, q_ring_strand (w := w) (by omega) hw hr, q__law_other_strand (w := w) (by omega) wa, q__law_least_turn (w := strandW w) (by rw [strand_len]; omega) (by rw [strand_len]; omega), eqD]
theorem law_pure (ns : List Int) (hl : ns.length ≤ 63) : wp [] 1000000000000 (m_law [.scr ns]) (fun _ _ r => r = (.s, .bl true)) (fun _ _ _ => False) := by
  simp [m_law, bodyM, b_law, bRet, eAndV, eB, eCall, eCons, eVar, eNil, okA, isV]
  refine wp_bind.mpr (wp_mono (turns_right hl (by omega)) (fun dr n r h => ?_) fun _ _ _ e => e)
  obtain ⟨hn, rfl⟩ := h
  simp [ret]
  refine wp_bind.mpr (wp_mono (pieces_right hl (by omega)) (fun dr n r h => ?_) fun _ _ _ e => e)
  obtain ⟨_, rfl⟩ := h
  simp [ret, wp]
end Y

namespace Y
open PySem PySem.Spec PyProof.Rows L2 Z
def top (i : Nat) : Stmt := PySem.Challenge.pw_readhouse_k04_turns_and_pieces_of_rings.main.body.getD i (.Pass ⟨0, 0, 0, 0⟩)
theorem sc__law_begun : FnScope ["_law_script", "_law_wide", "_law_cell"] ["_law_script"] (defScope (top 32)) := ⟨rfl, rfl, rfl, by decide +kernel, rfl, by decide +kernel, by decide +kernel⟩
theorem lk__law_begun {P : Program} {w : World} {k : Kx} {mg : Str → Option Value} {base : Heap} {f : Addr} {fd : FuncData} (B : Blt mg) (F : FunD k.K "_law_begun" "_law_begun" (defArgs (top 32)) (defBody (top 32)) (defScope (top 32)) [] [] f fd) : FnOk P w k.K mg base (L2.CX P w) 1 f fd ["_law_script"] (spM k m_begun) := by
  refine F.ok sc__law_begun (fun vs H Q E h => (pure_begunC (K := k.K) (ca := k.ca) vs H Q E (begun_ok h).2).1) (fun cdv A outer s H vs Q E hr h => ⟨t__law_begun k.K k.ca E, ?_, (pure_begunC (K := k.K) (ca := k.ca) vs H Q E (begun_ok h).2).2⟩)
  have nd := sc__law_begun.nd
  have hu : A.units + 3 + 100 < cLine := by have := hr.un; have e : (A.deeper (envOfC "_law_begun" (defScope (top 32)) s.heap.objs.size f cdv)).units = A.units + 3 := rfl; omega
  have hu1 : A.units + 3 + 1 < cLine := by omega
  have hu64 : A.units + 3 + 64 < cLine := by omega
  exact (pss_cons (ps_setLc (i := 1) (own := [("_law_cell", 2)]) rfl nd rfl rfl (sw_true rfl rfl rfl (by decide +kernel)) (pi_list (pv 0)) (blkOk_by rfl) (fun _ _ _ _ _ => (pg_name (i := 2) nd rfl (by first | exact Or.inl rfl | exact Or.inr rfl))) (fun _ _ _ _ _ => (pts_one (pt_cmpR op_ge (pe_callB call_abs rfl B.z_abs (by decide +kernel) (pa_cons (pv 2) pa_nil)) (pe_op op_pow pe_int pe_int) (nomark _)))) (fun _ _ _ _ _ => (pe_op op_sub (pe_callB call_abs rfl B.z_abs (by decide +kernel) (pa_cons (pv 2) pa_nil)) (pe_op op_pow pe_int pe_int)))) (pss_one (ps_ret (pe_disp (pps_cons pe_str (pv 1) (pps_cons pe_str (pe_lc (own := [("_law_cell", 2)]) rfl nd (pi_list (pv 0)) (blkOk_by rfl) (fun _ _ _ _ _ => (pg_name (i := 2) nd rfl (by first | exact Or.inl rfl | exact Or.inr rfl))) (fun _ _ _ _ _ => pts_nil) (fun _ _ _ _ _ => (pe_op op_modN (pe_callTy call_int1 rfl B.z_int (by decide +kernel) (pa_cons (pe_callB call_abs rfl B.z_abs (by decide +kernel) (pa_cons (pv 2) pa_nil)) pa_nil)) pe_int))) (pps_cons pe_str pe_int (pps_cons pe_str pe_int pps_nil)))) (by rfl) (by rfl) (fun z => by cases z) (by decide)))))
theorem sc__law_mixed : FnScope ["_law_draw", "_law_tick", "_law_found", "_law_prime", "_law_blend", "_law_cell"] ["_law_draw"] (defScope (top 33)) := ⟨rfl, rfl, rfl, by decide +kernel, rfl, by decide +kernel, by decide +kernel⟩
theorem lk__law_mixed {P : Program} {w : World} {k : Kx} {mg : Str → Option Value} {base : Heap} {f : Addr} {fd : FuncData} (B : Blt mg) (F : FunD k.K "_law_mixed" "_law_mixed" (defArgs (top 33)) (defBody (top 33)) (defScope (top 33)) [] [] f fd) : FnOk P w k.K mg base (L2.CX P w) 1 f fd ["_law_draw"] (sp__law_mixed k.K k.ca) := by
  refine F.ok sc__law_mixed (fun vs H Q E h => (pure__law_mixed vs H Q E h).1) (fun cdv A outer s H vs Q E hr h => ⟨t__law_mixed k.K k.ca E, ?_, (pure__law_mixed vs H Q E h).2⟩)
  have nd := sc__law_mixed.nd
  have hu : A.units + 3 + 100 < cLine := by have := hr.un; have e : (A.deeper (envOfC "_law_mixed" (defScope (top 33)) s.heap.objs.size f cdv)).units = A.units + 3 := rfl; omega
  have hu1 : A.units + 3 + 1 < cLine := by omega
  have hu64 : A.units + 3 + 64 < cLine := by omega
  exact (pss_cons (ps_par rfl nd rfl rfl (by decide) rfl rfl (pa_cons (pe_op op_add (pe_dget hu1 (pv 0) pe_str (fun _ _ => rfl)) pe_int) (pa_cons pe_int pa_nil)) rfl) (pss_cons (ps_dput hu1 (pv 0) pe_str (pv 1) rfl) (pss_cons (ps_for (passes_of rfl) rfl (pi_list (pe_lst (pa_cons pe_int (pa_cons pe_int (pa_cons pe_int (pa_cons pe_int pa_nil)))))) (pg_name (i := 3) nd rfl (by first | exact Or.inl rfl | exact Or.inr rfl)) (pss_cons (ps_set (i := 4) nd rfl (by first | exact Or.inl rfl | exact Or.inr rfl) (pe_op op_add (pe_op op_mul pe_int (pv 1)) (pe_op op_fdivN (pv 3) pe_int))) (pss_cons (ps_for (passes_of rfl) rfl (pi_list (pe_dget hu1 (pv 0) pe_str (fun _ _ => rfl))) (pg_name (i := 5) nd rfl (by first | exact Or.inl rfl | exact Or.inr rfl)) (pss_one (ps_set (i := 4) nd rfl (by first | exact Or.inl rfl | exact Or.inr rfl) (pe_op op_modN (pe_callTy call_int1 rfl B.z_int (by decide +kernel) (pa_cons (pe_op op_add (pe_op op_add (pe_op op_mul (pv 4) pe_int) (pv 5)) (pv 1)) pa_nil)) (pv 3))))) (pss_one (ps_set (i := 2) nd rfl (by first | exact Or.inl rfl | exact Or.inr rfl) (pe_op op_add (pe_op op_mul (pv 2) pe_int) (pe_op op_modN (pe_callTy call_int1 rfl B.z_int (by decide +kernel) (pa_cons (pe_op op_pow (pv 4) pe_int) pa_nil)) (pv 3)))))))) (pss_one (ps_ret (pv 2))))))
theorem sc__law_take : FnScope ["_law_draw", "_law_total", "_law_found"] ["_law_draw", "_law_total"] (defScope (top 34)) := ⟨rfl, rfl, rfl, by decide +kernel, rfl, by decide +kernel, by decide +kernel⟩
theorem lk__law_take {P : Program} {w : World} {k : Kx} {mg : Str → Option Value} {base : Heap} {f : Addr} {fd : FuncData} (B : Blt mg) (F__law_mixed : FnIs P w k.K mg base 1 "_law_mixed" ["_law_draw"] (sp__law_mixed k.K k.ca)) (F : FunD k.K "_law_take" "_law_take" (defArgs (top 34)) (defBody (top 34)) (defScope (top 34)) [] [] f fd) : FnOk P w k.K mg base (L2.CX P w) 2 f fd ["_law_draw", "_law_total"] (spM k m_take) := by
  refine F.ok sc__law_take (fun vs H Q E h => (pure_takeC (K := k.K) (ca := k.ca) vs H Q E (take_ok h)).1) (fun cdv A outer s H vs Q E hr h => ⟨t__law_take k.K k.ca E, ?_, (pure_takeC (K := k.K) (ca := k.ca) vs H Q E (take_ok h)).2⟩)
  have nd := sc__law_take.nd
  have hu : A.units + 3 + 100 < cLine := by have := hr.un; have e : (A.deeper (envOfC "_law_take" (defScope (top 34)) s.heap.objs.size f cdv)).units = A.units + 3 := rfl; omega
  have hu1 : A.units + 3 + 1 < cLine := by omega
  have hu64 : A.units + 3 + 64 < cLine := by omega
  exact (pss_cons (ps_if (pt_cmpR op_eq (pe_dget hu1 (pv 0) pe_str (fun _ _ => rfl)) pe_int (nomark _)) (pss_one (ps_dput hu1 (pv 0) pe_str (pe_ifExp (pt_cmpR (op_neD hu64) (pe_dget hu1 (pv 0) pe_str (fun _ _ => rfl)) (pe_lst pa_nil) (nomark _)) (pe_bm PySem.F.plainAttrs_list PySem.F.slot_list_pop PySem.F.type_list_pop mt_popAt (pe_dget hu1 (pv 0) pe_str (fun _ _ => rfl)) (pa_cons pe_int pa_nil)) (pe_fn F__law_mixed (hr.mono (by decide)) rfl (passes_call (takes_of rfl rfl rfl rfl) (fun _ _ _ _ h => h)) (pa_cons (pv 0) pa_nil))) rfl)) pss_nil) (pss_cons (ps_set (i := 2) nd rfl (by first | exact Or.inl rfl | exact Or.inr rfl) (pe_op op_modN (pe_callTy call_int1 rfl B.z_int (by decide +kernel) (pa_cons (pe_dget hu1 (pv 0) pe_str (fun _ _ => rfl)) pa_nil)) (pv 1))) (pss_cons (ps_dput hu1 (pv 0) pe_str (pe_op op_fdivN (pe_dget hu1 (pv 0) pe_str (fun _ _ => rfl)) (pv 1)) rfl) (pss_one (ps_ret (pv 2))))))
theorem sc_caught : FnScope ["_law_job", "_law_found", "_law_error"] ["_law_job"] (defScope (top 36)) := ⟨rfl, rfl, rfl, by decide +kernel, rfl, by decide +kernel, by decide +kernel⟩
theorem sc_is_integer : FnScope ["value"] ["value"] (defScope (top 10)) := ⟨rfl, rfl, rfl, by decide +kernel, rfl, by decide +kernel, by decide +kernel⟩
theorem lk_is_integer {P : Program} {w : World} {k : Kx} {mg : Str → Option Value} {base : Heap} {f : Addr} {fd : FuncData} (B : Blt mg) (hXT : XTab k XT) (F : FunD k.K "is_integer" "is_integer" (defArgs (top 10)) (defBody (top 10)) (defScope (top 10)) [] [] f fd) : FnOk P w k.K mg base (L2.CX P w) 1 f fd ["value"] (spM k m_is_integer) := by
  refine F.ok sc_is_integer (fun vs H Q E h => (body_ok (N := ["value"]) (ar := 1) (t := t_is_integer k) (b := b_is_integer) (fun E => s_is_integer hXT E) h (by decide)).1) (fun cdv A outer s H vs Q E hr h => ⟨t_is_integer k E, ?_, (body_ok (N := ["value"]) (ar := 1) (t := t_is_integer k) (b := b_is_integer) (fun E => s_is_integer hXT E) h (by decide)).2⟩)
  have nd := sc_is_integer.nd
  have hu : A.units + 3 + 100 < cLine := by have := hr.un; have e : (A.deeper (envOfC "is_integer" (defScope (top 10)) s.heap.objs.size f cdv)).units = A.units + 3 := rfl; omega
  have hu1 : A.units + 3 + 1 < cLine := by omega
  have hu64 : A.units + 3 + 64 < cLine := by omega
  exact (pss_one (ps_ret (L2.pe_and (pe_callB call_isA rfl B.z_isinstance (by decide +kernel) (pa_cons (pv 0) (pa_cons (pe_bltn (v := .ty "int") rfl B.z_int (by decide +kernel) rfl) pa_nil))) (pe_one (pe_not (pe_callB call_isA rfl B.z_isinstance (by decide +kernel) (pa_cons (pv 0) (pa_cons (pe_bltn (v := .ty "bool") rfl B.z_bool (by decide +kernel) rfl) pa_nil))))))))
theorem sc_is_line : FnScope ["value", "sign"] ["value"] (defScope (top 12)) := ⟨rfl, rfl, rfl, by decide +kernel, rfl, by decide +kernel, by decide +kernel⟩
theorem lk_is_line {P : Program} {w : World} {k : Kx} {mg : Str → Option Value} {base : Heap} {f : Addr} {fd : FuncData} (B : Blt mg) (g_LETTERS : ∃ t, mg "LETTERS" = some (.str "acgt" t)) (hXT : XTab k XT) (F : FunD k.K "is_line" "is_line" (defArgs (top 12)) (defBody (top 12)) (defScope (top 12)) [] [] f fd) : FnOk P w k.K mg base (L2.CX P w) 1 f fd ["value"] (spM k m_is_line) := by
  refine F.ok sc_is_line (fun vs H Q E h => (body_ok (N := ["value", "sign"]) (ar := 1) (t := t_is_line k) (b := b_is_line) (fun E => s_is_line hXT E) h (by decide)).1) (fun cdv A outer s H vs Q E hr h => ⟨t_is_line k E, ?_, (body_ok (N := ["value", "sign"]) (ar := 1) (t := t_is_line k) (b := b_is_line) (fun E => s_is_line hXT E) h (by decide)).2⟩)
  have nd := sc_is_line.nd
  have hu : A.units + 3 + 100 < cLine := by have := hr.un; have e : (A.deeper (envOfC "is_line" (defScope (top 12)) s.heap.objs.size f cdv)).units = A.units + 3 := rfl; omega
  have hu1 : A.units + 3 + 1 < cLine := by omega
  have hu64 : A.units + 3 + 64 < cLine := by omega
  exact (pss_one (ps_ret (L2.pe_and (pe_callB call_isA rfl B.z_isinstance (by decide +kernel) (pa_cons (pv 0) (pa_cons (pe_bltn (v := .ty "str") rfl B.z_str (by decide +kernel) rfl) pa_nil))) (pe_one (pe_callB (cr_all rfl) rfl B.z_all (by decide +kernel) (pa_cons (pe_lc (own := [("sign", 1)]) rfl nd (pi_anyD (pv 0)) (blkOk_by rfl) (fun _ _ _ _ _ => (pg_name (i := 1) nd rfl (by first | exact Or.inl rfl | exact Or.inr rfl))) (fun _ _ _ _ _ => pts_nil) (fun _ _ _ _ _ => (pe_cmpR (or_inA hu) (pv 1) (pe_gstr rfl g_LETTERS) rfl))) pa_nil))))))
theorem sc_counted : FnScope ["some", "found", "one"] ["some"] (defScope (top 16)) := ⟨rfl, rfl, rfl, by decide +kernel, rfl, by decide +kernel, by decide +kernel⟩
theorem lk_counted {P : Program} {w : World} {k : Kx} {mg : Str → Option Value} {base : Heap} {f : Addr} {fd : FuncData} (B : Blt mg) (F : FunD k.K "counted" "counted" (defArgs (top 16)) (defBody (top 16)) (defScope (top 16)) [] [] f fd) : FnOk P w k.K mg base (L2.CX P w) 1 f fd ["some"] (spM k m_counted) := by
  refine F.ok sc_counted (fun vs H Q E h => (body_ok (N := ["some", "found", "one"]) (ar := 1) (t := t_counted k) (b := b_counted) (fun E => s_counted  E) h (by decide)).1) (fun cdv A outer s H vs Q E hr h => ⟨t_counted k E, ?_, (body_ok (N := ["some", "found", "one"]) (ar := 1) (t := t_counted k) (b := b_counted) (fun E => s_counted  E) h (by decide)).2⟩)
  have nd := sc_counted.nd
  have hu : A.units + 3 + 100 < cLine := by have := hr.un; have e : (A.deeper (envOfC "counted" (defScope (top 16)) s.heap.objs.size f cdv)).units = A.units + 3 := rfl; omega
  have hu1 : A.units + 3 + 1 < cLine := by omega
  have hu64 : A.units + 3 + 64 < cLine := by omega
  exact (pss_cons (ps_set (i := 1) nd rfl (by first | exact Or.inl rfl | exact Or.inr rfl) pe_dnewK) (pss_cons (ps_for (passes_of rfl) rfl (pi_anyD (pv 0)) (pg_name (i := 2) nd rfl (by first | exact Or.inl rfl | exact Or.inr rfl)) (pss_one (ps_dput hu1 (pv 1) (pv 2) (pe_op or_add (pe_dget2 hu1 (pv 1) (pv 2) pe_int ⟨by rfl, by rfl, by rfl, by rfl⟩) pe_int) rfl))) (pss_one (ps_ret (pe_dc (own := [("one", 2)]) rfl nd (pi_anyD (pe_callB (cr_sorted rfl hu) rfl B.z_sorted (by decide +kernel) (pa_cons (pv 1) pa_nil))) (blkOk_by rfl) (fun _ _ _ _ _ => (pg_name (i := 2) nd rfl (by first | exact Or.inl rfl | exact Or.inr rfl))) (fun _ _ _ _ _ => pts_nil) (fun _ _ _ _ _ => (pv 2)) (fun _ _ _ _ _ => (pe_ix (ix_any hu) (pv 1) (pv 2) (fun _ _ => rfl))))))))
theorem sc_strand_of : FnScope ["text", "sign"] ["text"] (defScope (top 17)) := ⟨rfl, rfl, rfl, by decide +kernel, rfl, by decide +kernel, by decide +kernel⟩
theorem lk_strand_of {P : Program} {w : World} {k : Kx} {mg : Str → Option Value} {base : Heap} {f : Addr} {fd : FuncData} (B : Blt mg) (G_PARTNERS : mg "PARTNERS" = some (.ref (k.ca "PARTNERS"))) (KD_PARTNERS : ∃ es n, KDict k.K w (k.ca "PARTNERS") es n) (KT_PARTNERS : KTab k.K (k.ca "PARTNERS") ([([97], [116]), ([99], [103]), ([103], [99]), ([116], [97])].map fun p : List Nat × List Nat => (S p.1, S p.2))) (F : FunD k.K "strand_of" "strand_of" (defArgs (top 17)) (defBody (top 17)) (defScope (top 17)) [] [] f fd) : FnOk P w k.K mg base (L2.CX P w) 1 f fd ["text"] (spM k m_strand_of) := by
  refine F.ok sc_strand_of (fun vs H Q E h => (body_ok (N := ["text", "sign"]) (ar := 1) (t := t_strand_of k) (b := b_strand_of) (fun E => s_strand_of KT_PARTNERS E) h (by decide)).1) (fun cdv A outer s H vs Q E hr h => ⟨t_strand_of k E, ?_, (body_ok (N := ["text", "sign"]) (ar := 1) (t := t_strand_of k) (b := b_strand_of) (fun E => s_strand_of KT_PARTNERS E) h (by decide)).2⟩)
  have nd := sc_strand_of.nd
  have hu : A.units + 3 + 100 < cLine := by have := hr.un; have e : (A.deeper (envOfC "strand_of" (defScope (top 17)) s.heap.objs.size f cdv)).units = A.units + 3 := rfl; omega
  have hu1 : A.units + 3 + 1 < cLine := by omega
  have hu64 : A.units + 3 + 64 < cLine := by omega
  exact (pss_one (ps_ret (pe_join pe_str (pe_lc (own := [("sign", 1)]) rfl nd (pi_anyD (pe_revS (pv 0))) (blkOk_by rfl) (fun _ _ _ _ _ => (pg_name (i := 1) nd rfl (by first | exact Or.inl rfl | exact Or.inr rfl))) (fun _ _ _ _ _ => pts_nil) (fun _ _ _ _ _ => (pe_kd KD_PARTNERS rfl G_PARTNERS (pv 1)))))))
theorem sc_turn_of : FnScope ["text", "number"] ["text", "number"] (defScope (top 19)) := ⟨rfl, rfl, rfl, by decide +kernel, rfl, by decide +kernel, by decide +kernel⟩
theorem lk_turn_of {P : Program} {w : World} {k : Kx} {mg : Str → Option Value} {base : Heap} {f : Addr} {fd : FuncData} (B : Blt mg) (F : FunD k.K "turn_of" "turn_of" (defArgs (top 19)) (defBody (top 19)) (defScope (top 19)) [] [] f fd) : FnOk P w k.K mg base (L2.CX P w) 1 f fd ["text", "number"] (spM k m_turn_of) := by
  refine F.ok sc_turn_of (fun vs H Q E h => (body_ok (N := ["text", "number"]) (ar := 2) (t := t_turn_of k) (b := b_turn_of) (fun E => s_turn_of  E) h (by decide)).1) (fun cdv A outer s H vs Q E hr h => ⟨t_turn_of k E, ?_, (body_ok (N := ["text", "number"]) (ar := 2) (t := t_turn_of k) (b := b_turn_of) (fun E => s_turn_of  E) h (by decide)).2⟩)
  have nd := sc_turn_of.nd
  have hu : A.units + 3 + 100 < cLine := by have := hr.un; have e : (A.deeper (envOfC "turn_of" (defScope (top 19)) s.heap.objs.size f cdv)).units = A.units + 3 := rfl; omega
  have hu1 : A.units + 3 + 1 < cLine := by omega
  have hu64 : A.units + 3 + 64 < cLine := by omega
  exact (pss_one (ps_ret (pe_op or_add (pe_slice or_sl (pv 0) (po_some (pv 1)) po_none) (pe_slice or_sl (pv 0) po_none (po_some (pv 1))))))
theorem sc_read_on : FnScope ["text", "at", "length", "step"] ["text", "at", "length"] (defScope (top 25)) := ⟨rfl, rfl, rfl, by decide +kernel, rfl, by decide +kernel, by decide +kernel⟩
theorem lk_read_on {P : Program} {w : World} {k : Kx} {mg : Str → Option Value} {base : Heap} {f : Addr} {fd : FuncData} (B : Blt mg) (F : FunD k.K "read_on" "read_on" (defArgs (top 25)) (defBody (top 25)) (defScope (top 25)) [] [] f fd) : FnOk P w k.K mg base (L2.CX P w) 1 f fd ["text", "at", "length"] (spM k m_read_on) := by
  refine F.ok sc_read_on (fun vs H Q E h => (body_ok (N := ["text", "at", "length", "step"]) (ar := 3) (t := t_read_on k) (b := b_read_on) (fun E => s_read_on  E) h (by decide)).1) (fun cdv A outer s H vs Q E hr h => ⟨t_read_on k E, ?_, (body_ok (N := ["text", "at", "length", "step"]) (ar := 3) (t := t_read_on k) (b := b_read_on) (fun E => s_read_on  E) h (by decide)).2⟩)
  have nd := sc_read_on.nd
  have hu : A.units + 3 + 100 < cLine := by have := hr.un; have e : (A.deeper (envOfC "read_on" (defScope (top 25)) s.heap.objs.size f cdv)).units = A.units + 3 := rfl; omega
  have hu1 : A.units + 3 + 1 < cLine := by omega
  have hu64 : A.units + 3 + 64 < cLine := by omega
  exact (pss_one (ps_ret (pe_join pe_str (pe_lc (own := [("step", 3)]) rfl nd (pi_range1 rfl B.z_range (pa_cons (pv 2) pa_nil)) (blkOk_by rfl) (fun _ _ _ _ _ => (pg_name (i := 3) nd rfl (by first | exact Or.inl rfl | exact Or.inr rfl))) (fun _ _ _ _ _ => pts_nil) (fun _ _ _ _ _ => (pe_ix (ix_any hu) (pv 0) (pe_op op_modN (pe_op or_add (pv 1) (pv 3)) (pe_callB cr_len rfl B.z_len (by decide +kernel) (pa_cons (pv 0) pa_nil))) (fun _ _ => rfl)))))))
theorem sc__law_turns : FnScope ["_law_text_here", "_law_at"] ["_law_text_here"] (defScope (top 40)) := ⟨rfl, rfl, rfl, by decide +kernel, rfl, by decide +kernel, by decide +kernel⟩
theorem lk__law_turns {P : Program} {w : World} {k : Kx} {mg : Str → Option Value} {base : Heap} {f : Addr} {fd : FuncData} (B : Blt mg) (F : FunD k.K "_law_turns" "_law_turns" (defArgs (top 40)) (defBody (top 40)) (defScope (top 40)) [] [] f fd) : FnOk P w k.K mg base (L2.CX P w) 1 f fd ["_law_text_here"] (spM k m__law_turns) := by
  refine F.ok sc__law_turns (fun vs H Q E h => (body_ok (N := ["_law_text_here", "_law_at"]) (ar := 1) (t := t__law_turns k) (b := b__law_turns) (fun E => s__law_turns  E) h (by decide)).1) (fun cdv A outer s H vs Q E hr h => ⟨t__law_turns k E, ?_, (body_ok (N := ["_law_text_here", "_law_at"]) (ar := 1) (t := t__law_turns k) (b := b__law_turns) (fun E => s__law_turns  E) h (by decide)).2⟩)
  have nd := sc__law_turns.nd
  have hu : A.units + 3 + 100 < cLine := by have := hr.un; have e : (A.deeper (envOfC "_law_turns" (defScope (top 40)) s.heap.objs.size f cdv)).units = A.units + 3 := rfl; omega
  have hu1 : A.units + 3 + 1 < cLine := by omega
  have hu64 : A.units + 3 + 64 < cLine := by omega
  exact (pss_one (ps_ret (pe_lc (own := [("_law_at", 1)]) rfl nd (pi_range1 rfl B.z_range (pa_cons (pe_callB cr_len rfl B.z_len (by decide +kernel) (pa_cons (pv 0) pa_nil)) pa_nil)) (blkOk_by rfl) (fun _ _ _ _ _ => (pg_name (i := 1) nd rfl (by first | exact Or.inl rfl | exact Or.inr rfl))) (fun _ _ _ _ _ => pts_nil) (fun _ _ _ _ _ => (pe_op or_add (pe_slice or_sl (pv 0) (po_some (pv 1)) po_none) (pe_slice or_sl (pv 0) po_none (po_some (pv 1))))))))
theorem sc__law_read_on : FnScope ["_law_text_here", "_law_at", "_law_many", "_law_step"] ["_law_text_here", "_law_at", "_law_many"] (defScope (top 42)) := ⟨rfl, rfl, rfl, by decide +kernel, rfl, by decide +kernel, by decide +kernel⟩
theorem lk__law_read_on {P : Program} {w : World} {k : Kx} {mg : Str → Option Value} {base : Heap} {f : Addr} {fd : FuncData} (B : Blt mg) (F : FunD k.K "_law_read_on" "_law_read_on" (defArgs (top 42)) (defBody (top 42)) (defScope (top 42)) [] [] f fd) : FnOk P w k.K mg base (L2.CX P w) 1 f fd ["_law_text_here", "_law_at", "_law_many"] (spM k m__law_read_on) := by
  refine F.ok sc__law_read_on (fun vs H Q E h => (body_ok (N := ["_law_text_here", "_law_at", "_law_many", "_law_step"]) (ar := 3) (t := t__law_read_on k) (b := b__law_read_on) (fun E => s__law_read_on  E) h (by decide)).1) (fun cdv A outer s H vs Q E hr h => ⟨t__law_read_on k E, ?_, (body_ok (N := ["_law_text_here", "_law_at", "_law_many", "_law_step"]) (ar := 3) (t := t__law_read_on k) (b := b__law_read_on) (fun E => s__law_read_on  E) h (by decide)).2⟩)
  have nd := sc__law_read_on.nd
  have hu : A.units + 3 + 100 < cLine := by have := hr.un; have e : (A.deeper (envOfC "_law_read_on" (defScope (top 42)) s.heap.objs.size f cdv)).units = A.units + 3 := rfl; omega
  have hu1 : A.units + 3 + 1 < cLine := by omega
  have hu64 : A.units + 3 + 64 < cLine := by omega
  exact (pss_one (ps_ret (pe_join pe_str (pe_lc (own := [("_law_step", 3)]) rfl nd (pi_range1 rfl B.z_range (pa_cons (pv 2) pa_nil)) (blkOk_by rfl) (fun _ _ _ _ _ => (pg_name (i := 3) nd rfl (by first | exact Or.inl rfl | exact Or.inr rfl))) (fun _ _ _ _ _ => pts_nil) (fun _ _ _ _ _ => (pe_ix (ix_any hu) (pv 0) (pe_op op_modN (pe_callTy call_int1 rfl B.z_int (by decide +kernel) (pa_cons (pe_op or_add (pv 1) (pv 3)) pa_nil)) (pe_callB cr_len rfl B.z_len (by decide +kernel) (pa_cons (pv 0) pa_nil))) (fun _ _ => rfl)))))))
theorem sc__law_counted : FnScope ["_law_some", "_law_found", "_law_one"] ["_law_some"] (defScope (top 44)) := ⟨rfl, rfl, rfl, by decide +kernel, rfl, by decide +kernel, by decide +kernel⟩
theorem lk__law_counted {P : Program} {w : World} {k : Kx} {mg : Str → Option Value} {base : Heap} {f : Addr} {fd : FuncData} (B : Blt mg) (F : FunD k.K "_law_counted" "_law_counted" (defArgs (top 44)) (defBody (top 44)) (defScope (top 44)) [] [] f fd) : FnOk P w k.K mg base (L2.CX P w) 1 f fd ["_law_some"] (spM k m__law_counted) := by
  refine F.ok sc__law_counted (fun vs H Q E h => (body_ok (N := ["_law_some", "_law_found", "_law_one"]) (ar := 1) (t := t__law_counted k) (b := b__law_counted) (fun E => s__law_counted  E) h (by decide)).1) (fun cdv A outer s H vs Q E hr h => ⟨t__law_counted k E, ?_, (body_ok (N := ["_law_some", "_law_found", "_law_one"]) (ar := 1) (t := t__law_counted k) (b := b__law_counted) (fun E => s__law_counted  E) h (by decide)).2⟩)
  have nd := sc__law_counted.nd
  have hu : A.units + 3 + 100 < cLine := by have := hr.un; have e : (A.deeper (envOfC "_law_counted" (defScope (top 44)) s.heap.objs.size f cdv)).units = A.units + 3 := rfl; omega
  have hu1 : A.units + 3 + 1 < cLine := by omega
  have hu64 : A.units + 3 + 64 < cLine := by omega
  exact (pss_cons (ps_set (i := 1) nd rfl (by first | exact Or.inl rfl | exact Or.inr rfl) pe_dnewK) (pss_cons (ps_for (passes_of rfl) rfl (pi_anyD (pe_callB (cr_sorted rfl hu) rfl B.z_sorted (by decide +kernel) (pa_cons (pv 0) pa_nil))) (pg_name (i := 2) nd rfl (by first | exact Or.inl rfl | exact Or.inr rfl)) (pss_one (ps_dput hu1 (pv 1) (pv 2) (pe_op or_add (pe_dget2 hu1 (pv 1) (pv 2) pe_int ⟨by rfl, by rfl, by rfl, by rfl⟩) pe_int) rfl))) (pss_one (ps_ret (pv 1)))))
theorem sc__law_other_strand : FnScope ["_law_text_here", "_law_sign"] ["_law_text_here"] (defScope (top 45)) := ⟨rfl, rfl, rfl, by decide +kernel, rfl, by decide +kernel, by decide +kernel⟩
theorem lk__law_other_strand {P : Program} {w : World} {k : Kx} {mg : Str → Option Value} {base : Heap} {f : Addr} {fd : FuncData} (B : Blt mg) (F : FunD k.K "_law_other_strand" "_law_other_strand" (defArgs (top 45)) (defBody (top 45)) (defScope (top 45)) [] [] f fd) : FnOk P w k.K mg base (L2.CX P w) 1 f fd ["_law_text_here"] (spM k m__law_other_strand) := by
  refine F.ok sc__law_other_strand (fun vs H Q E h => (body_ok (N := ["_law_text_here", "_law_sign"]) (ar := 1) (t := t__law_other_strand k) (b := b__law_other_strand) (fun E => s__law_other_strand  E) h (by decide)).1) (fun cdv A outer s H vs Q E hr h => ⟨t__law_other_strand k E, ?_, (body_ok (N := ["_law_text_here", "_law_sign"]) (ar := 1) (t := t__law_other_strand k) (b := b__law_other_strand) (fun E => s__law_other_strand  E) h (by decide)).2⟩)
  have nd := sc__law_other_strand.nd
  have hu : A.units + 3 + 100 < cLine := by have := hr.un; have e : (A.deeper (envOfC "_law_other_strand" (defScope (top 45)) s.heap.objs.size f cdv)).units = A.units + 3 := rfl; omega
  have hu1 : A.units + 3 + 1 < cLine := by omega
  have hu64 : A.units + 3 + 64 < cLine := by omega
  exact (pss_one (ps_ret (pe_join pe_str (pe_lc (own := [("_law_sign", 1)]) rfl nd (pi_anyD (pe_revS (pv 0))) (blkOk_by rfl) (fun _ _ _ _ _ => (pg_name (i := 1) nd rfl (by first | exact Or.inl rfl | exact Or.inr rfl))) (fun _ _ _ _ _ => pts_nil) (fun _ _ _ _ _ => (pe_ix (ix_any hu) (pe_dictZip rfl B.z_dict B.z_zip rfl) (pv 1) (fun _ _ => rfl)))))))
theorem sc_is_between : FnScope ["value", "least", "most"] ["value", "least", "most"] (defScope (top 11)) := ⟨rfl, rfl, rfl, by decide +kernel, rfl, by decide +kernel, by decide +kernel⟩
theorem lk_is_between {P : Program} {w : World} {k : Kx} {mg : Str → Option Value} {base : Heap} {f : Addr} {fd : FuncData} (B : Blt mg) (F_is_integer : FnIs P w k.K mg base 1 "is_integer" ["value"] (spM k m_is_integer)) (F : FunD k.K "is_between" "is_between" (defArgs (top 11)) (defBody (top 11)) (defScope (top 11)) [] [] f fd) : FnOk P w k.K mg base (L2.CX P w) 2 f fd ["value", "least", "most"] (spM k m_is_between) := by
  refine F.ok sc_is_between (fun vs H Q E h => (body_ok (N := ["value", "least", "most"]) (ar := 3) (t := t_is_between k) (b := b_is_between) (fun E => s_is_between  E) h (by decide)).1) (fun cdv A outer s H vs Q E hr h => ⟨t_is_between k E, ?_, (body_ok (N := ["value", "least", "most"]) (ar := 3) (t := t_is_between k) (b := b_is_between) (fun E => s_is_between  E) h (by decide)).2⟩)
  have nd := sc_is_between.nd
  have hu : A.units + 3 + 100 < cLine := by have := hr.un; have e : (A.deeper (envOfC "is_between" (defScope (top 11)) s.heap.objs.size f cdv)).units = A.units + 3 := rfl; omega
  have hu1 : A.units + 3 + 1 < cLine := by omega
  have hu64 : A.units + 3 + 64 < cLine := by omega
  exact (pss_one (ps_ret (L2.pe_and (pe_fn F_is_integer (hr.mono (by decide)) rfl (passes_call (takes_of rfl rfl rfl rfl) (fun _ _ _ _ h => h)) (pa_cons (pv 0) pa_nil)) (pe_one (pe_chain op_le op_le (pv 1) (pv 0) (pv 2))))))
theorem sc_is_word : FnScope ["value"] ["value"] (defScope (top 13)) := ⟨rfl, rfl, rfl, by decide +kernel, rfl, by decide +kernel, by decide +kernel⟩
theorem lk_is_word {P : Program} {w : World} {k : Kx} {mg : Str → Option Value} {base : Heap} {f : Addr} {fd : FuncData} (B : Blt mg) (F_is_line : FnIs P w k.K mg base 1 "is_line" ["value"] (spM k m_is_line)) (F : FunD k.K "is_word" "is_word" (defArgs (top 13)) (defBody (top 13)) (defScope (top 13)) [] [] f fd) : FnOk P w k.K mg base (L2.CX P w) 2 f fd ["value"] (spM k m_is_word) := by
  refine F.ok sc_is_word (fun vs H Q E h => (body_ok (N := ["value"]) (ar := 1) (t := t_is_word k) (b := b_is_word) (fun E => s_is_word  E) h (by decide)).1) (fun cdv A outer s H vs Q E hr h => ⟨t_is_word k E, ?_, (body_ok (N := ["value"]) (ar := 1) (t := t_is_word k) (b := b_is_word) (fun E => s_is_word  E) h (by decide)).2⟩)
  have nd := sc_is_word.nd
  have hu : A.units + 3 + 100 < cLine := by have := hr.un; have e : (A.deeper (envOfC "is_word" (defScope (top 13)) s.heap.objs.size f cdv)).units = A.units + 3 := rfl; omega
  have hu1 : A.units + 3 + 1 < cLine := by omega
  have hu64 : A.units + 3 + 64 < cLine := by omega
  exact (pss_one (ps_ret (L2.pe_and (pe_fn F_is_line (hr.mono (by decide)) rfl (passes_call (takes_of rfl rfl rfl rfl) (fun _ _ _ _ h => h)) (pa_cons (pv 0) pa_nil)) (pe_one (pe_cmpR op_gt (pe_callB cr_len rfl B.z_len (by decide +kernel) (pa_cons (pv 0) pa_nil)) pe_int (nomark _))))))
theorem sc_least_turn : FnScope ["text", "number"] ["text"] (defScope (top 20)) := ⟨rfl, rfl, rfl, by decide +kernel, rfl, by decide +kernel, by decide +kernel⟩
theorem lk_least_turn {P : Program} {w : World} {k : Kx} {mg : Str → Option Value} {base : Heap} {f : Addr} {fd : FuncData} (B : Blt mg) (F_turn_of : FnIs P w k.K mg base 1 "turn_of" ["text", "number"] (spM k m_turn_of)) (F : FunD k.K "least_turn" "least_turn" (defArgs (top 20)) (defBody (top 20)) (defScope (top 20)) [] [] f fd) : FnOk P w k.K mg base (L2.CX P w) 2 f fd ["text"] (spM k m_least_turn) := by
  refine F.ok sc_least_turn (fun vs H Q E h => (body_ok (N := ["text", "number"]) (ar := 1) (t := t_least_turn k) (b := b_least_turn) (fun E => s_least_turn  E) h (by decide)).1) (fun cdv A outer s H vs Q E hr h => ⟨t_least_turn k E, ?_, (body_ok (N := ["text", "number"]) (ar := 1) (t := t_least_turn k) (b := b_least_turn) (fun E => s_least_turn  E) h (by decide)).2⟩)
  have nd := sc_least_turn.nd
  have hu : A.units + 3 + 100 < cLine := by have := hr.un; have e : (A.deeper (envOfC "least_turn" (defScope (top 20)) s.heap.objs.size f cdv)).units = A.units + 3 := rfl; omega
  have hu1 : A.units + 3 + 1 < cLine := by omega
  have hu64 : A.units + 3 + 64 < cLine := by omega
  exact (pss_one (ps_ret (pe_callB (cr_minD rfl hu) rfl B.z_min (by decide +kernel) (pa_cons (pe_lc (own := [("number", 1)]) rfl nd (pi_range1 rfl B.z_range (pa_cons (pe_callB cr_len rfl B.z_len (by decide +kernel) (pa_cons (pv 0) pa_nil)) pa_nil)) (blkOk_by rfl) (fun _ _ _ _ _ => (pg_name (i := 1) nd rfl (by first | exact Or.inl rfl | exact Or.inr rfl))) (fun _ _ _ _ _ => pts_nil) (fun _ _ _ _ _ => (pe_fn F_turn_of (hr.mono (by decide)) rfl passL (pa_cons (pv 0) (pa_cons (pv 1) pa_nil))))) pa_nil))))
theorem sc_ring_stretches : FnScope ["text", "length", "at"] ["text", "length"] (defScope (top 26)) := ⟨rfl, rfl, rfl, by decide +kernel, rfl, by decide +kernel, by decide +kernel⟩
theorem lk_ring_stretches {P : Program} {w : World} {k : Kx} {mg : Str → Option Value} {base : Heap} {f : Addr} {fd : FuncData} (B : Blt mg) (F_read_on : FnIs P w k.K mg base 1 "read_on" ["text", "at", "length"] (spM k m_read_on)) (F : FunD k.K "ring_stretches" "ring_stretches" (defArgs (top 26)) (defBody (top 26)) (defScope (top 26)) [] [] f fd) : FnOk P w k.K mg base (L2.CX P w) 2 f fd ["text", "length"] (spM k m_ring_stretches) := by
  refine F.ok sc_ring_stretches (fun vs H Q E h => (body_ok (N := ["text", "length", "at"]) (ar := 2) (t := t_ring_stretches k) (b := b_ring_stretches) (fun E => s_ring_stretches  E) h (by decide)).1) (fun cdv A outer s H vs Q E hr h => ⟨t_ring_stretches k E, ?_, (body_ok (N := ["text", "length", "at"]) (ar := 2) (t := t_ring_stretches k) (b := b_ring_stretches) (fun E => s_ring_stretches  E) h (by decide)).2⟩)
  have nd := sc_ring_stretches.nd
  have hu : A.units + 3 + 100 < cLine := by have := hr.un; have e : (A.deeper (envOfC "ring_stretches" (defScope (top 26)) s.heap.objs.size f cdv)).units = A.units + 3 := rfl; omega
  have hu1 : A.units + 3 + 1 < cLine := by omega
  have hu64 : A.units + 3 + 64 < cLine := by omega
  exact (pss_one (ps_ret (pe_lc (own := [("at", 2)]) rfl nd (pi_range1 rfl B.z_range (pa_cons (pe_callB cr_len rfl B.z_len (by decide +kernel) (pa_cons (pv 0) pa_nil)) pa_nil)) (blkOk_by rfl) (fun _ _ _ _ _ => (pg_name (i := 2) nd rfl (by first | exact Or.inl rfl | exact Or.inr rfl))) (fun _ _ _ _ _ => pts_nil) (fun _ _ _ _ _ => (pe_fn F_read_on (hr.mono (by decide)) rfl passL (pa_cons (pv 0) (pa_cons (pv 2) (pa_cons (pv 1) pa_nil))))))))
theorem sc__law_least_turn : FnScope ["_law_text_here"] ["_law_text_here"] (defScope (top 41)) := ⟨rfl, rfl, rfl, by decide +kernel, rfl, by decide +kernel, by decide +kernel⟩
theorem lk__law_least_turn {P : Program} {w : World} {k : Kx} {mg : Str → Option Value} {base : Heap} {f : Addr} {fd : FuncData} (B : Blt mg) (F__law_turns : FnIs P w k.K mg base 1 "_law_turns" ["_law_text_here"] (spM k m__law_turns)) (F : FunD k.K "_law_least_turn" "_law_least_turn" (defArgs (top 41)) (defBody (top 41)) (defScope (top 41)) [] [] f fd) : FnOk P w k.K mg base (L2.CX P w) 2 f fd ["_law_text_here"] (spM k m__law_least_turn) := by
  refine F.ok sc__law_least_turn (fun vs H Q E h => (body_ok (N := ["_law_text_here"]) (ar := 1) (t := t__law_least_turn k) (b := b__law_least_turn) (fun E => s__law_least_turn  E) h (by decide)).1) (fun cdv A outer s H vs Q E hr h => ⟨t__law_least_turn k E, ?_, (body_ok (N := ["_law_text_here"]) (ar := 1) (t := t__law_least_turn k) (b := b__law_least_turn) (fun E => s__law_least_turn  E) h (by decide)).2⟩)
  have nd := sc__law_least_turn.nd
  have hu : A.units + 3 + 100 < cLine := by have := hr.un; have e : (A.deeper (envOfC "_law_least_turn" (defScope (top 41)) s.heap.objs.size f cdv)).units = A.units + 3 := rfl; omega
  have hu1 : A.units + 3 + 1 < cLine := by omega
  have hu64 : A.units + 3 + 64 < cLine := by omega
  exact (pss_one (ps_ret (pe_callB (cr_minD rfl hu) rfl B.z_min (by decide +kernel) (pa_cons (pe_fn F__law_turns (hr.mono (by decide)) rfl (passes_call (takes_of rfl rfl rfl rfl) (fun _ _ _ _ h => h)) (pa_cons (pv 0) pa_nil)) pa_nil))))
theorem sc__law_ring_runs : FnScope ["_law_text_here", "_law_many", "_law_at"] ["_law_text_here", "_law_many"] (defScope (top 43)) := ⟨rfl, rfl, rfl, by decide +kernel, rfl, by decide +kernel, by decide +kernel⟩
theorem lk__law_ring_runs {P : Program} {w : World} {k : Kx} {mg : Str → Option Value} {base : Heap} {f : Addr} {fd : FuncData} (B : Blt mg) (F__law_read_on : FnIs P w k.K mg base 1 "_law_read_on" ["_law_text_here", "_law_at", "_law_many"] (spM k m__law_read_on)) (F : FunD k.K "_law_ring_runs" "_law_ring_runs" (defArgs (top 43)) (defBody (top 43)) (defScope (top 43)) [] [] f fd) : FnOk P w k.K mg base (L2.CX P w) 2 f fd ["_law_text_here", "_law_many"] (spM k m__law_ring_runs) := by
  refine F.ok sc__law_ring_runs (fun vs H Q E h => (body_ok (N := ["_law_text_here", "_law_many", "_law_at"]) (ar := 2) (t := t__law_ring_runs k) (b := b__law_ring_runs) (fun E => s__law_ring_runs  E) h (by decide)).1) (fun cdv A outer s H vs Q E hr h => ⟨t__law_ring_runs k E, ?_, (body_ok (N := ["_law_text_here", "_law_many", "_law_at"]) (ar := 2) (t := t__law_ring_runs k) (b := b__law_ring_runs) (fun E => s__law_ring_runs  E) h (by decide)).2⟩)
  have nd := sc__law_ring_runs.nd
  have hu : A.units + 3 + 100 < cLine := by have := hr.un; have e : (A.deeper (envOfC "_law_ring_runs" (defScope (top 43)) s.heap.objs.size f cdv)).units = A.units + 3 := rfl; omega
  have hu1 : A.units + 3 + 1 < cLine := by omega
  have hu64 : A.units + 3 + 64 < cLine := by omega
  exact (pss_one (ps_ret (pe_lc (own := [("_law_at", 2)]) rfl nd (pi_range1 rfl B.z_range (pa_cons (pe_callB cr_len rfl B.z_len (by decide +kernel) (pa_cons (pv 0) pa_nil)) pa_nil)) (blkOk_by rfl) (fun _ _ _ _ _ => (pg_name (i := 2) nd rfl (by first | exact Or.inl rfl | exact Or.inr rfl))) (fun _ _ _ _ _ => pts_nil) (fun _ _ _ _ _ => (pe_fn F__law_read_on (hr.mono (by decide)) rfl passL (pa_cons (pv 0) (pa_cons (pv 2) (pa_cons (pv 1) pa_nil))))))))
theorem sc_need_word : FnScope ["word"] ["word"] (defScope (top 14)) := ⟨rfl, rfl, rfl, by decide +kernel, rfl, by decide +kernel, by decide +kernel⟩
theorem lk_need_word {P : Program} {w : World} {k : Kx} {mg : Str → Option Value} {base : Heap} {f : Addr} {fd : FuncData} (B : Blt mg) (F_is_word : FnIs P w k.K mg base 2 "is_word" ["value"] (spM k m_is_word)) (x_BadWord : ExcIs k.K mg "BadWord" (k.ca "BadWord")) (F : FunD k.K "need_word" "need_word" (defArgs (top 14)) (defBody (top 14)) (defScope (top 14)) [] [] f fd) : FnOk P w k.K mg base (L2.CX P w) 3 f fd ["word"] (spM k m_need_word) := by
  refine F.ok sc_need_word (fun vs H Q E h => (body_ok (N := ["word"]) (ar := 1) (t := t_need_word k) (b := b_need_word) (fun E => s_need_word  E) h (by decide)).1) (fun cdv A outer s H vs Q E hr h => ⟨t_need_word k E, ?_, (body_ok (N := ["word"]) (ar := 1) (t := t_need_word k) (b := b_need_word) (fun E => s_need_word  E) h (by decide)).2⟩)
  have nd := sc_need_word.nd
  have hu : A.units + 3 + 100 < cLine := by have := hr.un; have e : (A.deeper (envOfC "need_word" (defScope (top 14)) s.heap.objs.size f cdv)).units = A.units + 3 := rfl; omega
  have hu1 : A.units + 3 + 1 < cLine := by omega
  have hu64 : A.units + 3 + 64 < cLine := by omega
  exact (pss_one (ps_if (pt_not (pt_val (pe_fn F_is_word (hr.mono (by decide)) rfl (passes_call (takes_of rfl rfl rfl rfl) (fun _ _ _ _ h => h)) (pa_cons (pv 0) pa_nil)))) (pss_one (ps_raise rfl (takes_of rfl rfl rfl rfl) (pmk_exc x_BadWord (by rfl)))) pss_nil))
theorem sc_need_length : FnScope ["length"] ["length"] (defScope (top 15)) := ⟨rfl, rfl, rfl, by decide +kernel, rfl, by decide +kernel, by decide +kernel⟩
theorem lk_need_length {P : Program} {w : World} {k : Kx} {mg : Str → Option Value} {base : Heap} {f : Addr} {fd : FuncData} (B : Blt mg) (F_is_between : FnIs P w k.K mg base 2 "is_between" ["value", "least", "most"] (spM k m_is_between)) (x_BadLength : ExcIs k.K mg "BadLength" (k.ca "BadLength")) (g_MOST_LETTERS : ∃ t, mg "MOST_LETTERS" = some (.int 120 t)) (F : FunD k.K "need_length" "need_length" (defArgs (top 15)) (defBody (top 15)) (defScope (top 15)) [] [] f fd) : FnOk P w k.K mg base (L2.CX P w) 3 f fd ["length"] (spM k m_need_length) := by
  refine F.ok sc_need_length (fun vs H Q E h => (body_ok (N := ["length"]) (ar := 1) (t := t_need_length k) (b := b_need_length) (fun E => s_need_length  E) h (by decide)).1) (fun cdv A outer s H vs Q E hr h => ⟨t_need_length k E, ?_, (body_ok (N := ["length"]) (ar := 1) (t := t_need_length k) (b := b_need_length) (fun E => s_need_length  E) h (by decide)).2⟩)
  have nd := sc_need_length.nd
  have hu : A.units + 3 + 100 < cLine := by have := hr.un; have e : (A.deeper (envOfC "need_length" (defScope (top 15)) s.heap.objs.size f cdv)).units = A.units + 3 := rfl; omega
  have hu1 : A.units + 3 + 1 < cLine := by omega
  have hu64 : A.units + 3 + 64 < cLine := by omega
  exact (pss_one (ps_if (pt_not (pt_val (pe_fn F_is_between (hr.mono (by decide)) rfl (passes_call (takes_of rfl rfl rfl rfl) (fun _ _ _ _ h => h)) (pa_cons (pv 0) (pa_cons pe_int (pa_cons (pe_gint rfl g_MOST_LETTERS) pa_nil)))))) (pss_one (ps_raise rfl (takes_of rfl rfl rfl rfl) (pmk_exc x_BadLength (by rfl)))) pss_nil))
theorem sc_is_ring : FnScope ["value"] ["value"] (defScope (top 21)) := ⟨rfl, rfl, rfl, by decide +kernel, rfl, by decide +kernel, by decide +kernel⟩
theorem lk_is_ring {P : Program} {w : World} {k : Kx} {mg : Str → Option Value} {base : Heap} {f : Addr} {fd : FuncData} (B : Blt mg) (F_is_word : FnIs P w k.K mg base 2 "is_word" ["value"] (spM k m_is_word)) (F_least_turn : FnIs P w k.K mg base 2 "least_turn" ["text"] (spM k m_least_turn)) (F : FunD k.K "is_ring" "is_ring" (defArgs (top 21)) (defBody (top 21)) (defScope (top 21)) [] [] f fd) : FnOk P w k.K mg base (L2.CX P w) 3 f fd ["value"] (spM k m_is_ring) := by
  refine F.ok sc_is_ring (fun vs H Q E h => (body_ok (N := ["value"]) (ar := 1) (t := t_is_ring k) (b := b_is_ring) (fun E => s_is_ring  E) h (by decide)).1) (fun cdv A outer s H vs Q E hr h => ⟨t_is_ring k E, ?_, (body_ok (N := ["value"]) (ar := 1) (t := t_is_ring k) (b := b_is_ring) (fun E => s_is_ring  E) h (by decide)).2⟩)
  have nd := sc_is_ring.nd
  have hu : A.units + 3 + 100 < cLine := by have := hr.un; have e : (A.deeper (envOfC "is_ring" (defScope (top 21)) s.heap.objs.size f cdv)).units = A.units + 3 := rfl; omega
  have hu1 : A.units + 3 + 1 < cLine := by omega
  have hu64 : A.units + 3 + 64 < cLine := by omega
  exact (pss_one (ps_ret (L2.pe_and (pe_fn F_is_word (hr.mono (by decide)) rfl (passes_call (takes_of rfl rfl rfl rfl) (fun _ _ _ _ h => h)) (pa_cons (pv 0) pa_nil)) (pe_one (pe_cmpR (or_eq hu) (pe_fn F_least_turn (hr.mono (by decide)) rfl (passes_call (takes_of rfl rfl rfl rfl) (fun _ _ _ _ h => h)) (pa_cons (pv 0) pa_nil)) (pv 0) (nomark _))))))
theorem sc_ring_places : FnScope ["text", "piece", "at", "stretch"] ["text", "piece"] (defScope (top 27)) := ⟨rfl, rfl, rfl, by decide +kernel, rfl, by decide +kernel, by decide +kernel⟩
theorem lk_ring_places {P : Program} {w : World} {k : Kx} {mg : Str → Option Value} {base : Heap} {f : Addr} {fd : FuncData} (B : Blt mg) (F_ring_stretches : FnIs P w k.K mg base 2 "ring_stretches" ["text", "length"] (spM k m_ring_stretches)) (F : FunD k.K "ring_places" "ring_places" (defArgs (top 27)) (defBody (top 27)) (defScope (top 27)) [] [] f fd) : FnOk P w k.K mg base (L2.CX P w) 3 f fd ["text", "piece"] (spM k m_ring_places) := by
  refine F.ok sc_ring_places (fun vs H Q E h => (body_ok (N := ["text", "piece", "at", "stretch"]) (ar := 2) (t := t_ring_places k) (b := b_ring_places) (fun E => s_ring_places  E) h (by decide)).1) (fun cdv A outer s H vs Q E hr h => ⟨t_ring_places k E, ?_, (body_ok (N := ["text", "piece", "at", "stretch"]) (ar := 2) (t := t_ring_places k) (b := b_ring_places) (fun E => s_ring_places  E) h (by decide)).2⟩)
  have nd := sc_ring_places.nd
  have hu : A.units + 3 + 100 < cLine := by have := hr.un; have e : (A.deeper (envOfC "ring_places" (defScope (top 27)) s.heap.objs.size f cdv)).units = A.units + 3 := rfl; omega
  have hu1 : A.units + 3 + 1 < cLine := by omega
  have hu64 : A.units + 3 + 64 < cLine := by omega
  exact (pss_one (ps_ret (pe_lc (own := [("at", 2), ("stretch", 3)]) rfl nd (pi_enum rfl B.z_enumerate (pa_cons (pe_fn F_ring_stretches (hr.mono (by decide)) rfl (passes_call (takes_of rfl rfl rfl rfl) (fun _ _ _ _ h => h)) (pa_cons (pv 0) (pa_cons (pe_callB cr_len rfl B.z_len (by decide +kernel) (pa_cons (pv 1) pa_nil)) pa_nil))) pa_nil)) (blkOk_by rfl) (fun _ _ _ _ _ => (pg_tl (pg_tup rfl (pgs_cons (pg_name (i := 2) nd rfl (by first | exact Or.inl rfl | exact Or.inr rfl)) (pgs_cons (pg_name (i := 3) nd rfl (by first | exact Or.inl rfl | exact Or.inr rfl)) pgs_nil))) (pg_unl rfl (pgs_cons (pg_name (i := 2) nd rfl (by first | exact Or.inl rfl | exact Or.inr rfl)) (pgs_cons (pg_name (i := 3) nd rfl (by first | exact Or.inl rfl | exact Or.inr rfl)) pgs_nil))))) (fun _ _ _ _ _ => (pts_one (pt_cmpR (or_eq hu) (pv 3) (pv 1) (nomark _)))) (fun _ _ _ _ _ => (pv 2)))))
theorem sc__law_pick : FnScope ["_law_draw", "_law_some"] ["_law_draw", "_law_some"] (defScope (top 35)) := ⟨rfl, rfl, rfl, by decide +kernel, rfl, by decide +kernel, by decide +kernel⟩
theorem lk__law_pick {P : Program} {w : World} {k : Kx} {mg : Str → Option Value} {base : Heap} {f : Addr} {fd : FuncData} (B : Blt mg) (F__law_take : FnIs P w k.K mg base 2 "_law_take" ["_law_draw", "_law_total"] (spM k m_take)) (F : FunD k.K "_law_pick" "_law_pick" (defArgs (top 35)) (defBody (top 35)) (defScope (top 35)) [] [] f fd) : FnOk P w k.K mg base (L2.CX P w) 3 f fd ["_law_draw", "_law_some"] (spM k m__law_pick) := by
  refine F.ok sc__law_pick (fun vs H Q E h => (body_ok (N := ["_law_draw", "_law_some"]) (ar := 2) (t := t__law_pick k) (b := b__law_pick) (fun E => s__law_pick  E) h (by decide)).1) (fun cdv A outer s H vs Q E hr h => ⟨t__law_pick k E, ?_, (body_ok (N := ["_law_draw", "_law_some"]) (ar := 2) (t := t__law_pick k) (b := b__law_pick) (fun E => s__law_pick  E) h (by decide)).2⟩)
  have nd := sc__law_pick.nd
  have hu : A.units + 3 + 100 < cLine := by have := hr.un; have e : (A.deeper (envOfC "_law_pick" (defScope (top 35)) s.heap.objs.size f cdv)).units = A.units + 3 := rfl; omega
  have hu1 : A.units + 3 + 1 < cLine := by omega
  have hu64 : A.units + 3 + 64 < cLine := by omega
  exact (pss_one (ps_ret (pe_ix (ix_any hu) (pv 1) (pe_fn F__law_take (hr.mono (by decide)) rfl (passes_call (takes_of rfl rfl rfl rfl) (fun _ _ _ _ h => h)) (pa_cons (pv 0) (pa_cons (pe_callB cr_len rfl B.z_len (by decide +kernel) (pa_cons (pv 1) pa_nil)) pa_nil))) (fun _ _ => rfl))))
theorem sc_need_ring : FnScope ["ring"] ["ring"] (defScope (top 22)) := ⟨rfl, rfl, rfl, by decide +kernel, rfl, by decide +kernel, by decide +kernel⟩
theorem lk_need_ring {P : Program} {w : World} {k : Kx} {mg : Str → Option Value} {base : Heap} {f : Addr} {fd : FuncData} (B : Blt mg) (F_is_ring : FnIs P w k.K mg base 3 "is_ring" ["value"] (spM k m_is_ring)) (x_BadRing : ExcIs k.K mg "BadRing" (k.ca "BadRing")) (F : FunD k.K "need_ring" "need_ring" (defArgs (top 22)) (defBody (top 22)) (defScope (top 22)) [] [] f fd) : FnOk P w k.K mg base (L2.CX P w) 4 f fd ["ring"] (spM k m_need_ring) := by
  refine F.ok sc_need_ring (fun vs H Q E h => (body_ok (N := ["ring"]) (ar := 1) (t := t_need_ring k) (b := b_need_ring) (fun E => s_need_ring  E) h (by decide)).1) (fun cdv A outer s H vs Q E hr h => ⟨t_need_ring k E, ?_, (body_ok (N := ["ring"]) (ar := 1) (t := t_need_ring k) (b := b_need_ring) (fun E => s_need_ring  E) h (by decide)).2⟩)
  have nd := sc_need_ring.nd
  have hu : A.units + 3 + 100 < cLine := by have := hr.un; have e : (A.deeper (envOfC "need_ring" (defScope (top 22)) s.heap.objs.size f cdv)).units = A.units + 3 := rfl; omega
  have hu1 : A.units + 3 + 1 < cLine := by omega
  have hu64 : A.units + 3 + 64 < cLine := by omega
  exact (pss_one (ps_if (pt_not (pt_val (pe_fn F_is_ring (hr.mono (by decide)) rfl (passes_call (takes_of rfl rfl rfl rfl) (fun _ _ _ _ h => h)) (pa_cons (pv 0) pa_nil)))) (pss_one (ps_raise rfl (takes_of rfl rfl rfl rfl) (pmk_exc x_BadRing (by rfl)))) pss_nil))
theorem sc_turn : FnScope ["word", "number"] ["word", "number"] (defScope (top 23)) := ⟨rfl, rfl, rfl, by decide +kernel, rfl, by decide +kernel, by decide +kernel⟩
theorem lk_turn {P : Program} {w : World} {k : Kx} {mg : Str → Option Value} {base : Heap} {f : Addr} {fd : FuncData} (B : Blt mg) (F_need_word : FnIs P w k.K mg base 3 "need_word" ["word"] (spM k m_need_word)) (F_is_between : FnIs P w k.K mg base 2 "is_between" ["value", "least", "most"] (spM k m_is_between)) (F_turn_of : FnIs P w k.K mg base 1 "turn_of" ["text", "number"] (spM k m_turn_of)) (x_BadIndex : ExcIs k.K mg "BadIndex" (k.ca "BadIndex")) (F : FunD k.K "turn" "turn" (defArgs (top 23)) (defBody (top 23)) (defScope (top 23)) [] [] f fd) : FnOk P w k.K mg base (L2.CX P w) 4 f fd ["word", "number"] (spM k m_turn) := by
  refine F.ok sc_turn (fun vs H Q E h => (body_ok (N := ["word", "number"]) (ar := 2) (t := t_turn k) (b := b_turn) (fun E => s_turn  E) h (by decide)).1) (fun cdv A outer s H vs Q E hr h => ⟨t_turn k E, ?_, (body_ok (N := ["word", "number"]) (ar := 2) (t := t_turn k) (b := b_turn) (fun E => s_turn  E) h (by decide)).2⟩)
  have nd := sc_turn.nd
  have hu : A.units + 3 + 100 < cLine := by have := hr.un; have e : (A.deeper (envOfC "turn" (defScope (top 23)) s.heap.objs.size f cdv)).units = A.units + 3 := rfl; omega
  have hu1 : A.units + 3 + 1 < cLine := by omega
  have hu64 : A.units + 3 + 64 < cLine := by omega
  exact (pss_cons (ps_expr (pe_fn F_need_word (hr.mono (by decide)) rfl (passes_call (takes_of rfl rfl rfl rfl) (fun _ _ _ _ h => h)) (pa_cons (pv 0) pa_nil))) (pss_cons (ps_if (pt_not (pt_val (pe_fn F_is_between (hr.mono (by decide)) rfl (passes_call (takes_of rfl rfl rfl rfl) (fun _ _ _ _ h => h)) (pa_cons (pv 1) (pa_cons pe_int (pa_cons (pe_op op_sub (pe_callB cr_len rfl B.z_len (by decide +kernel) (pa_cons (pv 0) pa_nil)) pe_int) pa_nil)))))) (pss_one (ps_raise rfl (takes_of rfl rfl rfl rfl) (pmk_exc x_BadIndex (by rfl)))) pss_nil) (pss_one (ps_ret (pe_fn F_turn_of (hr.mono (by decide)) rfl (passes_call (takes_of rfl rfl rfl rfl) (fun _ _ _ _ h => h)) (pa_cons (pv 0) (pa_cons (pv 1) pa_nil)))))))
theorem sc_ring_of : FnScope ["word"] ["word"] (defScope (top 24)) := ⟨rfl, rfl, rfl, by decide +kernel, rfl, by decide +kernel, by decide +kernel⟩
theorem lk_ring_of {P : Program} {w : World} {k : Kx} {mg : Str → Option Value} {base : Heap} {f : Addr} {fd : FuncData} (B : Blt mg) (F_need_word : FnIs P w k.K mg base 3 "need_word" ["word"] (spM k m_need_word)) (F_least_turn : FnIs P w k.K mg base 2 "least_turn" ["text"] (spM k m_least_turn)) (F : FunD k.K "ring_of" "ring_of" (defArgs (top 24)) (defBody (top 24)) (defScope (top 24)) [] [] f fd) : FnOk P w k.K mg base (L2.CX P w) 4 f fd ["word"] (spM k m_ring_of) := by
  refine F.ok sc_ring_of (fun vs H Q E h => (body_ok (N := ["word"]) (ar := 1) (t := t_ring_of k) (b := b_ring_of) (fun E => s_ring_of  E) h (by decide)).1) (fun cdv A outer s H vs Q E hr h => ⟨t_ring_of k E, ?_, (body_ok (N := ["word"]) (ar := 1) (t := t_ring_of k) (b := b_ring_of) (fun E => s_ring_of  E) h (by decide)).2⟩)
  have nd := sc_ring_of.nd
  have hu : A.units + 3 + 100 < cLine := by have := hr.un; have e : (A.deeper (envOfC "ring_of" (defScope (top 24)) s.heap.objs.size f cdv)).units = A.units + 3 := rfl; omega
  have hu1 : A.units + 3 + 1 < cLine := by omega
  have hu64 : A.units + 3 + 64 < cLine := by omega
  exact (pss_cons (ps_expr (pe_fn F_need_word (hr.mono (by decide)) rfl (passes_call (takes_of rfl rfl rfl rfl) (fun _ _ _ _ h => h)) (pa_cons (pv 0) pa_nil))) (pss_one (ps_ret (pe_fn F_least_turn (hr.mono (by decide)) rfl (passes_call (takes_of rfl rfl rfl rfl) (fun _ _ _ _ h => h)) (pa_cons (pv 0) pa_nil)))))
theorem sc__law_signs : FnScope ["_law_draw"] ["_law_draw"] (defScope (top 37)) := ⟨rfl, rfl, rfl, by decide +kernel, rfl, by decide +kernel, by decide +kernel⟩
theorem lk__law_signs {P : Program} {w : World} {k : Kx} {mg : Str → Option Value} {base : Heap} {f : Addr} {fd : FuncData} (B : Blt mg) (F__law_pick : FnIs P w k.K mg base 3 "_law_pick" ["_law_draw", "_law_some"] (spM k m__law_pick)) (F : FunD k.K "_law_signs" "_law_signs" (defArgs (top 37)) (defBody (top 37)) (defScope (top 37)) [] [] f fd) : FnOk P w k.K mg base (L2.CX P w) 4 f fd ["_law_draw"] (spM k m__law_signs) := by
  refine F.ok sc__law_signs (fun vs H Q E h => (body_ok (N := ["_law_draw"]) (ar := 1) (t := t__law_signs k) (b := b__law_signs) (fun E => s__law_signs  E) h (by decide)).1) (fun cdv A outer s H vs Q E hr h => ⟨t__law_signs k E, ?_, (body_ok (N := ["_law_draw"]) (ar := 1) (t := t__law_signs k) (b := b__law_signs) (fun E => s__law_signs  E) h (by decide)).2⟩)
  have nd := sc__law_signs.nd
  have hu : A.units + 3 + 100 < cLine := by have := hr.un; have e : (A.deeper (envOfC "_law_signs" (defScope (top 37)) s.heap.objs.size f cdv)).units = A.units + 3 := rfl; omega
  have hu1 : A.units + 3 + 1 < cLine := by omega
  have hu64 : A.units + 3 + 64 < cLine := by omega
  exact (pss_one (ps_ret (pe_fn F__law_pick (hr.mono (by decide)) rfl (passes_call (takes_of rfl rfl rfl rfl) (fun _ _ _ _ h => h)) (pa_cons (pv 0) (pa_cons (pe_lst (pa_cons pe_str (pa_cons pe_str (pa_cons pe_str (pa_cons pe_str (pa_cons pe_str (pa_cons pe_str (pa_cons pe_str (pa_cons pe_str (pa_cons pe_str (pa_cons pe_str pa_nil))))))))))) pa_nil)))))
theorem sc__law_letters : FnScope ["_law_draw", "_law_signs_here", "_law_many", "_law_lap"] ["_law_draw", "_law_signs_here", "_law_many"] (defScope (top 38)) := ⟨rfl, rfl, rfl, by decide +kernel, rfl, by decide +kernel, by decide +kernel⟩
theorem lk__law_letters {P : Program} {w : World} {k : Kx} {mg : Str → Option Value} {base : Heap} {f : Addr} {fd : FuncData} (B : Blt mg) (F__law_pick : FnIs P w k.K mg base 3 "_law_pick" ["_law_draw", "_law_some"] (spM k m__law_pick)) (F : FunD k.K "_law_letters" "_law_letters" (defArgs (top 38)) (defBody (top 38)) (defScope (top 38)) [] [] f fd) : FnOk P w k.K mg base (L2.CX P w) 4 f fd ["_law_draw", "_law_signs_here", "_law_many"] (spM k m__law_letters) := by
  refine F.ok sc__law_letters (fun vs H Q E h => (body_ok (N := ["_law_draw", "_law_signs_here", "_law_many", "_law_lap"]) (ar := 3) (t := t__law_letters k) (b := b__law_letters) (fun E => s__law_letters  E) h (by decide)).1) (fun cdv A outer s H vs Q E hr h => ⟨t__law_letters k E, ?_, (body_ok (N := ["_law_draw", "_law_signs_here", "_law_many", "_law_lap"]) (ar := 3) (t := t__law_letters k) (b := b__law_letters) (fun E => s__law_letters  E) h (by decide)).2⟩)
  have nd := sc__law_letters.nd
  have hu : A.units + 3 + 100 < cLine := by have := hr.un; have e : (A.deeper (envOfC "_law_letters" (defScope (top 38)) s.heap.objs.size f cdv)).units = A.units + 3 := rfl; omega
  have hu1 : A.units + 3 + 1 < cLine := by omega
  have hu64 : A.units + 3 + 64 < cLine := by omega
  exact (pss_one (ps_ret (pe_join pe_str (pe_lc (own := [("_law_lap", 3)]) rfl nd (pi_range1 rfl B.z_range (pa_cons (pv 2) pa_nil)) (blkOk_by rfl) (fun _ _ _ _ _ => (pg_name (i := 3) nd rfl (by first | exact Or.inl rfl | exact Or.inr rfl))) (fun _ _ _ _ _ => pts_nil) (fun _ _ _ _ _ => (pe_fn F__law_pick (hr.mono (by decide)) rfl passL (pa_cons (pv 0) (pa_cons (pv 1) pa_nil))))))))
theorem sc__law_odd : FnScope ["_law_draw", "_law_some"] ["_law_draw"] (defScope (top 46)) := ⟨rfl, rfl, rfl, by decide +kernel, rfl, by decide +kernel, by decide +kernel⟩
theorem lk__law_odd {P : Program} {w : World} {k : Kx} {mg : Str → Option Value} {base : Heap} {f : Addr} {fd : FuncData} (B : Blt mg) (F__law_pick : FnIs P w k.K mg base 3 "_law_pick" ["_law_draw", "_law_some"] (spM k m__law_pick)) (F : FunD k.K "_law_odd" "_law_odd" (defArgs (top 46)) (defBody (top 46)) (defScope (top 46)) [] [] f fd) : FnOk P w k.K mg base (L2.CX P w) 4 f fd ["_law_draw"] (spM k m__law_odd) := by
  refine F.ok sc__law_odd (fun vs H Q E h => (body_ok (N := ["_law_draw", "_law_some"]) (ar := 1) (t := t__law_odd k) (b := b__law_odd) (fun E => s__law_odd  E) h (by decide)).1) (fun cdv A outer s H vs Q E hr h => ⟨t__law_odd k E, ?_, (body_ok (N := ["_law_draw", "_law_some"]) (ar := 1) (t := t__law_odd k) (b := b__law_odd) (fun E => s__law_odd  E) h (by decide)).2⟩)
  have nd := sc__law_odd.nd
  have hu : A.units + 3 + 100 < cLine := by have := hr.un; have e : (A.deeper (envOfC "_law_odd" (defScope (top 46)) s.heap.objs.size f cdv)).units = A.units + 3 := rfl; omega
  have hu1 : A.units + 3 + 1 < cLine := by omega
  have hu64 : A.units + 3 + 64 < cLine := by omega
  exact (pss_cons (ps_set (i := 1) nd rfl (by first | exact Or.inl rfl | exact Or.inr rfl) (pe_lst (pa_cons pe_non (pa_cons pe_bl (pa_cons pe_bl (pa_cons (pe_un un_neg pe_int) (pa_cons (pe_op op_sub (pe_op op_pow pe_int pe_int) pe_int) (pa_cons pe_str (pa_cons pe_str (pa_cons pe_str (pa_cons pe_str (pa_cons pe_str (pa_cons pe_str (pa_cons (pe_tup pa_nil) (pa_cons (pe_lst pa_nil) (pa_cons pe_dnewK (pa_cons (pe_tup (pa_cons pe_str pa_nil)) (pa_cons (pe_lst (pa_cons pe_str pa_nil)) pa_nil)))))))))))))))))) (pss_one (ps_ret (pe_fn F__law_pick (hr.mono (by decide)) rfl (passes_call (takes_of rfl rfl rfl rfl) (fun _ _ _ _ h => h)) (pa_cons (pv 0) (pa_cons (pe_op or_add (pv 1) (pe_lst (pa_cons (pe_disp (pps_cons pe_str pe_int pps_nil) (by rfl) (by rfl) (fun z => by cases z) (by decide)) (pa_cons (pe_tup (pa_cons pe_non pa_nil)) (pa_cons pe_str (pa_cons (pe_tup (pa_cons pe_str (pa_cons pe_str pa_nil))) (pa_cons (pe_lst (pa_cons (pe_lst (pa_cons pe_str pa_nil)) pa_nil)) (pa_cons pe_str pa_nil)))))))) pa_nil))))))
theorem sc_ring_occurrences : FnScope ["ring", "piece"] ["ring", "piece"] (defScope (top 28)) := ⟨rfl, rfl, rfl, by decide +kernel, rfl, by decide +kernel, by decide +kernel⟩
theorem lk_ring_occurrences {P : Program} {w : World} {k : Kx} {mg : Str → Option Value} {base : Heap} {f : Addr} {fd : FuncData} (B : Blt mg) (F_need_ring : FnIs P w k.K mg base 4 "need_ring" ["ring"] (spM k m_need_ring)) (F_need_word : FnIs P w k.K mg base 3 "need_word" ["word"] (spM k m_need_word)) (F_ring_places : FnIs P w k.K mg base 3 "ring_places" ["text", "piece"] (spM k m_ring_places)) (F : FunD k.K "ring_occurrences" "ring_occurrences" (defArgs (top 28)) (defBody (top 28)) (defScope (top 28)) [] [] f fd) : FnOk P w k.K mg base (L2.CX P w) 5 f fd ["ring", "piece"] (spM k m_ring_occurrences) := by
  refine F.ok sc_ring_occurrences (fun vs H Q E h => (body_ok (N := ["ring", "piece"]) (ar := 2) (t := t_ring_occurrences k) (b := b_ring_occurrences) (fun E => s_ring_occurrences  E) h (by decide)).1) (fun cdv A outer s H vs Q E hr h => ⟨t_ring_occurrences k E, ?_, (body_ok (N := ["ring", "piece"]) (ar := 2) (t := t_ring_occurrences k) (b := b_ring_occurrences) (fun E => s_ring_occurrences  E) h (by decide)).2⟩)
  have nd := sc_ring_occurrences.nd
  have hu : A.units + 3 + 100 < cLine := by have := hr.un; have e : (A.deeper (envOfC "ring_occurrences" (defScope (top 28)) s.heap.objs.size f cdv)).units = A.units + 3 := rfl; omega
  have hu1 : A.units + 3 + 1 < cLine := by omega
  have hu64 : A.units + 3 + 64 < cLine := by omega
  exact (pss_cons (ps_expr (pe_fn F_need_ring (hr.mono (by decide)) rfl (passes_call (takes_of rfl rfl rfl rfl) (fun _ _ _ _ h => h)) (pa_cons (pv 0) pa_nil))) (pss_cons (ps_expr (pe_fn F_need_word (hr.mono (by decide)) rfl (passes_call (takes_of rfl rfl rfl rfl) (fun _ _ _ _ h => h)) (pa_cons (pv 1) pa_nil))) (pss_one (ps_ret (pe_fn F_ring_places (hr.mono (by decide)) rfl (passes_call (takes_of rfl rfl rfl rfl) (fun _ _ _ _ h => h)) (pa_cons (pv 0) (pa_cons (pv 1) pa_nil)))))))
theorem sc_ring_pieces : FnScope ["ring", "length"] ["ring", "length"] (defScope (top 29)) := ⟨rfl, rfl, rfl, by decide +kernel, rfl, by decide +kernel, by decide +kernel⟩
theorem lk_ring_pieces {P : Program} {w : World} {k : Kx} {mg : Str → Option Value} {base : Heap} {f : Addr} {fd : FuncData} (B : Blt mg) (F_need_ring : FnIs P w k.K mg base 4 "need_ring" ["ring"] (spM k m_need_ring)) (F_need_length : FnIs P w k.K mg base 3 "need_length" ["length"] (spM k m_need_length)) (F_counted : FnIs P w k.K mg base 1 "counted" ["some"] (spM k m_counted)) (F_ring_stretches : FnIs P w k.K mg base 2 "ring_stretches" ["text", "length"] (spM k m_ring_stretches)) (F : FunD k.K "ring_pieces" "ring_pieces" (defArgs (top 29)) (defBody (top 29)) (defScope (top 29)) [] [] f fd) : FnOk P w k.K mg base (L2.CX P w) 5 f fd ["ring", "length"] (spM k m_ring_pieces) := by
  refine F.ok sc_ring_pieces (fun vs H Q E h => (body_ok (N := ["ring", "length"]) (ar := 2) (t := t_ring_pieces k) (b := b_ring_pieces) (fun E => s_ring_pieces  E) h (by decide)).1) (fun cdv A outer s H vs Q E hr h => ⟨t_ring_pieces k E, ?_, (body_ok (N := ["ring", "length"]) (ar := 2) (t := t_ring_pieces k) (b := b_ring_pieces) (fun E => s_ring_pieces  E) h (by decide)).2⟩)
  have nd := sc_ring_pieces.nd
  have hu : A.units + 3 + 100 < cLine := by have := hr.un; have e : (A.deeper (envOfC "ring_pieces" (defScope (top 29)) s.heap.objs.size f cdv)).units = A.units + 3 := rfl; omega
  have hu1 : A.units + 3 + 1 < cLine := by omega
  have hu64 : A.units + 3 + 64 < cLine := by omega
  exact (pss_cons (ps_expr (pe_fn F_need_ring (hr.mono (by decide)) rfl (passes_call (takes_of rfl rfl rfl rfl) (fun _ _ _ _ h => h)) (pa_cons (pv 0) pa_nil))) (pss_cons (ps_expr (pe_fn F_need_length (hr.mono (by decide)) rfl (passes_call (takes_of rfl rfl rfl rfl) (fun _ _ _ _ h => h)) (pa_cons (pv 1) pa_nil))) (pss_one (ps_ret (pe_fn F_counted (hr.mono (by decide)) rfl (passes_call (takes_of rfl rfl rfl rfl) (fun _ _ _ _ h => h)) (pa_cons (pe_fn F_ring_stretches (hr.mono (by decide)) rfl (passes_call (takes_of rfl rfl rfl rfl) (fun _ _ _ _ h => h)) (pa_cons (pv 0) (pa_cons (pv 1) pa_nil))) pa_nil))))))
theorem sc_ring_strand : FnScope ["ring"] ["ring"] (defScope (top 30)) := ⟨rfl, rfl, rfl, by decide +kernel, rfl, by decide +kernel, by decide +kernel⟩
theorem lk_ring_strand {P : Program} {w : World} {k : Kx} {mg : Str → Option Value} {base : Heap} {f : Addr} {fd : FuncData} (B : Blt mg) (F_need_ring : FnIs P w k.K mg base 4 "need_ring" ["ring"] (spM k m_need_ring)) (F_least_turn : FnIs P w k.K mg base 2 "least_turn" ["text"] (spM k m_least_turn)) (F_strand_of : FnIs P w k.K mg base 1 "strand_of" ["text"] (spM k m_strand_of)) (F : FunD k.K "ring_strand" "ring_strand" (defArgs (top 30)) (defBody (top 30)) (defScope (top 30)) [] [] f fd) : FnOk P w k.K mg base (L2.CX P w) 5 f fd ["ring"] (spM k m_ring_strand) := by
  refine F.ok sc_ring_strand (fun vs H Q E h => (body_ok (N := ["ring"]) (ar := 1) (t := t_ring_strand k) (b := b_ring_strand) (fun E => s_ring_strand  E) h (by decide)).1) (fun cdv A outer s H vs Q E hr h => ⟨t_ring_strand k E, ?_, (body_ok (N := ["ring"]) (ar := 1) (t := t_ring_strand k) (b := b_ring_strand) (fun E => s_ring_strand  E) h (by decide)).2⟩)
  have nd := sc_ring_strand.nd
  have hu : A.units + 3 + 100 < cLine := by have := hr.un; have e : (A.deeper (envOfC "ring_strand" (defScope (top 30)) s.heap.objs.size f cdv)).units = A.units + 3 := rfl; omega
  have hu1 : A.units + 3 + 1 < cLine := by omega
  have hu64 : A.units + 3 + 64 < cLine := by omega
  exact (pss_cons (ps_expr (pe_fn F_need_ring (hr.mono (by decide)) rfl (passes_call (takes_of rfl rfl rfl rfl) (fun _ _ _ _ h => h)) (pa_cons (pv 0) pa_nil))) (pss_one (ps_ret (pe_fn F_least_turn (hr.mono (by decide)) rfl (passes_call (takes_of rfl rfl rfl rfl) (fun _ _ _ _ h => h)) (pa_cons (pe_fn F_strand_of (hr.mono (by decide)) rfl (passes_call (takes_of rfl rfl rfl rfl) (fun _ _ _ _ h => h)) (pa_cons (pv 0) pa_nil)) pa_nil)))))
theorem sc__law_text : FnScope ["_law_draw", "_law_most", "_law_signs_here", "_law_many", "_law_some", "_law_found", "_law_lap"] ["_law_draw", "_law_most"] (defScope (top 39)) := ⟨rfl, rfl, rfl, by decide +kernel, rfl, by decide +kernel, by decide +kernel⟩
theorem lk__law_text {P : Program} {w : World} {k : Kx} {mg : Str → Option Value} {base : Heap} {f : Addr} {fd : FuncData} (B : Blt mg) (F__law_take : FnIs P w k.K mg base 2 "_law_take" ["_law_draw", "_law_total"] (spM k m_take)) (F__law_signs : FnIs P w k.K mg base 4 "_law_signs" ["_law_draw"] (spM k m__law_signs)) (F__law_letters : FnIs P w k.K mg base 4 "_law_letters" ["_law_draw", "_law_signs_here", "_law_many"] (spM k m__law_letters)) (F__law_pick : FnIs P w k.K mg base 3 "_law_pick" ["_law_draw", "_law_some"] (spM k m__law_pick)) (F : FunD k.K "_law_text" "_law_text" (defArgs (top 39)) (defBody (top 39)) (defScope (top 39)) [] [] f fd) : FnOk P w k.K mg base (L2.CX P w) 5 f fd ["_law_draw", "_law_most"] (spM k m__law_text) := by
  refine F.ok sc__law_text (fun vs H Q E h => (body_ok (N := ["_law_draw", "_law_most", "_law_signs_here", "_law_many", "_law_some", "_law_found", "_law_lap"]) (ar := 2) (t := t__law_text k) (b := b__law_text) (fun E => s__law_text  E) h (by decide)).1) (fun cdv A outer s H vs Q E hr h => ⟨t__law_text k E, ?_, (body_ok (N := ["_law_draw", "_law_most", "_law_signs_here", "_law_many", "_law_some", "_law_found", "_law_lap"]) (ar := 2) (t := t__law_text k) (b := b__law_text) (fun E => s__law_text  E) h (by decide)).2⟩)
  have nd := sc__law_text.nd
  have hu : A.units + 3 + 100 < cLine := by have := hr.un; have e : (A.deeper (envOfC "_law_text" (defScope (top 39)) s.heap.objs.size f cdv)).units = A.units + 3 := rfl; omega
  have hu1 : A.units + 3 + 1 < cLine := by omega
  have hu64 : A.units + 3 + 64 < cLine := by omega
  exact (pss_cons (ps_asg (pe_tup (pa_cons (pe_fn F__law_signs (hr.mono (by decide)) rfl (passes_call (takes_of rfl rfl rfl rfl) (fun _ _ _ _ h => h)) (pa_cons (pv 0) pa_nil)) (pa_cons (pe_op or_add pe_int (pe_fn F__law_take (hr.mono (by decide)) rfl (passes_call (takes_of rfl rfl rfl rfl) (fun _ _ _ _ h => h)) (pa_cons (pv 0) (pa_cons (pv 1) pa_nil)))) pa_nil))) (pg_tl (pg_tup rfl (pgs_cons (pg_name (i := 2) nd rfl (by first | exact Or.inl rfl | exact Or.inr rfl)) (pgs_cons (pg_name (i := 3) nd rfl (by first | exact Or.inl rfl | exact Or.inr rfl)) pgs_nil))) (pg_unl rfl (pgs_cons (pg_name (i := 2) nd rfl (by first | exact Or.inl rfl | exact Or.inr rfl)) (pgs_cons (pg_name (i := 3) nd rfl (by first | exact Or.inl rfl | exact Or.inr rfl)) pgs_nil))))) (pss_cons (ps_if (pt_cmpR op_gt (pe_fn F__law_take (hr.mono (by decide)) rfl (passes_call (takes_of rfl rfl rfl rfl) (fun _ _ _ _ h => h)) (pa_cons (pv 0) (pa_cons pe_int pa_nil))) pe_int (nomark _)) (pss_one (ps_ret (pe_fn F__law_letters (hr.mono (by decide)) rfl (passes_call (takes_of rfl rfl rfl rfl) (fun _ _ _ _ h => h)) (pa_cons (pv 0) (pa_cons (pv 2) (pa_cons (pv 3) pa_nil)))))) pss_nil) (pss_cons (ps_par rfl nd rfl rfl (by decide) rfl rfl (pa_cons (pe_lc (own := [("_law_lap", 6)]) rfl nd (pi_range1 rfl B.z_range (pa_cons pe_int pa_nil)) (blkOk_by rfl) (fun _ _ _ _ _ => (pg_name (i := 6) nd rfl (by first | exact Or.inl rfl | exact Or.inr rfl))) (fun _ _ _ _ _ => pts_nil) (fun _ _ _ _ _ => (pe_fn F__law_letters (hr.mono (by decide)) rfl passL (pa_cons (pv 0) (pa_cons (pv 2) (pa_cons (pe_op or_add pe_int (pe_fn F__law_take (hr.mono (by decide)) rfl passL (pa_cons (pv 0) (pa_cons pe_int pa_nil)))) pa_nil)))))) (pa_cons pe_str pa_nil)) rfl) (pss_cons (ps_for (passes_of rfl) rfl (pi_range1 rfl B.z_range (pa_cons (pv 3) pa_nil)) (pg_name (i := 6) nd rfl (by first | exact Or.inl rfl | exact Or.inr rfl)) (pss_one (ps_set (i := 5) nd rfl (by first | exact Or.inl rfl | exact Or.inr rfl) (pe_op or_add (pv 5) (pe_fn F__law_pick (hr.mono (by decide)) rfl (passes_call (takes_of rfl rfl rfl rfl) (fun _ _ _ _ h => h)) (pa_cons (pv 0) (pa_cons (pv 4) pa_nil))))))) (pss_one (ps_ret (pe_slice or_sl (pv 5) po_none (po_some (pv 3)))))))))
theorem sc__law_pieces_right : FnScope ["_law_script", "_law_draw", "_law_lap", "_law_text_here", "_law_at_here", "_law_part", "_law_due", "_law_told", "_law_width", "_law_at"] ["_law_script"] (defScope (top 48)) := ⟨rfl, rfl, rfl, by decide +kernel, rfl, by decide +kernel, by decide +kernel⟩
theorem lk__law_pieces_right {P : Program} {w : World} {k : Kx} {mg : Str → Option Value} {base : Heap} {f : Addr} {fd : FuncData} (B : Blt mg) (F__law_begun : FnIs P w k.K mg base 1 "_law_begun" ["_law_script"] (spM k m_begun)) (F__law_least_turn : FnIs P w k.K mg base 2 "_law_least_turn" ["_law_text_here"] (spM k m__law_least_turn)) (F__law_text : FnIs P w k.K mg base 5 "_law_text" ["_law_draw", "_law_most"] (spM k m__law_text)) (F__law_pick : FnIs P w k.K mg base 3 "_law_pick" ["_law_draw", "_law_some"] (spM k m__law_pick)) (F__law_take : FnIs P w k.K mg base 2 "_law_take" ["_law_draw", "_law_total"] (spM k m_take)) (F__law_read_on : FnIs P w k.K mg base 1 "_law_read_on" ["_law_text_here", "_law_at", "_law_many"] (spM k m__law_read_on)) (F_ring_occurrences : FnIs P w k.K mg base 5 "ring_occurrences" ["ring", "piece"] (spM k m_ring_occurrences)) (F_ring_pieces : FnIs P w k.K mg base 5 "ring_pieces" ["ring", "length"] (spM k m_ring_pieces)) (F__law_counted : FnIs P w k.K mg base 1 "_law_counted" ["_law_some"] (spM k m__law_counted)) (F__law_ring_runs : FnIs P w k.K mg base 2 "_law_ring_runs" ["_law_text_here", "_law_many"] (spM k m__law_ring_runs)) (F_ring_strand : FnIs P w k.K mg base 5 "ring_strand" ["ring"] (spM k m_ring_strand)) (F__law_other_strand : FnIs P w k.K mg base 1 "_law_other_strand" ["_law_text_here"] (spM k m__law_other_strand)) (K_ring_occurrences_0_piece_ring : FnKw P w k.K mg base 5 "ring_occurrences" ["ring", "piece"] (spM k m_ring_occurrences) 0 ["piece", "ring"] [1, 0]) (K_ring_pieces_0_length_ring : FnKw P w k.K mg base 5 "ring_pieces" ["ring", "length"] (spM k m_ring_pieces) 0 ["length", "ring"] [1, 0]) (K_ring_strand_0_ring : FnKw P w k.K mg base 5 "ring_strand" ["ring"] (spM k m_ring_strand) 0 ["ring"] [0]) (hXT : XTab k XT) (F : FunD k.K "_law_pieces_right" "_law_pieces_right" (defArgs (top 48)) (defBody (top 48)) (defScope (top 48)) [] [] f fd) : FnOk P w k.K mg base (L2.CX P w) 6 f fd ["_law_script"] (spM k m__law_pieces_right) := by
  refine F.ok sc__law_pieces_right (fun vs H Q E h => (body_ok (N := ["_law_script", "_law_draw", "_law_lap", "_law_text_here", "_law_at_here", "_law_part", "_law_due", "_law_told", "_law_width", "_law_at"]) (ar := 1) (t := t__law_pieces_right k) (b := b__law_pieces_right) (fun E => s__law_pieces_right hXT E) h (by decide)).1) (fun cdv A outer s H vs Q E hr h => ⟨t__law_pieces_right k E, ?_, (body_ok (N := ["_law_script", "_law_draw", "_law_lap", "_law_text_here", "_law_at_here", "_law_part", "_law_due", "_law_told", "_law_width", "_law_at"]) (ar := 1) (t := t__law_pieces_right k) (b := b__law_pieces_right) (fun E => s__law_pieces_right hXT E) h (by decide)).2⟩)
  have nd := sc__law_pieces_right.nd
  have hu : A.units + 3 + 100 < cLine := by have := hr.un; have e : (A.deeper (envOfC "_law_pieces_right" (defScope (top 48)) s.heap.objs.size f cdv)).units = A.units + 3 := rfl; omega
  have hu1 : A.units + 3 + 1 < cLine := by omega
  have hu64 : A.units + 3 + 64 < cLine := by omega
  exact (pss_cons (ps_set (i := 1) nd rfl (by first | exact Or.inl rfl | exact Or.inr rfl) (pe_fn F__law_begun (hr.mono (by decide)) rfl (passes_call (takes_of rfl rfl rfl rfl) (fun _ _ _ _ h => h)) (pa_cons (pv 0) pa_nil))) (pss_cons (ps_for (passes_of rfl) rfl (pi_range1 rfl B.z_range (pa_cons (pe_op or_add pe_int (pe_callB (call_min2 rfl) rfl B.z_min (by decide +kernel) (pa_cons (pe_callB cr_len rfl B.z_len (by decide +kernel) (pa_cons (pv 0) pa_nil)) (pa_cons pe_int pa_nil)))) pa_nil)) (pg_name (i := 2) nd rfl (by first | exact Or.inl rfl | exact Or.inr rfl)) (pss_cons (ps_set (i := 3) nd rfl (by first | exact Or.inl rfl | exact Or.inr rfl) (pe_fn F__law_least_turn (hr.mono (by decide)) rfl (passes_call (takes_of rfl rfl rfl rfl) (fun _ _ _ _ h => h)) (pa_cons (pe_op or_mul (pe_fn F__law_text (hr.mono (by decide)) rfl (passes_call (takes_of rfl rfl rfl rfl) (fun _ _ _ _ h => h)) (pa_cons (pv 1) (pa_cons pe_int pa_nil))) (pe_fn F__law_pick (hr.mono (by decide)) rfl (passes_call (takes_of rfl rfl rfl rfl) (fun _ _ _ _ h => h)) (pa_cons (pv 1) (pa_cons (pe_lst (pa_cons pe_int (pa_cons pe_int (pa_cons pe_int pa_nil)))) pa_nil)))) pa_nil))) (pss_cons (ps_set (i := 4) nd rfl (by first | exact Or.inl rfl | exact Or.inr rfl) (pe_fn F__law_take (hr.mono (by decide)) rfl (passes_call (takes_of rfl rfl rfl rfl) (fun _ _ _ _ h => h)) (pa_cons (pv 1) (pa_cons (pe_callB cr_len rfl B.z_len (by decide +kernel) (pa_cons (pv 3) pa_nil)) pa_nil)))) (pss_cons (ps_set (i := 5) nd rfl (by first | exact Or.inl rfl | exact Or.inr rfl) (pe_fn F__law_read_on (hr.mono (by decide)) rfl (passes_call (takes_of rfl rfl rfl rfl) (fun _ _ _ _ h => h)) (pa_cons (pv 3) (pa_cons (pv 4) (pa_cons (pe_op or_add pe_int (pe_fn F__law_take (hr.mono (by decide)) rfl (passes_call (takes_of rfl rfl rfl rfl) (fun _ _ _ _ h => h)) (pa_cons (pv 1) (pa_cons (pe_op or_mul pe_int (pe_callB cr_len rfl B.z_len (by decide +kernel) (pa_cons (pv 3) pa_nil))) pa_nil)))) pa_nil))))) (pss_cons (ps_set (i := 5) nd rfl (by first | exact Or.inl rfl | exact Or.inr rfl) (pe_fn F__law_pick (hr.mono (by decide)) rfl (passes_call (takes_of rfl rfl rfl rfl) (fun _ _ _ _ h => h)) (pa_cons (pv 1) (pa_cons (pe_lst (pa_cons (pv 5) (pa_cons (pv 5) (pa_cons (pe_slice or_sl (pv 5) po_none (po_some pe_int)) (pa_cons (pe_fn F__law_text (hr.mono (by decide)) rfl (passes_call (takes_of rfl rfl rfl rfl) (fun _ _ _ _ h => h)) (pa_cons (pv 1) (pa_cons pe_int pa_nil))) (pa_cons (pe_op or_add (pv 5) pe_str) pa_nil)))))) pa_nil)))) (pss_cons (ps_set (i := 6) nd rfl (by first | exact Or.inl rfl | exact Or.inr rfl) (pe_lc (own := [("_law_at", 9)]) rfl nd (pi_range1 rfl B.z_range (pa_cons (pe_callB cr_len rfl B.z_len (by decide +kernel) (pa_cons (pv 3) pa_nil)) pa_nil)) (blkOk_by rfl) (fun _ _ _ _ _ => (pg_name (i := 9) nd rfl (by first | exact Or.inl rfl | exact Or.inr rfl))) (fun _ _ _ _ _ => (pts_one (pt_cmpR (or_eq hu) (pe_fn F__law_read_on (hr.mono (by decide)) rfl passL (pa_cons (pv 3) (pa_cons (pv 9) (pa_cons (pe_callB cr_len rfl B.z_len (by decide +kernel) (pa_cons (pv 5) pa_nil)) pa_nil)))) (pv 5) (nomark _)))) (fun _ _ _ _ _ => (pv 9)))) (pss_cons (ps_set (i := 7) nd rfl (by first | exact Or.inl rfl | exact Or.inr rfl) (pe_fn F_ring_occurrences (hr.mono (by decide)) rfl (passes_call (takes_of rfl rfl rfl rfl) (fun _ _ _ _ h => h)) (pa_cons (pv 3) (pa_cons (pv 5) pa_nil)))) (pss_cons (ps_if (PW.pt (pw_or (pt_cmpR (or_ne hu) (pv 7) (pv 6) (nomark _)) (pw_or1 (pt_not (pt_val (pe_callB call_isA rfl B.z_isinstance (by decide +kernel) (pa_cons (pv 7) (pa_cons (pe_bltn (v := .ty "list") rfl B.z_list (by decide +kernel) rfl) pa_nil)))))))) (pss_one (ps_ret pe_bl)) pss_nil) (pss_cons (ps_expr (pe_bm PySem.F.plainAttrs_list PySem.F.slot_list_append PySem.F.type_list_append mt_append (pv 7) (pa_cons pe_non pa_nil))) (pss_cons (ps_if (pt_cmpR (or_ne hu) (pe_fnK0 (ks := ["piece", "ring"]) (is := [1, 0]) (x := "ring_occurrences") (k := 5) (ps := ["ring", "piece"]) K_ring_occurrences_0_piece_ring (hr.mono (by decide)) rfl (passes_call (takes_of rfl rfl rfl rfl) (fun _ _ _ _ h => h)) (pk_cons (pv 5) (pk_cons (pv 3) pk_nil))) (pv 6) (nomark _)) (pss_one (ps_ret pe_bl)) pss_nil) (pss_cons (ps_set (i := 8) nd rfl (by first | exact Or.inl rfl | exact Or.inr rfl) (pe_op or_add pe_int (pe_fn F__law_take (hr.mono (by decide)) rfl (passes_call (takes_of rfl rfl rfl rfl) (fun _ _ _ _ h => h)) (pa_cons (pv 1) (pa_cons (pe_fn F__law_pick (hr.mono (by decide)) rfl (passes_call (takes_of rfl rfl rfl rfl) (fun _ _ _ _ h => h)) (pa_cons (pv 1) (pa_cons (pe_lst (pa_cons pe_int (pa_cons (pe_callB cr_len rfl B.z_len (by decide +kernel) (pa_cons (pv 3) pa_nil)) (pa_cons (pe_op or_mul pe_int (pe_callB cr_len rfl B.z_len (by decide +kernel) (pa_cons (pv 3) pa_nil))) pa_nil)))) pa_nil))) pa_nil))))) (pss_cons (ps_asg (pe_tup (pa_cons (pe_fn F__law_counted (hr.mono (by decide)) rfl (passes_call (takes_of rfl rfl rfl rfl) (fun _ _ _ _ h => h)) (pa_cons (pe_fn F__law_ring_runs (hr.mono (by decide)) rfl (passes_call (takes_of rfl rfl rfl rfl) (fun _ _ _ _ h => h)) (pa_cons (pv 3) (pa_cons (pv 8) pa_nil))) pa_nil)) (pa_cons (pe_fn F_ring_pieces (hr.mono (by decide)) rfl (passes_call (takes_of rfl rfl rfl rfl) (fun _ _ _ _ h => h)) (pa_cons (pv 3) (pa_cons (pv 8) pa_nil))) pa_nil))) (pg_tl (pg_tup rfl (pgs_cons (pg_name (i := 6) nd rfl (by first | exact Or.inl rfl | exact Or.inr rfl)) (pgs_cons (pg_name (i := 7) nd rfl (by first | exact Or.inl rfl | exact Or.inr rfl)) pgs_nil))) (pg_unl rfl (pgs_cons (pg_name (i := 6) nd rfl (by first | exact Or.inl rfl | exact Or.inr rfl)) (pgs_cons (pg_name (i := 7) nd rfl (by first | exact Or.inl rfl | exact Or.inr rfl)) pgs_nil))))) (pss_cons (ps_if (PW.pt (pw_or (pt_cmpR (or_ne hu) (pv 7) (pv 6) (nomark _)) (pw_or (pt_cmpR (or_ne hu) (pe_callTy (cr_listA rfl) rfl B.z_list (by decide +kernel) (pa_cons (pv 7) pa_nil)) (pe_callTy (cr_listA rfl) rfl B.z_list (by decide +kernel) (pa_cons (pv 6) pa_nil)) (nomark _)) (pw_or1 (pt_cmpR (or_ne hu) (pe_callB (cr_sum rfl) rfl B.z_sum (by decide +kernel) (pa_cons (pe_lc (own := [("_law_part", 5)]) rfl nd (pi_anyD (pv 6)) (blkOk_by rfl) (fun _ _ _ _ _ => (pg_name (i := 5) nd rfl (by first | exact Or.inl rfl | exact Or.inr rfl))) (fun _ _ _ _ _ => pts_nil) (fun _ _ _ _ _ => (pe_ix (ix_any hu) (pv 6) (pv 5) (fun _ _ => rfl)))) pa_nil)) (pe_callB cr_len rfl B.z_len (by decide +kernel) (pa_cons (pv 3) pa_nil)) (nomark _)))))) (pss_one (ps_ret pe_bl)) pss_nil) (pss_cons (ps_dput hu1 (pv 7) pe_str (pe_un un_neg pe_int) rfl) (pss_cons (ps_if (pt_cmpR (or_ne hu) (pe_fnK0 (ks := ["length", "ring"]) (is := [1, 0]) (x := "ring_pieces") (k := 5) (ps := ["ring", "length"]) K_ring_pieces_0_length_ring (hr.mono (by decide)) rfl (passes_call (takes_of rfl rfl rfl rfl) (fun _ _ _ _ h => h)) (pk_cons (pv 8) (pk_cons (pv 3) pk_nil))) (pv 6) (nomark _)) (pss_one (ps_ret pe_bl)) pss_nil) (pss_one (ps_if (pt_cmpR (or_ne hu) (pe_fnK0 (ks := ["ring"]) (is := [0]) (x := "ring_strand") (k := 5) (ps := ["ring"]) K_ring_strand_0_ring (hr.mono (by decide)) rfl (passes_call (takes_of rfl rfl rfl rfl) (fun _ _ _ _ h => h)) (pk_cons (pv 3) pk_nil)) (pe_fn F__law_least_turn (hr.mono (by decide)) rfl (passes_call (takes_of rfl rfl rfl rfl) (fun _ _ _ _ h => h)) (pa_cons (pe_fn F__law_other_strand (hr.mono (by decide)) rfl (passes_call (takes_of rfl rfl rfl rfl) (fun _ _ _ _ h => h)) (pa_cons (pv 3) pa_nil)) pa_nil)) (nomark _)) (pss_one (ps_ret pe_bl)) pss_nil))))))))))))))))) (pss_one (ps_ret pe_bl))))
theorem sc__law_turns_right : FnScope ["_law_script", "_law_draw", "_law_lap", "_law_text_here", "_law_spot", "_law_odd_here", "_law_bad", "_law_error", "_law_some", "_law_least", "_law_at"] ["_law_script"] (defScope (top 47)) := ⟨rfl, rfl, rfl, by decide +kernel, rfl, by decide +kernel, by decide +kernel⟩
theorem lam__law_turns_right_0 : LamX.lamSB (defScope (top 47)) { kind := .function, names := [("_law_bad", .free), ("_law_text_here", .free), ("turn", .globalImplicit)], isGenerator := false, isCoroutine := false } = true := by decide +kernel
theorem lk__law_turns_right {P : Program} {w : World} {k : Kx} {mg : Str → Option Value} {base : Heap} {f : Addr} {fd : FuncData} (B : Blt mg) (F__law_begun : FnIs P w k.K mg base 1 "_law_begun" ["_law_script"] (spM k m_begun)) (F__law_text : FnIs P w k.K mg base 5 "_law_text" ["_law_draw", "_law_most"] (spM k m__law_text)) (F__law_pick : FnIs P w k.K mg base 3 "_law_pick" ["_law_draw", "_law_some"] (spM k m__law_pick)) (F__law_least_turn : FnIs P w k.K mg base 2 "_law_least_turn" ["_law_text_here"] (spM k m__law_least_turn)) (F__law_turns : FnIs P w k.K mg base 1 "_law_turns" ["_law_text_here"] (spM k m__law_turns)) (F_turn : FnIs P w k.K mg base 4 "turn" ["word", "number"] (spM k m_turn)) (F__law_take : FnIs P w k.K mg base 2 "_law_take" ["_law_draw", "_law_total"] (spM k m_take)) (F_ring_of : FnIs P w k.K mg base 4 "ring_of" ["word"] (spM k m_ring_of)) (F_is_ring : FnIs P w k.K mg base 3 "is_ring" ["value"] (spM k m_is_ring)) (F__law_odd : FnIs P w k.K mg base 4 "_law_odd" ["_law_draw"] (spM k m__law_odd)) (K_ring_of_0_word : FnKw P w k.K mg base 4 "ring_of" ["word"] (spM k m_ring_of) 0 ["word"] [0]) (K_turn_0_number_word : FnKw P w k.K mg base 4 "turn" ["word", "number"] (spM k m_turn) 0 ["number", "word"] [1, 0]) (K_is_ring_0_value : FnKw P w k.K mg base 3 "is_ring" ["value"] (spM k m_is_ring) 0 ["value"] [0]) (G_BadIndex : mg "BadIndex" = some (.ref (k.ca "BadIndex"))) (G_BadWord : mg "BadWord" = some (.ref (k.ca "BadWord"))) (hXT : XTab k XT) (hCAT : ∀ C ∈ CAT, PySem.W.exmOne k.K (.ref (k.ca C)) (.ref (k.ca "ReadError")) = some true) (gR : mg "ReadError" = some (.ref (k.ca "ReadError"))) {fC : Addr} {fdC : FuncData} (gC : mg "_law_caught" = some (.ref fC)) (D_caught : FunD k.K "_law_caught" "_law_caught" (defArgs (top 36)) (defBody (top 36)) (defScope (top 36)) [] [] fC fdC) {c Pt : Addr} (hc : fd.code = .ref c) (TB : LamX.TabB base mg c Pt) (hmT : (Pt, lq "_law_turns_right") ∈ k.T) (hut : ∀ p ∈ k.T, p.1 = Pt → p.2 = lq "_law_turns_right") (F : FunD k.K "_law_turns_right" "_law_turns_right" (defArgs (top 47)) (defBody (top 47)) (defScope (top 47)) [] [] f fd) : FnG P w k.K mg base (L2.CX P w) 8 f fd ["_law_script"] (spM k m__law_turns_right) := by
  refine okG F sc__law_turns_right (fun vs H Q E h => (body_ok (N := ["_law_script", "_law_draw", "_law_lap", "_law_text_here", "_law_spot", "_law_odd_here", "_law_bad", "_law_error", "_law_some", "_law_least", "_law_at"]) (ar := 1) (t := t__law_turns_right k) (b := b__law_turns_right) (fun E => s__law_turns_right hXT hCAT E) h (by decide)).1) (fun cdv A outer s H vs Q E hcv hgd hr h => ⟨t__law_turns_right k E, ?_, (body_ok (N := ["_law_script", "_law_draw", "_law_lap", "_law_text_here", "_law_spot", "_law_odd_here", "_law_bad", "_law_error", "_law_some", "_law_least", "_law_at"]) (ar := 1) (t := t__law_turns_right k) (b := b__law_turns_right) (fun E => s__law_turns_right hXT hCAT E) h (by decide)).2⟩)
  have hcv : cdv = .ref c := hcv.symm.trans hc
  subst hcv
  have nd := sc__law_turns_right.nd
  have hu : A.units + 3 + 100 < cLine := by have := hr.un; have e : (A.deeper (envOfC "_law_turns_right" (defScope (top 47)) s.heap.objs.size f (.ref c))).units = A.units + 3 := rfl; omega
  have hu1 : A.units + 3 + 1 < cLine := by omega
  have hu64 : A.units + 3 + 64 < cLine := by omega
  obtain ⟨ocC, odC, dVC, kVC, docC, pmC, anC, cdvC, ctC, oslC, rfl, lkC, hcdC, hDC, _⟩ := D_caught.ex
  have bC : L2.Binds k.K (PySem.W.fnOf "_law_caught" "_law_caught" (defArgs (top 36)) (defBody (top 36)) (defScope (top 36)) dVC kVC docC pmC anC cdvC ctC) ["_law_job"] [] := D_caught.bindsN fun _ _ _ _ _ _ us hl => match us, hl with | [_], _ => rfl
  exact (pss_cons (ps_set (i := 1) nd rfl (by first | exact Or.inl rfl | exact Or.inr rfl) (pe_fn F__law_begun (hr.mono (by decide)) rfl (passes_call (takes_of rfl rfl rfl rfl) (fun _ _ _ _ h => h)) (pa_cons (pv 0) pa_nil))) (pss_cons (ps_for (passes_of rfl) rfl (pi_range1 rfl B.z_range (pa_cons (pe_op or_add pe_int (pe_callB (call_min2 rfl) rfl B.z_min (by decide +kernel) (pa_cons (pe_callB cr_len rfl B.z_len (by decide +kernel) (pa_cons (pv 0) pa_nil)) (pa_cons pe_int pa_nil)))) pa_nil)) (pg_name (i := 2) nd rfl (by first | exact Or.inl rfl | exact Or.inr rfl)) (pss_cons (ps_set (i := 3) nd rfl (by first | exact Or.inl rfl | exact Or.inr rfl) (pe_op or_mul (pe_fn F__law_text (hr.mono (by decide)) rfl (passes_call (takes_of rfl rfl rfl rfl) (fun _ _ _ _ h => h)) (pa_cons (pv 1) (pa_cons pe_int pa_nil))) (pe_fn F__law_pick (hr.mono (by decide)) rfl (passes_call (takes_of rfl rfl rfl rfl) (fun _ _ _ _ h => h)) (pa_cons (pv 1) (pa_cons (pe_lst (pa_cons pe_int (pa_cons pe_int (pa_cons pe_int pa_nil)))) pa_nil))))) (pss_cons (ps_par rfl nd rfl rfl (by decide) rfl rfl (pa_cons (pe_fn F__law_turns (hr.mono (by decide)) rfl (passes_call (takes_of rfl rfl rfl rfl) (fun _ _ _ _ h => h)) (pa_cons (pv 3) pa_nil)) (pa_cons (pe_fn F__law_least_turn (hr.mono (by decide)) rfl (passes_call (takes_of rfl rfl rfl rfl) (fun _ _ _ _ h => h)) (pa_cons (pv 3) pa_nil)) pa_nil)) rfl) (pss_cons (ps_if (pt_cmpR (or_ne hu) (pe_lc (own := [("_law_at", 10)]) rfl nd (pi_range1 rfl B.z_range (pa_cons (pe_callB cr_len rfl B.z_len (by decide +kernel) (pa_cons (pv 3) pa_nil)) pa_nil)) (blkOk_by rfl) (fun _ _ _ _ _ => (pg_name (i := 10) nd rfl (by first | exact Or.inl rfl | exact Or.inr rfl))) (fun _ _ _ _ _ => pts_nil) (fun _ _ _ _ _ => (pe_fn F_turn (hr.mono (by decide)) rfl passL (pa_cons (pv 3) (pa_cons (pv 10) pa_nil))))) (pv 8) (nomark _)) (pss_one (ps_ret pe_bl)) pss_nil) (pss_cons (ps_set (i := 4) nd rfl (by first | exact Or.inl rfl | exact Or.inr rfl) (pe_fn F__law_take (hr.mono (by decide)) rfl (passes_call (takes_of rfl rfl rfl rfl) (fun _ _ _ _ h => h)) (pa_cons (pv 1) (pa_cons (pe_callB cr_len rfl B.z_len (by decide +kernel) (pa_cons (pv 3) pa_nil)) pa_nil)))) (pss_cons (ps_if (PW.pt (pw_or (pt_cmpR (or_ne hu) (pe_fn F_ring_of (hr.mono (by decide)) rfl (passes_call (takes_of rfl rfl rfl rfl) (fun _ _ _ _ h => h)) (pa_cons (pe_ix (ix_any hu) (pv 8) (pv 4) (fun _ _ => rfl)) pa_nil)) (pv 9) (nomark _)) (pw_or (pt_cmpR (or_ne hu) (pe_fnK0 (ks := ["word"]) (is := [0]) (x := "ring_of") (k := 4) (ps := ["word"]) K_ring_of_0_word (hr.mono (by decide)) rfl (passes_call (takes_of rfl rfl rfl rfl) (fun _ _ _ _ h => h)) (pk_cons (pv 3) pk_nil)) (pv 9) (nomark _)) (pw_or1 (pt_cmpR (or_ne hu) (pe_fnK0 (ks := ["number", "word"]) (is := [1, 0]) (x := "turn") (k := 4) (ps := ["word", "number"]) K_turn_0_number_word (hr.mono (by decide)) rfl (passes_call (takes_of rfl rfl rfl rfl) (fun _ _ _ _ h => h)) (pk_cons (pv 4) (pk_cons (pv 3) pk_nil))) (pe_ix (ix_any hu) (pv 8) (pv 4) (fun _ _ => rfl)) (nomark _)))))) (pss_one (ps_ret pe_bl)) pss_nil) (pss_cons (ps_if (PW.pt (pw_or (pt_cmpR (or_ne hu) (pe_callB (cr_repr hgd hu64) rfl B.z_repr (by decide +kernel) (pa_cons (pe_fn F_is_ring (hr.mono (by decide)) rfl (passes_call (takes_of rfl rfl rfl rfl) (fun _ _ _ _ h => h)) (pa_cons (pe_ix (ix_any hu) (pv 8) (pv 4) (fun _ _ => rfl)) pa_nil)) pa_nil)) (pe_callB (cr_repr hgd hu64) rfl B.z_repr (by decide +kernel) (pa_cons (pe_cmpR (or_eq hu) (pe_ix (ix_any hu) (pv 8) (pv 4) (fun _ _ => rfl)) (pv 9) (nomark _)) pa_nil)) (nomark _)) (pw_or1 (pt_cmpR op_notBl (pe_fnK0 (ks := ["value"]) (is := [0]) (x := "is_ring") (k := 3) (ps := ["value"]) K_is_ring_0_value (hr.mono (by decide)) rfl (passes_call (takes_of rfl rfl rfl rfl) (fun _ _ _ _ h => h)) (pk_cons (pv 9) pk_nil)) pe_bl (nomark _))))) (pss_one (ps_ret pe_bl)) pss_nil) (pss_cons (ps_set (i := 5) nd rfl (by first | exact Or.inl rfl | exact Or.inr rfl) (pe_fn F__law_pick (hr.mono (by decide)) rfl (passes_call (takes_of rfl rfl rfl rfl) (fun _ _ _ _ h => h)) (pa_cons (pv 1) (pa_cons (pe_lst (pa_cons (pe_fn F__law_odd (hr.mono (by decide)) rfl (passes_call (takes_of rfl rfl rfl rfl) (fun _ _ _ _ h => h)) (pa_cons (pv 1) pa_nil)) (pa_cons (pe_lst (pa_cons (pv 9) pa_nil)) (pa_cons (pe_tup (pa_cons (pv 9) pa_nil)) (pa_cons (pe_bm0 PySem.F.plainAttrs_str PySem.F.slot_str_upper PySem.F.type_str_upper mt_upper (pv 9)) (pa_cons pe_str pa_nil)))))) pa_nil)))) (pss_cons (ps_if (pt_cmpR op_notBl (pe_fn F_is_ring (hr.mono (by decide)) rfl (passes_call (takes_of rfl rfl rfl rfl) (fun _ _ _ _ h => h)) (pa_cons (pv 5) pa_nil)) pe_bl (nomark _)) (pss_one (ps_ret pe_bl)) pss_nil) (pss_cons (ps_set (i := 6) nd rfl (by first | exact Or.inl rfl | exact Or.inr rfl) (pe_fn F__law_pick (hr.mono (by decide)) rfl (passes_call (takes_of rfl rfl rfl rfl) (fun _ _ _ _ h => h)) (pa_cons (pv 1) (pa_cons (pe_lst (pa_cons pe_non (pa_cons pe_bl (pa_cons (pe_un un_neg pe_int) (pa_cons (pe_callB cr_len rfl B.z_len (by decide +kernel) (pa_cons (pv 3) pa_nil)) (pa_cons (pe_op or_add (pe_callB cr_len rfl B.z_len (by decide +kernel) (pa_cons (pv 3) pa_nil)) pe_int) (pa_cons pe_str (pa_cons (pe_tup (pa_cons pe_int pa_nil)) (pa_cons (pe_op op_pow pe_int pe_int) pa_nil))))))))) pa_nil)))) (pss_cons (ps_set (i := 7) nd rfl (by first | exact Or.inl rfl | exact Or.inr rfl) (LamX.pe_lamcall (T := k.T) (TT := TCaught k.K (k.ca "ReadError")) (t := fun E' => (tCall (spM k m_turn) [] E' ((tCons (tVar 3) ((tCons (tVar 6) (tNil))))))) (k := 5) (Ng := ["_law_job", "_law_found", "_law_error"]) rfl gC D_caught.kp lkC hcdC bC sc_caught rfl (.inl rfl) (caught_gives rfl gR (by decide +kernel) (by decide +kernel) rfl rfl (by decide +kernel) (by decide +kernel) (by decide +kernel) (by decide +kernel)) TB rfl hmT hut hr (LamX.lamS_by lam__law_turns_right_0) rfl (fun _ _ _ _ _ => rfl) (fun A' o' s' H' E' f' c' hr' => (pe_fn F_turn (hr'.mono (by decide)) rfl (passes_call (takes_of rfl rfl rfl rfl) (fun _ _ _ _ h => h)) (pa_cons (pv 3) (pa_cons (pv 6) pa_nil)))))) (pss_one (ps_if (PW.pt (pw_or (pt_not (pt_val (pe_callB call_isA rfl B.z_isinstance (by decide +kernel) (pa_cons (pv 7) (pa_cons (pe_glob rfl G_BadIndex rfl) pa_nil))))) (pw_or1 (pt_val (pe_callB call_isA rfl B.z_isinstance (by decide +kernel) (pa_cons (pv 7) (pa_cons (pe_glob rfl G_BadWord rfl) pa_nil))))))) (pss_one (ps_ret pe_bl)) pss_nil))))))))))))) (pss_one (ps_ret pe_bl))))
theorem sc_law : FnScope ["_law_script"] ["_law_script"] (defScope (top 49)) := ⟨rfl, rfl, rfl, by decide +kernel, rfl, by decide +kernel, by decide +kernel⟩
theorem lk_law {P : Program} {w : World} {k : Kx} {mg : Str → Option Value} {base : Heap} {f : Addr} {fd : FuncData} (B : Blt mg) (F__law_turns_right : FnGs P w k.K mg base 8 "_law_turns_right" ["_law_script"] (spM k m__law_turns_right)) (F__law_pieces_right : FnIs P w k.K mg base 6 "_law_pieces_right" ["_law_script"] (spM k m__law_pieces_right)) (F : FunD k.K "law" "law" (defArgs (top 49)) (defBody (top 49)) (defScope (top 49)) [] [] f fd) : FnG P w k.K mg base (L2.CX P w) 9 f fd ["_law_script"] (spM k m_law) := by
  refine okG F sc_law (fun vs H Q E h => (body_ok (N := ["_law_script"]) (ar := 1) (t := t_law k) (b := b_law) (fun E => s_law  E) h (by decide)).1) (fun cdv A outer s H vs Q E hcv hgd hr h => ⟨t_law k E, ?_, (body_ok (N := ["_law_script"]) (ar := 1) (t := t_law k) (b := b_law) (fun E => s_law  E) h (by decide)).2⟩)
  have nd := sc_law.nd
  have hu : A.units + 3 + 100 < cLine := by have := hr.un; have e : (A.deeper (envOfC "law" (defScope (top 49)) s.heap.objs.size f cdv)).units = A.units + 3 := rfl; omega
  have hu1 : A.units + 3 + 1 < cLine := by omega
  have hu64 : A.units + 3 + 64 < cLine := by omega
  exact (pss_one (ps_ret (L2.pe_and (pe_fnG F__law_turns_right hgd (hr.mono (by decide)) rfl (passes_call (takes_of rfl rfl rfl rfl) (fun _ _ _ _ h => h)) (pa_cons (pv 0) pa_nil)) (pe_one (pe_fn F__law_pieces_right (hr.mono (by decide)) rfl (passes_call (takes_of rfl rfl rfl rfl) (fun _ _ _ _ h => h)) (pa_cons (pv 0) pa_nil))))))
def d_is_integer : He.DefD := ⟨("is_integer", none), "is_integer", "is_integer", defArgs (top 10), defBody (top 10), defScope (top 10), [], []⟩
def d_is_between : He.DefD := ⟨("is_between", none), "is_between", "is_between", defArgs (top 11), defBody (top 11), defScope (top 11), [], []⟩
def d_is_line : He.DefD := ⟨("is_line", none), "is_line", "is_line", defArgs (top 12), defBody (top 12), defScope (top 12), [], []⟩
def d_is_word : He.DefD := ⟨("is_word", none), "is_word", "is_word", defArgs (top 13), defBody (top 13), defScope (top 13), [], []⟩
def d_need_word : He.DefD := ⟨("need_word", none), "need_word", "need_word", defArgs (top 14), defBody (top 14), defScope (top 14), [], []⟩
def d_need_length : He.DefD := ⟨("need_length", none), "need_length", "need_length", defArgs (top 15), defBody (top 15), defScope (top 15), [], []⟩
def d_counted : He.DefD := ⟨("counted", none), "counted", "counted", defArgs (top 16), defBody (top 16), defScope (top 16), [], []⟩
def d_strand_of : He.DefD := ⟨("strand_of", none), "strand_of", "strand_of", defArgs (top 17), defBody (top 17), defScope (top 17), [], []⟩
def d_turn_of : He.DefD := ⟨("turn_of", none), "turn_of", "turn_of", defArgs (top 19), defBody (top 19), defScope (top 19), [], []⟩
def d_least_turn : He.DefD := ⟨("least_turn", none), "least_turn", "least_turn", defArgs (top 20), defBody (top 20), defScope (top 20), [], []⟩
def d_is_ring : He.DefD := ⟨("is_ring", none), "is_ring", "is_ring", defArgs (top 21), defBody (top 21), defScope (top 21), [], []⟩
def d_need_ring : He.DefD := ⟨("need_ring", none), "need_ring", "need_ring", defArgs (top 22), defBody (top 22), defScope (top 22), [], []⟩
def d_turn : He.DefD := ⟨("turn", none), "turn", "turn", defArgs (top 23), defBody (top 23), defScope (top 23), [], []⟩
def d_ring_of : He.DefD := ⟨("ring_of", none), "ring_of", "ring_of", defArgs (top 24), defBody (top 24), defScope (top 24), [], []⟩
def d_read_on : He.DefD := ⟨("read_on", none), "read_on", "read_on", defArgs (top 25), defBody (top 25), defScope (top 25), [], []⟩
def d_ring_stretches : He.DefD := ⟨("ring_stretches", none), "ring_stretches", "ring_stretches", defArgs (top 26), defBody (top 26), defScope (top 26), [], []⟩
def d_ring_places : He.DefD := ⟨("ring_places", none), "ring_places", "ring_places", defArgs (top 27), defBody (top 27), defScope (top 27), [], []⟩
def d_ring_occurrences : He.DefD := ⟨("ring_occurrences", none), "ring_occurrences", "ring_occurrences", defArgs (top 28), defBody (top 28), defScope (top 28), [], []⟩
def d_ring_pieces : He.DefD := ⟨("ring_pieces", none), "ring_pieces", "ring_pieces", defArgs (top 29), defBody (top 29), defScope (top 29), [], []⟩
def d_ring_strand : He.DefD := ⟨("ring_strand", none), "ring_strand", "ring_strand", defArgs (top 30), defBody (top 30), defScope (top 30), [], []⟩
def d__law_begun : He.DefD := ⟨("_law_begun", none), "_law_begun", "_law_begun", defArgs (top 32), defBody (top 32), defScope (top 32), [], []⟩
def d__law_mixed : He.DefD := ⟨("_law_mixed", none), "_law_mixed", "_law_mixed", defArgs (top 33), defBody (top 33), defScope (top 33), [], []⟩
def d__law_take : He.DefD := ⟨("_law_take", none), "_law_take", "_law_take", defArgs (top 34), defBody (top 34), defScope (top 34), [], []⟩
def d__law_pick : He.DefD := ⟨("_law_pick", none), "_law_pick", "_law_pick", defArgs (top 35), defBody (top 35), defScope (top 35), [], []⟩
def d__law_caught : He.DefD := ⟨("_law_caught", none), "_law_caught", "_law_caught", defArgs (top 36), defBody (top 36), defScope (top 36), [], []⟩
def d__law_signs : He.DefD := ⟨("_law_signs", none), "_law_signs", "_law_signs", defArgs (top 37), defBody (top 37), defScope (top 37), [], []⟩
def d__law_letters : He.DefD := ⟨("_law_letters", none), "_law_letters", "_law_letters", defArgs (top 38), defBody (top 38), defScope (top 38), [], []⟩
def d__law_text : He.DefD := ⟨("_law_text", none), "_law_text", "_law_text", defArgs (top 39), defBody (top 39), defScope (top 39), [], []⟩
def d__law_turns : He.DefD := ⟨("_law_turns", none), "_law_turns", "_law_turns", defArgs (top 40), defBody (top 40), defScope (top 40), [], []⟩
def d__law_least_turn : He.DefD := ⟨("_law_least_turn", none), "_law_least_turn", "_law_least_turn", defArgs (top 41), defBody (top 41), defScope (top 41), [], []⟩
def d__law_read_on : He.DefD := ⟨("_law_read_on", none), "_law_read_on", "_law_read_on", defArgs (top 42), defBody (top 42), defScope (top 42), [], []⟩
def d__law_ring_runs : He.DefD := ⟨("_law_ring_runs", none), "_law_ring_runs", "_law_ring_runs", defArgs (top 43), defBody (top 43), defScope (top 43), [], []⟩
def d__law_counted : He.DefD := ⟨("_law_counted", none), "_law_counted", "_law_counted", defArgs (top 44), defBody (top 44), defScope (top 44), [], []⟩
def d__law_other_strand : He.DefD := ⟨("_law_other_strand", none), "_law_other_strand", "_law_other_strand", defArgs (top 45), defBody (top 45), defScope (top 45), [], []⟩
def d__law_odd : He.DefD := ⟨("_law_odd", none), "_law_odd", "_law_odd", defArgs (top 46), defBody (top 46), defScope (top 46), [], []⟩
def d__law_turns_right : He.DefD := ⟨("_law_turns_right", none), "_law_turns_right", "_law_turns_right", defArgs (top 47), defBody (top 47), defScope (top 47), [], []⟩
def d__law_pieces_right : He.DefD := ⟨("_law_pieces_right", none), "_law_pieces_right", "_law_pieces_right", defArgs (top 48), defBody (top 48), defScope (top 48), [], []⟩
def d_law : He.DefD := ⟨("law", none), "law", "law", defArgs (top 49), defBody (top 49), defScope (top 49), [], []⟩
def fn : List He.DefD := ([d_is_integer, d_is_between, d_is_line, d_is_word, d_need_word, d_need_length, d_counted, d_strand_of, d_turn_of, d_least_turn, d_is_ring, d_need_ring, d_turn, d_ring_of, d_read_on, d_ring_stretches, d_ring_places, d_ring_occurrences, d_ring_pieces, d_ring_strand, d__law_begun, d__law_mixed, d__law_take, d__law_pick] : List He.DefD) ++ ([d__law_caught, d__law_signs, d__law_letters, d__law_text, d__law_turns, d__law_least_turn, d__law_read_on, d__law_ring_runs, d__law_counted, d__law_other_strand, d__law_odd, d__law_turns_right, d__law_pieces_right, d_law] : List He.DefD)
def fa : List He.Fa := ([.glo "is_integer", .glo "is_between", .glo "is_line", .glo "is_word", .glo "need_word", .glo "need_length", .glo "counted", .glo "strand_of", .glo "turn_of", .glo "least_turn", .glo "is_ring", .glo "need_ring", .glo "turn", .glo "ring_of", .glo "read_on", .glo "ring_stretches", .glo "ring_places", .glo "ring_occurrences", .glo "ring_pieces", .glo "ring_strand", .glo "_law_begun", .glo "_law_mixed", .glo "_law_take", .glo "_law_pick"] : List He.Fa) ++ ([.glo "_law_caught", .glo "_law_signs", .glo "_law_letters", .glo "_law_text", .glo "_law_turns", .glo "_law_least_turn", .glo "_law_read_on", .glo "_law_ring_runs", .glo "_law_counted", .glo "_law_other_strand", .glo "_law_odd", .glo "_law_turns_right", .glo "_law_pieces_right", .glo "law", .free "abs", .free "all", .free "any", .free "bool", .free "dict", .free "enumerate", .free "int", .free "isinstance", .free "len", .free "list"] : List He.Fa) ++ ([.free "max", .free "min", .free "range", .free "repr", .free "set", .free "sorted", .free "str", .free "sum", .free "tuple", .free "zip", .glo "BadIndex", .glo "BadLength", .glo "BadRing", .glo "BadWord", .glo "PARTNERS", .glo "ReadError", .exc "BadIndex", .exc "BadLength", .exc "BadRing", .exc "BadWord", .str "LETTERS" "acgt", .int "MOST_LETTERS" 120, .exm "BadWord" "ReadError" true, .exm "BadRing" "ReadError" true] : List He.Fa) ++ ([.exm "BadLength" "ReadError" true, .exm "BadIndex" "ReadError" true] : List He.Fa)
def excCB (K : PySem.W.Frag) (D : Addr) : Bool := He.eqO (PySem.W.findIn K (.ref D) "__getattribute__") (some (some (.builtin "BaseException.__getattribute__"))) && (He.eqO (PySem.W.findIn K (.ref D) "__getattr__") (some none) && (decide (PySem.W.subIn K (.ref D) (.type "BaseException") = some true) && (PySem.W.hasDictIn K D && (He.eqO (PySem.W.findIn K (.ref D) "__class__") (some (some (.builtin "object.__class__"))) && (He.eqO (PySem.W.specialIn K (.builtin "object.__class__") "__get__") (some (some (.builtin "getset_descriptor.__get__"))) && (decide (PySem.W.takesIn K (.builtin "object.__class__") = some true) && decide (PySem.W.mroIn K D (.type "object") = some true)))))))
theorem and2 {a b : Bool} (h : (a && b) = true) : a = true ∧ b = true := by rwa [Bool.and_eq_true] at h
theorem excCB_ok {K : PySem.W.Frag} {D : Addr} (h : excCB K D = true) : ExcC K D := by
  obtain ⟨h1, h⟩ := and2 h
  obtain ⟨h2, h⟩ := and2 h
  obtain ⟨h3, h⟩ := and2 h
  obtain ⟨h4, h⟩ := and2 h
  obtain ⟨h5, h⟩ := and2 h
  obtain ⟨h6, h⟩ := and2 h
  obtain ⟨h7, h8⟩ := and2 h
  exact ⟨He.eqO_ok h1, He.eqO_ok h2, of_decide_eq_true h3, h4, He.eqO_ok h5, He.eqO_ok h6, of_decide_eq_true h7, of_decide_eq_true h8⟩
def kdB (K : PySem.W.Frag) (d : Addr) (kvs : List (Str × Str)) : Bool := kvs.all fun p => match PySem.W.nsIn K d p.1 with
  | some (some (.str y _)) => decide (y = p.2)
  | _ => false
theorem kdB_ok {K : PySem.W.Frag} {d : Addr} {kvs : List (Str × Str)} (h : kdB K d kvs = true) : KTab K d kvs := fun p hp => by
  have := List.all_eq_true.mp h p hp
  split at this
  · rename_i y t e
    exact ⟨_, e, _, by rw [of_decide_eq_true this]⟩
  · cases this
def xtB (K : PySem.W.Frag) (tab : List (Str × Str × Bool)) : Bool := tab.all fun p => excCB K (He.ga K p.1) && decide (PySem.W.kitOne K (.ref (He.ga K p.1)) (.ref (He.ga K p.2.1)) = some p.2.2)
theorem code_of {K : PySem.W.Frag} {x qual : Str} {params : Arguments} {body : List Stmt} {scope : Scope} {p : Str × Option Str} {fd : FuncData} (F : FunD K x qual params body scope [] [] (He.fAd K p) fd) : fd.code = .ref (He.cT K p).1 := by
  obtain ⟨oc, od, dV, kV, doc, pm, an, cdv, ct, osl, rfl, lk, hcd, _, _⟩ := F.ex
  obtain ⟨c, rfl⟩ := He.codeIn_ref hcd
  rw [show (He.cT K p).1 = c from He.codeOf_eq lk rfl]
def tf : List He.Defn := [("_law_turns_right", none)]
def TT (K : PySem.W.Frag) : List (Addr × Str) := [((He.cT K ("_law_turns_right", none)).2, lq "_law_turns_right")]
def ex (K : PySem.W.Frag) : Bool := xtB K XT && (kdB K (He.ga K "PARTNERS") ([([97], [116]), ([99], [103]), ([103], [99]), ([116], [97])].map fun p : List Nat × List Nat => (S p.1, S p.2)))
def ts : List He.Tab := [((fun K => He.ga K "PARTNERS"), ["a", "c", "g", "t"])]
abbrev RR : PySem.W.OpenRow := PySem.W.OpenLaw.row PySem.Challenge.rw_readhouse_k04_turns_and_pieces_of_rings
abbrev hk : PySem.W.Hook := He.hookX 4 fa fn ts tf ex
def ob (s : PySem.W.SharedT) : He.AlX := He.obsX 4 fa fn ts tf ex (HandSHeadRun.getT s)
theorem ob_eq (s : PySem.W.SharedT) : ob s = hk.obs s.abs := He.obsX_eq (HandSHeadRun.getT_eq s)
def loose : List Str := (["ReadError", "BadWord", "BadRing", "BadLength", "BadIndex", "LETTERS", "PARTNERS", "MOST_LETTERS", "is_integer", "is_between", "is_line", "is_word", "need_word", "need_length", "counted", "strand_of", "turn_of", "least_turn", "is_ring", "need_ring", "turn", "ring_of", "read_on", "ring_stretches"] : List Str) ++ (["ring_places", "ring_occurrences", "ring_pieces", "ring_strand", "_law_begun", "_law_mixed", "_law_take", "_law_pick", "_law_caught", "_law_signs", "_law_letters", "_law_text", "_law_turns", "_law_least_turn", "_law_read_on", "_law_ring_runs", "_law_counted", "_law_other_strand", "_law_odd", "_law_turns_right", "_law_pieces_right"] : List Str)
theorem run0 (w : World) : HandSHeadRun.RunEq RR (PySem.W.view RR.prog [49]) hk ob 3000 loose (updW false w) := by
  intro os
  kernel_rfl
theorem run1 (w : World) : HandSHeadRun.RunEq RR (PySem.W.view RR.prog [49]) hk ob 3000 loose (updW true w) := by
  intro os
  kernel_rfl
theorem run (w : World) : HandSHeadRun.RunEq RR (PySem.W.view RR.prog [49]) hk ob 3000 loose w := run_updW run0 run1 w
theorem facts {P : Program} {w : World} {K : PySem.W.Frag} {h : Heap} {mg : Str → Option Value} {f : Addr} (X : K.In h) (G : h.Ns mainGlobals mg) (hfa : mg ("law" : Str) = some (.ref f)) (c : He.SaysX fa fn ts tf ex w h K) :
    ∃ fd : FuncData, (∀ (s : Shared) (v : Value), BindsTo s fd ⟨[v], []⟩ [("_law_script", v)]) ∧
      ∀ base : Heap, K.In base → base.Ns mainGlobals mg → (∀ p ∈ tf.map (He.cT K), LamX.TabB base mg p.1 p.2) → FnG P w K mg base (L2.CX P w) 9 f fd ["_law_script"] (spM ⟨K, He.ga K, TT K⟩ m_law) := by
  have more : (xtB K XT && (kdB K (He.ga K "PARTNERS") ([([97], [116]), ([99], [103]), ([103], [99]), ([116], [97])].map fun p : List Nat × List Nat => (S p.1, S p.2)))) = true := c.more
  obtain ⟨y0, more⟩ := and2 more
  have y1 := more
  have hXT : XTab ⟨K, He.ga K, TT K⟩ XT := fun p hp => by
    have := List.all_eq_true.mp y0 p hp
    rw [Bool.and_eq_true] at this
    exact ⟨excCB_ok this.1, of_decide_eq_true this.2⟩
  have KT_PARTNERS := kdB_ok y1
  have KD_PARTNERS : ∃ es n, KDict K w (He.ga K "PARTNERS") es n := c.t.tab 0
  have B : Blt mg := ⟨He.free_ok X G (c.t.d.fact 38 (f := .free "abs") rfl), He.free_ok X G (c.t.d.fact 39 (f := .free "all") rfl), He.free_ok X G (c.t.d.fact 40 (f := .free "any") rfl), He.free_ok X G (c.t.d.fact 41 (f := .free "bool") rfl), He.free_ok X G (c.t.d.fact 42 (f := .free "dict") rfl), He.free_ok X G (c.t.d.fact 43 (f := .free "enumerate") rfl), He.free_ok X G (c.t.d.fact 44 (f := .free "int") rfl), He.free_ok X G (c.t.d.fact 45 (f := .free "isinstance") rfl), He.free_ok X G (c.t.d.fact 46 (f := .free "len") rfl), He.free_ok X G (c.t.d.fact 47 (f := .free "list") rfl), He.free_ok X G (c.t.d.fact 48 (f := .free "max") rfl), He.free_ok X G (c.t.d.fact 49 (f := .free "min") rfl), He.free_ok X G (c.t.d.fact 50 (f := .free "range") rfl), He.free_ok X G (c.t.d.fact 51 (f := .free "repr") rfl), He.free_ok X G (c.t.d.fact 52 (f := .free "set") rfl), He.free_ok X G (c.t.d.fact 53 (f := .free "sorted") rfl), He.free_ok X G (c.t.d.fact 54 (f := .free "str") rfl), He.free_ok X G (c.t.d.fact 55 (f := .free "sum") rfl), He.free_ok X G (c.t.d.fact 56 (f := .free "tuple") rfl), He.free_ok X G (c.t.d.fact 57 (f := .free "zip") rfl)⟩
  have G_BadIndex := He.glo_ok X G (c.t.d.fact 58 (f := .glo "BadIndex") rfl)
  have G_BadLength := He.glo_ok X G (c.t.d.fact 59 (f := .glo "BadLength") rfl)
  have G_BadRing := He.glo_ok X G (c.t.d.fact 60 (f := .glo "BadRing") rfl)
  have G_BadWord := He.glo_ok X G (c.t.d.fact 61 (f := .glo "BadWord") rfl)
  have G_PARTNERS := He.glo_ok X G (c.t.d.fact 62 (f := .glo "PARTNERS") rfl)
  have G_ReadError := He.glo_ok X G (c.t.d.fact 63 (f := .glo "ReadError") rfl)
  have x_BadIndex : ExcIs K mg "BadIndex" (He.ga K "BadIndex") := ⟨G_BadIndex, He.exc_ok (c.t.d.fact 64 (f := .exc "BadIndex") rfl)⟩
  have x_BadLength : ExcIs K mg "BadLength" (He.ga K "BadLength") := ⟨G_BadLength, He.exc_ok (c.t.d.fact 65 (f := .exc "BadLength") rfl)⟩
  have x_BadRing : ExcIs K mg "BadRing" (He.ga K "BadRing") := ⟨G_BadRing, He.exc_ok (c.t.d.fact 66 (f := .exc "BadRing") rfl)⟩
  have x_BadWord : ExcIs K mg "BadWord" (He.ga K "BadWord") := ⟨G_BadWord, He.exc_ok (c.t.d.fact 67 (f := .exc "BadWord") rfl)⟩
  have g_LETTERS : ∃ t, mg "LETTERS" = some (.str "acgt" t) := He.str_ok X G (c.t.d.fact 68 (f := .str "LETTERS" "acgt") rfl)
  have g_MOST_LETTERS : ∃ t, mg "MOST_LETTERS" = some (.int 120 t) := He.int_ok X G (c.t.d.fact 69 (f := .int "MOST_LETTERS" 120) rfl)
  have hCAT : ∀ C ∈ CAT, PySem.W.exmOne K (.ref (He.ga K C)) (.ref (He.ga K "ReadError")) = some true := fun C hC => by
    simp only [CAT, List.mem_cons, List.not_mem_nil, or_false] at hC
    rcases hC with rfl | rfl | rfl | rfl
    · exact He.exm_ok (c.t.d.fact 70 (f := .exm "BadWord" "ReadError" true) rfl)
    · exact He.exm_ok (c.t.d.fact 71 (f := .exm "BadRing" "ReadError" true) rfl)
    · exact He.exm_ok (c.t.d.fact 72 (f := .exm "BadLength" "ReadError" true) rfl)
    · exact He.exm_ok (c.t.d.fact 73 (f := .exm "BadIndex" "ReadError" true) rfl)
  obtain ⟨fd_is_integer, D_is_integer⟩ := c.t.d.def_ 0 (d := d_is_integer) rfl
  obtain ⟨fd_is_between, D_is_between⟩ := c.t.d.def_ 1 (d := d_is_between) rfl
  obtain ⟨fd_is_line, D_is_line⟩ := c.t.d.def_ 2 (d := d_is_line) rfl
  obtain ⟨fd_is_word, D_is_word⟩ := c.t.d.def_ 3 (d := d_is_word) rfl
  obtain ⟨fd_need_word, D_need_word⟩ := c.t.d.def_ 4 (d := d_need_word) rfl
  obtain ⟨fd_need_length, D_need_length⟩ := c.t.d.def_ 5 (d := d_need_length) rfl
  obtain ⟨fd_counted, D_counted⟩ := c.t.d.def_ 6 (d := d_counted) rfl
  obtain ⟨fd_strand_of, D_strand_of⟩ := c.t.d.def_ 7 (d := d_strand_of) rfl
  obtain ⟨fd_turn_of, D_turn_of⟩ := c.t.d.def_ 8 (d := d_turn_of) rfl
  obtain ⟨fd_least_turn, D_least_turn⟩ := c.t.d.def_ 9 (d := d_least_turn) rfl
  obtain ⟨fd_is_ring, D_is_ring⟩ := c.t.d.def_ 10 (d := d_is_ring) rfl
  obtain ⟨fd_need_ring, D_need_ring⟩ := c.t.d.def_ 11 (d := d_need_ring) rfl
  obtain ⟨fd_turn, D_turn⟩ := c.t.d.def_ 12 (d := d_turn) rfl
  obtain ⟨fd_ring_of, D_ring_of⟩ := c.t.d.def_ 13 (d := d_ring_of) rfl
  obtain ⟨fd_read_on, D_read_on⟩ := c.t.d.def_ 14 (d := d_read_on) rfl
  obtain ⟨fd_ring_stretches, D_ring_stretches⟩ := c.t.d.def_ 15 (d := d_ring_stretches) rfl
  obtain ⟨fd_ring_places, D_ring_places⟩ := c.t.d.def_ 16 (d := d_ring_places) rfl
  obtain ⟨fd_ring_occurrences, D_ring_occurrences⟩ := c.t.d.def_ 17 (d := d_ring_occurrences) rfl
  obtain ⟨fd_ring_pieces, D_ring_pieces⟩ := c.t.d.def_ 18 (d := d_ring_pieces) rfl
  obtain ⟨fd_ring_strand, D_ring_strand⟩ := c.t.d.def_ 19 (d := d_ring_strand) rfl
  obtain ⟨fd__law_begun, D__law_begun⟩ := c.t.d.def_ 20 (d := d__law_begun) rfl
  obtain ⟨fd__law_mixed, D__law_mixed⟩ := c.t.d.def_ 21 (d := d__law_mixed) rfl
  obtain ⟨fd__law_take, D__law_take⟩ := c.t.d.def_ 22 (d := d__law_take) rfl
  obtain ⟨fd__law_pick, D__law_pick⟩ := c.t.d.def_ 23 (d := d__law_pick) rfl
  obtain ⟨fd__law_caught, D__law_caught⟩ := c.t.d.def_ 24 (d := d__law_caught) rfl
  obtain ⟨fd__law_signs, D__law_signs⟩ := c.t.d.def_ 25 (d := d__law_signs) rfl
  obtain ⟨fd__law_letters, D__law_letters⟩ := c.t.d.def_ 26 (d := d__law_letters) rfl
  obtain ⟨fd__law_text, D__law_text⟩ := c.t.d.def_ 27 (d := d__law_text) rfl
  obtain ⟨fd__law_turns, D__law_turns⟩ := c.t.d.def_ 28 (d := d__law_turns) rfl
  obtain ⟨fd__law_least_turn, D__law_least_turn⟩ := c.t.d.def_ 29 (d := d__law_least_turn) rfl
  obtain ⟨fd__law_read_on, D__law_read_on⟩ := c.t.d.def_ 30 (d := d__law_read_on) rfl
  obtain ⟨fd__law_ring_runs, D__law_ring_runs⟩ := c.t.d.def_ 31 (d := d__law_ring_runs) rfl
  obtain ⟨fd__law_counted, D__law_counted⟩ := c.t.d.def_ 32 (d := d__law_counted) rfl
  obtain ⟨fd__law_other_strand, D__law_other_strand⟩ := c.t.d.def_ 33 (d := d__law_other_strand) rfl
  obtain ⟨fd__law_odd, D__law_odd⟩ := c.t.d.def_ 34 (d := d__law_odd) rfl
  obtain ⟨fd__law_turns_right, D__law_turns_right⟩ := c.t.d.def_ 35 (d := d__law_turns_right) rfl
  obtain ⟨fd__law_pieces_right, D__law_pieces_right⟩ := c.t.d.def_ 36 (d := d__law_pieces_right) rfl
  obtain ⟨fd_law, D_law⟩ := c.t.d.def_ 37 (d := d_law) rfl
  have G_is_integer := He.glo_ok X G (c.t.d.fact 0 (f := .glo "is_integer") rfl)
  have G_is_between := He.glo_ok X G (c.t.d.fact 1 (f := .glo "is_between") rfl)
  have G_is_line := He.glo_ok X G (c.t.d.fact 2 (f := .glo "is_line") rfl)
  have G_is_word := He.glo_ok X G (c.t.d.fact 3 (f := .glo "is_word") rfl)
  have G_need_word := He.glo_ok X G (c.t.d.fact 4 (f := .glo "need_word") rfl)
  have G_need_length := He.glo_ok X G (c.t.d.fact 5 (f := .glo "need_length") rfl)
  have G_counted := He.glo_ok X G (c.t.d.fact 6 (f := .glo "counted") rfl)
  have G_strand_of := He.glo_ok X G (c.t.d.fact 7 (f := .glo "strand_of") rfl)
  have G_turn_of := He.glo_ok X G (c.t.d.fact 8 (f := .glo "turn_of") rfl)
  have G_least_turn := He.glo_ok X G (c.t.d.fact 9 (f := .glo "least_turn") rfl)
  have G_is_ring := He.glo_ok X G (c.t.d.fact 10 (f := .glo "is_ring") rfl)
  have G_need_ring := He.glo_ok X G (c.t.d.fact 11 (f := .glo "need_ring") rfl)
  have G_turn := He.glo_ok X G (c.t.d.fact 12 (f := .glo "turn") rfl)
  have G_ring_of := He.glo_ok X G (c.t.d.fact 13 (f := .glo "ring_of") rfl)
  have G_read_on := He.glo_ok X G (c.t.d.fact 14 (f := .glo "read_on") rfl)
  have G_ring_stretches := He.glo_ok X G (c.t.d.fact 15 (f := .glo "ring_stretches") rfl)
  have G_ring_places := He.glo_ok X G (c.t.d.fact 16 (f := .glo "ring_places") rfl)
  have G_ring_occurrences := He.glo_ok X G (c.t.d.fact 17 (f := .glo "ring_occurrences") rfl)
  have G_ring_pieces := He.glo_ok X G (c.t.d.fact 18 (f := .glo "ring_pieces") rfl)
  have G_ring_strand := He.glo_ok X G (c.t.d.fact 19 (f := .glo "ring_strand") rfl)
  have G__law_begun := He.glo_ok X G (c.t.d.fact 20 (f := .glo "_law_begun") rfl)
  have G__law_mixed := He.glo_ok X G (c.t.d.fact 21 (f := .glo "_law_mixed") rfl)
  have G__law_take := He.glo_ok X G (c.t.d.fact 22 (f := .glo "_law_take") rfl)
  have G__law_pick := He.glo_ok X G (c.t.d.fact 23 (f := .glo "_law_pick") rfl)
  have G__law_caught := He.glo_ok X G (c.t.d.fact 24 (f := .glo "_law_caught") rfl)
  have G__law_signs := He.glo_ok X G (c.t.d.fact 25 (f := .glo "_law_signs") rfl)
  have G__law_letters := He.glo_ok X G (c.t.d.fact 26 (f := .glo "_law_letters") rfl)
  have G__law_text := He.glo_ok X G (c.t.d.fact 27 (f := .glo "_law_text") rfl)
  have G__law_turns := He.glo_ok X G (c.t.d.fact 28 (f := .glo "_law_turns") rfl)
  have G__law_least_turn := He.glo_ok X G (c.t.d.fact 29 (f := .glo "_law_least_turn") rfl)
  have G__law_read_on := He.glo_ok X G (c.t.d.fact 30 (f := .glo "_law_read_on") rfl)
  have G__law_ring_runs := He.glo_ok X G (c.t.d.fact 31 (f := .glo "_law_ring_runs") rfl)
  have G__law_counted := He.glo_ok X G (c.t.d.fact 32 (f := .glo "_law_counted") rfl)
  have G__law_other_strand := He.glo_ok X G (c.t.d.fact 33 (f := .glo "_law_other_strand") rfl)
  have G__law_odd := He.glo_ok X G (c.t.d.fact 34 (f := .glo "_law_odd") rfl)
  have G__law_turns_right := He.glo_ok X G (c.t.d.fact 35 (f := .glo "_law_turns_right") rfl)
  have G__law_pieces_right := He.glo_ok X G (c.t.d.fact 36 (f := .glo "_law_pieces_right") rfl)
  have G_law := He.glo_ok X G (c.t.d.fact 37 (f := .glo "law") rfl)
  have e := hfa.symm.trans G_law
  cases e
  have b := FunD.bindsA (ps := ["_law_script"]) D_law fun _ _ _ _ _ _ us hl => match us, hl with | [_], _ => rfl
  refine ⟨fd_law, fun s v => b s [v] rfl, fun base _ _ TB => ?_⟩
  have TB__law_turns_right := TB (He.cT K ("_law_turns_right", none)) (List.mem_cons_self ..)
  have u__law_turns_right : ∀ p ∈ TT K, p.1 = (He.cT K ("_law_turns_right", none)).2 → p.2 = lq "_law_turns_right" := fun p hp e => by
    simp only [TT, List.mem_cons, List.not_mem_nil, or_false] at hp
    rcases hp with rfl
    · rfl
  have F_is_integer : FnIs P w K mg base 1 "is_integer" ["value"] (spM ⟨K, He.ga K, TT K⟩ m_is_integer) := ⟨_, fd_is_integer, lk_is_integer (k := ⟨K, He.ga K, TT K⟩) B hXT D_is_integer, G_is_integer, D_is_integer.kp, D_is_integer.bindsN fun _ _ _ _ _ _ us hl => match us, hl with | [_], _ => rfl⟩
  have F_is_line : FnIs P w K mg base 1 "is_line" ["value"] (spM ⟨K, He.ga K, TT K⟩ m_is_line) := ⟨_, fd_is_line, lk_is_line (k := ⟨K, He.ga K, TT K⟩) B g_LETTERS hXT D_is_line, G_is_line, D_is_line.kp, D_is_line.bindsN fun _ _ _ _ _ _ us hl => match us, hl with | [_], _ => rfl⟩
  have F_counted : FnIs P w K mg base 1 "counted" ["some"] (spM ⟨K, He.ga K, TT K⟩ m_counted) := ⟨_, fd_counted, lk_counted (k := ⟨K, He.ga K, TT K⟩) B D_counted, G_counted, D_counted.kp, D_counted.bindsN fun _ _ _ _ _ _ us hl => match us, hl with | [_], _ => rfl⟩
  have F_strand_of : FnIs P w K mg base 1 "strand_of" ["text"] (spM ⟨K, He.ga K, TT K⟩ m_strand_of) := ⟨_, fd_strand_of, lk_strand_of (k := ⟨K, He.ga K, TT K⟩) B G_PARTNERS KD_PARTNERS KT_PARTNERS D_strand_of, G_strand_of, D_strand_of.kp, D_strand_of.bindsN fun _ _ _ _ _ _ us hl => match us, hl with | [_], _ => rfl⟩
  have F_turn_of : FnIs P w K mg base 1 "turn_of" ["text", "number"] (spM ⟨K, He.ga K, TT K⟩ m_turn_of) := ⟨_, fd_turn_of, lk_turn_of (k := ⟨K, He.ga K, TT K⟩) B D_turn_of, G_turn_of, D_turn_of.kp, D_turn_of.bindsN fun _ _ _ _ _ _ us hl => match us, hl with | [_, _], _ => rfl⟩
  have F_read_on : FnIs P w K mg base 1 "read_on" ["text", "at", "length"] (spM ⟨K, He.ga K, TT K⟩ m_read_on) := ⟨_, fd_read_on, lk_read_on (k := ⟨K, He.ga K, TT K⟩) B D_read_on, G_read_on, D_read_on.kp, D_read_on.bindsN fun _ _ _ _ _ _ us hl => match us, hl with | [_, _, _], _ => rfl⟩
  have F__law_begun : FnIs P w K mg base 1 "_law_begun" ["_law_script"] (spM ⟨K, He.ga K, TT K⟩ m_begun) := ⟨_, fd__law_begun, lk__law_begun (k := ⟨K, He.ga K, TT K⟩) B D__law_begun, G__law_begun, D__law_begun.kp, D__law_begun.bindsN fun _ _ _ _ _ _ us hl => match us, hl with | [_], _ => rfl⟩
  have F__law_mixed : FnIs P w K mg base 1 "_law_mixed" ["_law_draw"] (sp__law_mixed K (He.ga K)) := ⟨_, fd__law_mixed, lk__law_mixed (k := ⟨K, He.ga K, TT K⟩) B D__law_mixed, G__law_mixed, D__law_mixed.kp, D__law_mixed.bindsN fun _ _ _ _ _ _ us hl => match us, hl with | [_], _ => rfl⟩
  have F__law_turns : FnIs P w K mg base 1 "_law_turns" ["_law_text_here"] (spM ⟨K, He.ga K, TT K⟩ m__law_turns) := ⟨_, fd__law_turns, lk__law_turns (k := ⟨K, He.ga K, TT K⟩) B D__law_turns, G__law_turns, D__law_turns.kp, D__law_turns.bindsN fun _ _ _ _ _ _ us hl => match us, hl with | [_], _ => rfl⟩
  have F__law_read_on : FnIs P w K mg base 1 "_law_read_on" ["_law_text_here", "_law_at", "_law_many"] (spM ⟨K, He.ga K, TT K⟩ m__law_read_on) := ⟨_, fd__law_read_on, lk__law_read_on (k := ⟨K, He.ga K, TT K⟩) B D__law_read_on, G__law_read_on, D__law_read_on.kp, D__law_read_on.bindsN fun _ _ _ _ _ _ us hl => match us, hl with | [_, _, _], _ => rfl⟩
  have F__law_counted : FnIs P w K mg base 1 "_law_counted" ["_law_some"] (spM ⟨K, He.ga K, TT K⟩ m__law_counted) := ⟨_, fd__law_counted, lk__law_counted (k := ⟨K, He.ga K, TT K⟩) B D__law_counted, G__law_counted, D__law_counted.kp, D__law_counted.bindsN fun _ _ _ _ _ _ us hl => match us, hl with | [_], _ => rfl⟩
  have F__law_other_strand : FnIs P w K mg base 1 "_law_other_strand" ["_law_text_here"] (spM ⟨K, He.ga K, TT K⟩ m__law_other_strand) := ⟨_, fd__law_other_strand, lk__law_other_strand (k := ⟨K, He.ga K, TT K⟩) B D__law_other_strand, G__law_other_strand, D__law_other_strand.kp, D__law_other_strand.bindsN fun _ _ _ _ _ _ us hl => match us, hl with | [_], _ => rfl⟩
  have F_is_between : FnIs P w K mg base 2 "is_between" ["value", "least", "most"] (spM ⟨K, He.ga K, TT K⟩ m_is_between) := ⟨_, fd_is_between, lk_is_between (k := ⟨K, He.ga K, TT K⟩) B F_is_integer D_is_between, G_is_between, D_is_between.kp, D_is_between.bindsN fun _ _ _ _ _ _ us hl => match us, hl with | [_, _, _], _ => rfl⟩
  have F_is_word : FnIs P w K mg base 2 "is_word" ["value"] (spM ⟨K, He.ga K, TT K⟩ m_is_word) := ⟨_, fd_is_word, lk_is_word (k := ⟨K, He.ga K, TT K⟩) B F_is_line D_is_word, G_is_word, D_is_word.kp, D_is_word.bindsN fun _ _ _ _ _ _ us hl => match us, hl with | [_], _ => rfl⟩
  have F_least_turn : FnIs P w K mg base 2 "least_turn" ["text"] (spM ⟨K, He.ga K, TT K⟩ m_least_turn) := ⟨_, fd_least_turn, lk_least_turn (k := ⟨K, He.ga K, TT K⟩) B F_turn_of D_least_turn, G_least_turn, D_least_turn.kp, D_least_turn.bindsN fun _ _ _ _ _ _ us hl => match us, hl with | [_], _ => rfl⟩
  have F_ring_stretches : FnIs P w K mg base 2 "ring_stretches" ["text", "length"] (spM ⟨K, He.ga K, TT K⟩ m_ring_stretches) := ⟨_, fd_ring_stretches, lk_ring_stretches (k := ⟨K, He.ga K, TT K⟩) B F_read_on D_ring_stretches, G_ring_stretches, D_ring_stretches.kp, D_ring_stretches.bindsN fun _ _ _ _ _ _ us hl => match us, hl with | [_, _], _ => rfl⟩
  have F__law_take : FnIs P w K mg base 2 "_law_take" ["_law_draw", "_law_total"] (spM ⟨K, He.ga K, TT K⟩ m_take) := ⟨_, fd__law_take, lk__law_take (k := ⟨K, He.ga K, TT K⟩) B F__law_mixed D__law_take, G__law_take, D__law_take.kp, D__law_take.bindsN fun _ _ _ _ _ _ us hl => match us, hl with | [_, _], _ => rfl⟩
  have F__law_least_turn : FnIs P w K mg base 2 "_law_least_turn" ["_law_text_here"] (spM ⟨K, He.ga K, TT K⟩ m__law_least_turn) := ⟨_, fd__law_least_turn, lk__law_least_turn (k := ⟨K, He.ga K, TT K⟩) B F__law_turns D__law_least_turn, G__law_least_turn, D__law_least_turn.kp, D__law_least_turn.bindsN fun _ _ _ _ _ _ us hl => match us, hl with | [_], _ => rfl⟩
  have F__law_ring_runs : FnIs P w K mg base 2 "_law_ring_runs" ["_law_text_here", "_law_many"] (spM ⟨K, He.ga K, TT K⟩ m__law_ring_runs) := ⟨_, fd__law_ring_runs, lk__law_ring_runs (k := ⟨K, He.ga K, TT K⟩) B F__law_read_on D__law_ring_runs, G__law_ring_runs, D__law_ring_runs.kp, D__law_ring_runs.bindsN fun _ _ _ _ _ _ us hl => match us, hl with | [_, _], _ => rfl⟩
  have F_need_word : FnIs P w K mg base 3 "need_word" ["word"] (spM ⟨K, He.ga K, TT K⟩ m_need_word) := ⟨_, fd_need_word, lk_need_word (k := ⟨K, He.ga K, TT K⟩) B F_is_word x_BadWord D_need_word, G_need_word, D_need_word.kp, D_need_word.bindsN fun _ _ _ _ _ _ us hl => match us, hl with | [_], _ => rfl⟩
  have F_need_length : FnIs P w K mg base 3 "need_length" ["length"] (spM ⟨K, He.ga K, TT K⟩ m_need_length) := ⟨_, fd_need_length, lk_need_length (k := ⟨K, He.ga K, TT K⟩) B F_is_between x_BadLength g_MOST_LETTERS D_need_length, G_need_length, D_need_length.kp, D_need_length.bindsN fun _ _ _ _ _ _ us hl => match us, hl with | [_], _ => rfl⟩
  have F_is_ring : FnIs P w K mg base 3 "is_ring" ["value"] (spM ⟨K, He.ga K, TT K⟩ m_is_ring) := ⟨_, fd_is_ring, lk_is_ring (k := ⟨K, He.ga K, TT K⟩) B F_is_word F_least_turn D_is_ring, G_is_ring, D_is_ring.kp, D_is_ring.bindsN fun _ _ _ _ _ _ us hl => match us, hl with | [_], _ => rfl⟩
  have K_is_ring_0_value : FnKw P w K mg base 3 "is_ring" ["value"] (spM ⟨K, He.ga K, TT K⟩ m_is_ring) 0 ["value"] [0] := ⟨_, fd_is_ring, lk_is_ring (k := ⟨K, He.ga K, TT K⟩) B F_is_word F_least_turn D_is_ring, G_is_ring, D_is_ring.kp, kb_of D_is_ring 0 ["value"] [0] fun _ _ _ _ _ _ us ws hl hw => match us, ws, hl, hw with | [], [_], _, _ => rfl⟩
  have F_ring_places : FnIs P w K mg base 3 "ring_places" ["text", "piece"] (spM ⟨K, He.ga K, TT K⟩ m_ring_places) := ⟨_, fd_ring_places, lk_ring_places (k := ⟨K, He.ga K, TT K⟩) B F_ring_stretches D_ring_places, G_ring_places, D_ring_places.kp, D_ring_places.bindsN fun _ _ _ _ _ _ us hl => match us, hl with | [_, _], _ => rfl⟩
  have F__law_pick : FnIs P w K mg base 3 "_law_pick" ["_law_draw", "_law_some"] (spM ⟨K, He.ga K, TT K⟩ m__law_pick) := ⟨_, fd__law_pick, lk__law_pick (k := ⟨K, He.ga K, TT K⟩) B F__law_take D__law_pick, G__law_pick, D__law_pick.kp, D__law_pick.bindsN fun _ _ _ _ _ _ us hl => match us, hl with | [_, _], _ => rfl⟩
  have F_need_ring : FnIs P w K mg base 4 "need_ring" ["ring"] (spM ⟨K, He.ga K, TT K⟩ m_need_ring) := ⟨_, fd_need_ring, lk_need_ring (k := ⟨K, He.ga K, TT K⟩) B F_is_ring x_BadRing D_need_ring, G_need_ring, D_need_ring.kp, D_need_ring.bindsN fun _ _ _ _ _ _ us hl => match us, hl with | [_], _ => rfl⟩
  have F_turn : FnIs P w K mg base 4 "turn" ["word", "number"] (spM ⟨K, He.ga K, TT K⟩ m_turn) := ⟨_, fd_turn, lk_turn (k := ⟨K, He.ga K, TT K⟩) B F_need_word F_is_between F_turn_of x_BadIndex D_turn, G_turn, D_turn.kp, D_turn.bindsN fun _ _ _ _ _ _ us hl => match us, hl with | [_, _], _ => rfl⟩
  have K_turn_0_number_word : FnKw P w K mg base 4 "turn" ["word", "number"] (spM ⟨K, He.ga K, TT K⟩ m_turn) 0 ["number", "word"] [1, 0] := ⟨_, fd_turn, lk_turn (k := ⟨K, He.ga K, TT K⟩) B F_need_word F_is_between F_turn_of x_BadIndex D_turn, G_turn, D_turn.kp, kb_of D_turn 0 ["number", "word"] [1, 0] fun _ _ _ _ _ _ us ws hl hw => match us, ws, hl, hw with | [], [_, _], _, _ => rfl⟩
  have F_ring_of : FnIs P w K mg base 4 "ring_of" ["word"] (spM ⟨K, He.ga K, TT K⟩ m_ring_of) := ⟨_, fd_ring_of, lk_ring_of (k := ⟨K, He.ga K, TT K⟩) B F_need_word F_least_turn D_ring_of, G_ring_of, D_ring_of.kp, D_ring_of.bindsN fun _ _ _ _ _ _ us hl => match us, hl with | [_], _ => rfl⟩
  have K_ring_of_0_word : FnKw P w K mg base 4 "ring_of" ["word"] (spM ⟨K, He.ga K, TT K⟩ m_ring_of) 0 ["word"] [0] := ⟨_, fd_ring_of, lk_ring_of (k := ⟨K, He.ga K, TT K⟩) B F_need_word F_least_turn D_ring_of, G_ring_of, D_ring_of.kp, kb_of D_ring_of 0 ["word"] [0] fun _ _ _ _ _ _ us ws hl hw => match us, ws, hl, hw with | [], [_], _, _ => rfl⟩
  have F__law_signs : FnIs P w K mg base 4 "_law_signs" ["_law_draw"] (spM ⟨K, He.ga K, TT K⟩ m__law_signs) := ⟨_, fd__law_signs, lk__law_signs (k := ⟨K, He.ga K, TT K⟩) B F__law_pick D__law_signs, G__law_signs, D__law_signs.kp, D__law_signs.bindsN fun _ _ _ _ _ _ us hl => match us, hl with | [_], _ => rfl⟩
  have F__law_letters : FnIs P w K mg base 4 "_law_letters" ["_law_draw", "_law_signs_here", "_law_many"] (spM ⟨K, He.ga K, TT K⟩ m__law_letters) := ⟨_, fd__law_letters, lk__law_letters (k := ⟨K, He.ga K, TT K⟩) B F__law_pick D__law_letters, G__law_letters, D__law_letters.kp, D__law_letters.bindsN fun _ _ _ _ _ _ us hl => match us, hl with | [_, _, _], _ => rfl⟩
  have F__law_odd : FnIs P w K mg base 4 "_law_odd" ["_law_draw"] (spM ⟨K, He.ga K, TT K⟩ m__law_odd) := ⟨_, fd__law_odd, lk__law_odd (k := ⟨K, He.ga K, TT K⟩) B F__law_pick D__law_odd, G__law_odd, D__law_odd.kp, D__law_odd.bindsN fun _ _ _ _ _ _ us hl => match us, hl with | [_], _ => rfl⟩
  have F_ring_occurrences : FnIs P w K mg base 5 "ring_occurrences" ["ring", "piece"] (spM ⟨K, He.ga K, TT K⟩ m_ring_occurrences) := ⟨_, fd_ring_occurrences, lk_ring_occurrences (k := ⟨K, He.ga K, TT K⟩) B F_need_ring F_need_word F_ring_places D_ring_occurrences, G_ring_occurrences, D_ring_occurrences.kp, D_ring_occurrences.bindsN fun _ _ _ _ _ _ us hl => match us, hl with | [_, _], _ => rfl⟩
  have K_ring_occurrences_0_piece_ring : FnKw P w K mg base 5 "ring_occurrences" ["ring", "piece"] (spM ⟨K, He.ga K, TT K⟩ m_ring_occurrences) 0 ["piece", "ring"] [1, 0] := ⟨_, fd_ring_occurrences, lk_ring_occurrences (k := ⟨K, He.ga K, TT K⟩) B F_need_ring F_need_word F_ring_places D_ring_occurrences, G_ring_occurrences, D_ring_occurrences.kp, kb_of D_ring_occurrences 0 ["piece", "ring"] [1, 0] fun _ _ _ _ _ _ us ws hl hw => match us, ws, hl, hw with | [], [_, _], _, _ => rfl⟩
  have F_ring_pieces : FnIs P w K mg base 5 "ring_pieces" ["ring", "length"] (spM ⟨K, He.ga K, TT K⟩ m_ring_pieces) := ⟨_, fd_ring_pieces, lk_ring_pieces (k := ⟨K, He.ga K, TT K⟩) B F_need_ring F_need_length F_counted F_ring_stretches D_ring_pieces, G_ring_pieces, D_ring_pieces.kp, D_ring_pieces.bindsN fun _ _ _ _ _ _ us hl => match us, hl with | [_, _], _ => rfl⟩
  have K_ring_pieces_0_length_ring : FnKw P w K mg base 5 "ring_pieces" ["ring", "length"] (spM ⟨K, He.ga K, TT K⟩ m_ring_pieces) 0 ["length", "ring"] [1, 0] := ⟨_, fd_ring_pieces, lk_ring_pieces (k := ⟨K, He.ga K, TT K⟩) B F_need_ring F_need_length F_counted F_ring_stretches D_ring_pieces, G_ring_pieces, D_ring_pieces.kp, kb_of D_ring_pieces 0 ["length", "ring"] [1, 0] fun _ _ _ _ _ _ us ws hl hw => match us, ws, hl, hw with | [], [_, _], _, _ => rfl⟩
  have F_ring_strand : FnIs P w K mg base 5 "ring_strand" ["ring"] (spM ⟨K, He.ga K, TT K⟩ m_ring_strand) := ⟨_, fd_ring_strand, lk_ring_strand (k := ⟨K, He.ga K, TT K⟩) B F_need_ring F_least_turn F_strand_of D_ring_strand, G_ring_strand, D_ring_strand.kp, D_ring_strand.bindsN fun _ _ _ _ _ _ us hl => match us, hl with | [_], _ => rfl⟩
  have K_ring_strand_0_ring : FnKw P w K mg base 5 "ring_strand" ["ring"] (spM ⟨K, He.ga K, TT K⟩ m_ring_strand) 0 ["ring"] [0] := ⟨_, fd_ring_strand, lk_ring_strand (k := ⟨K, He.ga K, TT K⟩) B F_need_ring F_least_turn F_strand_of D_ring_strand, G_ring_strand, D_ring_strand.kp, kb_of D_ring_strand 0 ["ring"] [0] fun _ _ _ _ _ _ us ws hl hw => match us, ws, hl, hw with | [], [_], _, _ => rfl⟩
  have F__law_text : FnIs P w K mg base 5 "_law_text" ["_law_draw", "_law_most"] (spM ⟨K, He.ga K, TT K⟩ m__law_text) := ⟨_, fd__law_text, lk__law_text (k := ⟨K, He.ga K, TT K⟩) B F__law_take F__law_signs F__law_letters F__law_pick D__law_text, G__law_text, D__law_text.kp, D__law_text.bindsN fun _ _ _ _ _ _ us hl => match us, hl with | [_, _], _ => rfl⟩
  have F__law_pieces_right : FnIs P w K mg base 6 "_law_pieces_right" ["_law_script"] (spM ⟨K, He.ga K, TT K⟩ m__law_pieces_right) := ⟨_, fd__law_pieces_right, lk__law_pieces_right (k := ⟨K, He.ga K, TT K⟩) B F__law_begun F__law_least_turn F__law_text F__law_pick F__law_take F__law_read_on F_ring_occurrences F_ring_pieces F__law_counted F__law_ring_runs F_ring_strand F__law_other_strand K_ring_occurrences_0_piece_ring K_ring_pieces_0_length_ring K_ring_strand_0_ring hXT D__law_pieces_right, G__law_pieces_right, D__law_pieces_right.kp, D__law_pieces_right.bindsN fun _ _ _ _ _ _ us hl => match us, hl with | [_], _ => rfl⟩
  have F__law_turns_right : FnGs P w K mg base 8 "_law_turns_right" ["_law_script"] (spM ⟨K, He.ga K, TT K⟩ m__law_turns_right) := ⟨_, fd__law_turns_right, lk__law_turns_right (k := ⟨K, He.ga K, TT K⟩) B F__law_begun F__law_text F__law_pick F__law_least_turn F__law_turns F_turn F__law_take F_ring_of F_is_ring F__law_odd K_ring_of_0_word K_turn_0_number_word K_is_ring_0_value G_BadIndex G_BadWord hXT hCAT G_ReadError G__law_caught D__law_caught (code_of (p := ("_law_turns_right", none)) D__law_turns_right) TB__law_turns_right (List.mem_cons_self ..) u__law_turns_right D__law_turns_right, G__law_turns_right, D__law_turns_right.kp, D__law_turns_right.bindsN fun _ _ _ _ _ _ us hl => match us, hl with | [_], _ => rfl⟩
  exact lk_law (k := ⟨K, He.ga K, TT K⟩) B F__law_turns_right F__law_pieces_right D_law
end Y
open PySem PySem.W PySem.Calls PyProof.Rows
theorem PySem.Challenge.cw_readhouse_k04_turns_and_pieces_of_rings_holds : PySem.Challenge.rw_readhouse_k04_turns_and_pieces_of_rings.Holds := by
  w_on; o_law
  refine HandSHeadRun.head_any (r := OpenLaw.row PySem.Challenge.rw_readhouse_k04_turns_and_pieces_of_rings) (q := view (OpenLaw.row PySem.Challenge.rw_readhouse_k04_turns_and_pieces_of_rings).prog [49]) (H := Y.hk) (ob := Y.ob) (M := 3000) (loose := Y.loose) (d := HandSHeadRun.topDef (OpenLaw.row PySem.Challenge.rw_readhouse_k04_turns_and_pieces_of_rings).prog 49) (kwd := []) Y.ob_eq
    (by kernel_rfl) (fun s => by kernel_rfl) Y.run (by kernel_rfl) (by kernel_rfl) (by kernel_rfl) (by rfl) (by first | assumption | decide +kernel) (by decide +kernel) ⟨rfl, rfl, rfl, rfl, rfl, by decide +kernel⟩ ?hw ?hc
  case hw => w_witness2
  case hc =>
    refine Z.walkG (l := PySem.Challenge.rw_readhouse_k04_turns_and_pieces_of_rings) (n := 63) (k := 9) (x := "_law_script") (C := fun w => L2.CX (PySem.Challenge.rw_readhouse_k04_turns_and_pieces_of_rings).prog w) rfl (by decide) (by kernel_rfl) ⟨rfl, by decide, by decide⟩ ?F (fun _ _ _ _ _ ⟨_, _, _, _, _, _, _, _, _, _, _, _, z⟩ => z)
    intro w mg fa h Yy G hmg0
    obtain ⟨K, KX, c⟩ := Yy
    have hmg : mg ("law" : PySem.Str) = some (.ref fa) := by
      have e : (HandSHeadRun.topDef (OpenLaw.row PySem.Challenge.rw_readhouse_k04_turns_and_pieces_of_rings).prog 49).name = ("law" : PySem.Str) := by kernel_rfl
      rw [← e]
      exact hmg0
    obtain ⟨fd, hb, hF⟩ := Y.facts (P := (PySem.Challenge.rw_readhouse_k04_turns_and_pieces_of_rings).prog) (w := w) KX G hmg c
    refine ⟨K, fd, Y.tf.map (He.cT K), Y.spM ⟨K, He.ga K, Y.TT K⟩ Y.m_law, KX, fun p hp => ?_, fun p hp => ?_, fun p hp => ?_, hb, fun H a ns hl hT hS => Y.law_sp (k := ⟨K, He.ga K, Y.TT K⟩) (fun p hp => ?_) hS (Y.law_pure ns hl), hF⟩
    · obtain ⟨q, hq, rfl⟩ := List.mem_map.mp hp; exact c.empty q hq
    · obtain ⟨q, hq, rfl⟩ := List.mem_map.mp hp; exact c.out q hq
    · obtain ⟨q, hq, rfl⟩ := List.mem_map.mp hp; exact codeHd_of_K KX (c.hd q hq)
    · simp only [Y.TT, List.mem_cons, List.not_mem_nil, or_false] at hp
      rcases hp with rfl
      · exact LamX.TabS.nil (hT (He.cT K ("_law_turns_right", none)) (List.mem_cons_self ..))

