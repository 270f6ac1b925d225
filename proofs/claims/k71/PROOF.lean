import PyProof.Rows.All
import Wide.All
import OpenK.AllK
import Wide.FinOn
import HandS.ForMost
import HandS.Exc
import HandS.ExcOwn
import HandS.WordsExc
import HandS.More
import HandS.Conv
import HandS.Walk
import HandS.DictComp
import HandS.IsInst
import KE.SortData
import KE.DataMinMax
import HandS.HeadHook1
import HandS.HeadHook2
import HandS.Style
import HandS.NoneIn
import KE.KStateDown
import HandS.Ends
import HandS.HeadEnd
import HandS.Defaults
import PyProof.ReprRoads
import HandS.Lambda
import HandS.EndBits
import HandS.EndTab
import HandS.HeadWalk
import HandS.ExcIs
import KE.KRevSl
import PyProof.SliceStr2
import HandS.TupAny
import KE.SortKeyHeap
import KE.KLam
import HandS.ExcValue
import HandS.HeadHook3
import HandS.HeadHook4
import HandS.Head2
import KE.KDictZip
import KE.GoesMore
import KE.GoesZip
import KE.GoesEnum
import HandS.TupSets
import HandS.Strs
import HandS.ExcInit
import HandS.ExcField
import HandS.Property
import PyProof.AssignAttr
import HandS.Star
import HandS.SetKeys
import HandS.MakeKw
import HandS.MakeKwOnly
import PyProof.InstNe
import HandS.Replace
import HandS.SetIn
import HandS.CallLocal
import HandS.Zip
import PyProof.EqKinds
import HandS.OwnEq
import KE.KDictList
import KE.KDictKeyed
import HandS.DictTup
import KE.SortCalls
import KE.KDictWalk
import HandS.Finally
import PyProof.StrLawsRepr
import PyProof.P3Eq
import HandS.Words
import HandS.Head0
import HandS.Head1
import PySem.Challenge.RW_readhouse_k71_deeds_of_a_bench
set_option Elab.async false
set_option linter.all false
set_option maxRecDepth 100000
set_option maxHeartbeats 4000000
namespace Z
open PySem PySem.Spec PyProof.Rows L2

def dicO : HO → Bool
  | .dK _ => true
  | .dT _ => true
  | _ => false
def Le (G G' : Hp) : Prop := ∀ a o, G a = some o → G' a = some o
theorem Le.refl (G : Hp) : Le G G := fun _ _ h => h
theorem Le.trans {G G1 G2 : Hp} (a : Le G G1) (b : Le G1 G2) : Le G G2 := fun x o h => b x o (a x o h)
def In (G H : Hp) : Prop := ∀ a o, G a = some o → H a = some o ∨ (dicO o = true ∧ ∃ ob, H a = some (.frz ob o))
theorem In.le {G G1 H : Hp} (a : Le G G1) (b : In G1 H) : In G H := fun x o h => b x o (a x o h)
theorem In.ge {G H H1 : Hp} (a : In G H) (b : Le H H1) : In G H1 := fun x o h => by
  rcases a x o h with e | ⟨d, ob, e⟩
  · exact .inl (b x _ e)
  · exact .inr ⟨d, ob, b x _ e⟩
theorem In.ne {G H : Hp} (i : In G H) {a : Addr} {o : HO} (h : G a = some o) : H a ≠ none := by
  rcases i a o h with e | ⟨_, ob, e⟩ <;> rw [e] <;> intro q <;> cases q
theorem In.no {G H : Hp} (i : In G H) {a : Addr} (h : H a = none) : G a = none := by
  cases q : G a with
  | none => rfl
  | some o => exact absurd h (i.ne q)
theorem In.ex {G H : Hp} (i : In G H) {a : Addr} {o : HO} (h : G a = some o) (hd : dicO o = false) : H a = some o := by
  rcases i a o h with e | ⟨d, _⟩
  · exact e
  · rw [hd] at d; cases d
theorem In.rd {G H : Hp} (i : In G H) {a : Addr} {o : HO} (h : G a = some o) : Rd H a o := by
  rcases i a o h with e | ⟨_, e⟩
  · exact .inl e
  · exact .inr e
theorem Le.no {G H : Hp} (i : Le G H) {a : Addr} (h : H a = none) : G a = none := by
  cases q : G a with
  | none => rfl
  | some o => rw [i a o q] at h; cases h
structure Up (G H G2 H2 : Hp) : Prop where
  g : Le G G2
  i : In G2 H2
  h : Le H H2
  n : ∀ a o, G2 a = some o → G a = some o ∨ H a = none
theorem Up.refl {G H : Hp} (i : In G H) : Up G H G H := ⟨Le.refl _, i, Le.refl _, fun _ _ e => .inl e⟩
theorem Up.trans {G H G2 H2 G3 H3 : Hp} (u : Up G H G2 H2) (w : Up G2 H2 G3 H3) : Up G H G3 H3 :=
  ⟨u.g.trans w.g, w.i, u.h.trans w.h, fun a o e => by
    rcases w.n a o e with q | q
    · exact u.n a o q
    · exact .inr (u.h.no q)⟩
theorem Up.new {G H : Hp} {p : Addr} {o : HO} (i : In G H) (hp : H p = none) : Up G H (upd G p o) (upd H p o) := by
  refine ⟨fun a u e => ?_, fun a u e => ?_, fun a u e => ?_, fun a u e => ?_⟩
  · have ne : a ≠ p := fun z => by subst z; rw [i.no hp] at e; cases e
    rw [upd_ne ne]; exact e
  · by_cases ha : a = p
    · subst ha; rw [upd_same] at e ⊢; exact .inl e
    · rw [upd_ne ha] at e ⊢; exact i a u e
  · have ne : a ≠ p := fun z => by subst z; rw [hp] at e; cases e
    rw [upd_ne ne]; exact e
  · by_cases ha : a = p
    · subst ha; exact .inr hp
    · rw [upd_ne ha] at e; exact .inl e
theorem Up.hid {G H : Hp} {p : Addr} {o : HO} (i : In G H) (hp : H p = none) : Up G H G (upd H p o) := by
  have l : Le H (upd H p o) := fun a u e => by
    have ne : a ≠ p := fun z => by subst z; rw [hp] at e; cases e
    rw [upd_ne ne]; exact e
  exact ⟨Le.refl _, i.ge l, l, fun _ _ e => .inl e⟩
theorem Up.hide {G H G2 H2 : Hp} (u : Up G H G2 H2) {m : Addr} (h : H m ≠ none) (hg : G m = none) : G2 m = none := by
  cases q : G2 m with
  | none => rfl
  | some o =>
    rcases u.n m o q with e | e
    · rw [hg] at e; cases e
    · exact absurd e h
theorem In.mut {G H : Hp} (i : In G H) {m : Addr} {o : HO} (hg : G m = none) : In G (upd H m o) := fun a u e => by
  have ne : a ≠ m := fun z => by subst z; rw [hg] at e; cases e
  rw [upd_ne ne]; exact i a u e

def kD : Key → PyData
  | .inl i => .int i
  | .inr x => .str x
mutual
inductive Rp (K : PySem.W.Frag) (G : Hp) : V → PyData → Prop
  | non : Rp K G .non .none
  | bl (b : Bool) : Rp K G (.bl b) (.bool b)
  | int (i : Int) : Rp K G (.int i) (.int i)
  | str (x : Str) : Rp K G (.str x) (.str x)
  | lst {a : Addr} {xs : List V} {ds : List PyData} : G a = some (.lst xs) → RpA K G xs ds → Rp K G (.ref a) (.list ds)
  | tup {a : Addr} {xs : List V} {ds : List PyData} : SqT K G a xs → RpA K G xs ds → Rp K G (.ref a) (.tuple ds)
  | dic {a : Addr} {kvs : List (Key × V)} {ds : List (PyData × PyData)} : G a = some (.dK kvs) → RpD K G kvs ds → Rp K G (.ref a) (.dict ds)
inductive RpA (K : PySem.W.Frag) (G : Hp) : List V → List PyData → Prop
  | nil : RpA K G [] []
  | cons {v : V} {vs : List V} {d : PyData} {ds : List PyData} : Rp K G v d → RpA K G vs ds → RpA K G (v :: vs) (d :: ds)
inductive RpD (K : PySem.W.Frag) (G : Hp) : List (Key × V) → List (PyData × PyData) → Prop
  | nil : RpD K G [] []
  | cons {k : Key} {v : V} {vs : List (Key × V)} {d : PyData} {ds : List (PyData × PyData)} : Rp K G v d → RpD K G vs ds → RpD K G ((k, v) :: vs) ((kD k, d) :: ds)
end
theorem le_t {K : PySem.W.Frag} {G G' : Hp} {a : Addr} {xs : List V} (e : Le G G') (h : SqT K G a xs) : SqT K G' a xs := by
  rcases h with h | h
  · rcases h with h | ⟨o, h⟩
    · exact .inl (.inl (e _ _ h))
    · exact .inl (.inr ⟨o, e _ _ h⟩)
  · exact .inr h
section
variable {K : PySem.W.Frag} {G G' : Hp}
mutual
theorem Rp.mono (l : Le G G') : ∀ {v : V} {d : PyData}, Rp K G v d → Rp K G' v d
  | _, _, .non => .non
  | _, _, .bl b => .bl b
  | _, _, .int i => .int i
  | _, _, .str x => .str x
  | _, _, .lst h a => .lst (l _ _ h) (RpA.mono l a)
  | _, _, .tup h a => .tup (le_t l h) (RpA.mono l a)
  | _, _, .dic h a => .dic (l _ _ h) (RpD.mono l a)
theorem RpA.mono (l : Le G G') : ∀ {v : List V} {d : List PyData}, RpA K G v d → RpA K G' v d
  | _, _, .nil => .nil
  | _, _, .cons h a => .cons (Rp.mono l h) (RpA.mono l a)
theorem RpD.mono (l : Le G G') : ∀ {v : List (Key × V)} {d : List (PyData × PyData)}, RpD K G v d → RpD K G' v d
  | _, _, .nil => .nil
  | _, _, .cons h a => .cons (Rp.mono l h) (RpD.mono l a)
end
end
end Z

namespace Z
open PySem PySem.Spec PyProof.Rows L2

abbrev Ret (K : PySem.W.Frag) (G H : Hp) (Q : VK) (d : PyData) : Prop := ∀ v G2 H2, Up G H G2 H2 → Rp K G2 v d → Q v H2
def EvP (t : TE) (σ : L2.St) (G : Hp) (P : Hp → V → Prop) : Prop :=
  ∀ G1 H1, Le G G1 → In G1 H1 → ∀ Q : VK, (∀ v G2 H2, Up G1 H1 G2 H2 → P G2 v → Q v H2) → t σ H1 Q
abbrev Ev (K : PySem.W.Frag) (t : TE) (σ : L2.St) (G : Hp) (d : PyData) : Prop := EvP t σ G fun G v => Rp K G v d
def EvT (t : TT) (σ : L2.St) (G : Hp) (b : Bool) : Prop :=
  ∀ G1 H1, Le G G1 → In G1 H1 → ∀ Q : Bool → Hp → Prop, (∀ G2 H2, Up G1 H1 G2 H2 → Q b H2) → t σ H1 Q
def EvA (K : PySem.W.Frag) (t : TA) (σ : L2.St) (G : Hp) (ds : List PyData) : Prop :=
  ∀ G1 H1, Le G G1 → In G1 H1 → ∀ Q : List V → Hp → Prop, (∀ vs G2 H2, Up G1 H1 G2 H2 → RpA K G2 vs ds → Q vs H2) → t σ H1 Q
def OpV (K : PySem.W.Frag) (r : R2) (a b d : PyData) : Prop := ∀ G H x y, In G H → Rp K G x a → Rp K G y b → ∀ Q, Ret K G H Q d → r x y H Q
def CaV (K : PySem.W.Frag) (r : List V → Hp → VK → Prop) (ds : List PyData) (d : PyData) : Prop := ∀ G H vs, In G H → RpA K G vs ds → ∀ Q, Ret K G H Q d → r vs H Q
section
variable {K : PySem.W.Frag} {σ : L2.St} {G G' : Hp} {ta tb te tc : TE} {t u : TT} {a b c d : PyData} {r r' : R2} {P : Hp → V → Prop}
theorem EvP.mono (e : Le G G') (h : EvP te σ G P) : EvP te σ G' P := fun G1 H1 l i Q q => h G1 H1 (e.trans l) i Q q
theorem EvT.mono {k : Bool} (e : Le G G') (h : EvT t σ G k) : EvT t σ G' k := fun G1 H1 l i Q q => h G1 H1 (e.trans l) i Q q
theorem EvP.imp {P' : Hp → V → Prop} (h : EvP te σ G P) (f : ∀ G v, P G v → P' G v) : EvP te σ G P' := fun G1 H1 l i Q q => h G1 H1 l i Q fun v G2 H2 w p => q v G2 H2 w (f _ _ p)
theorem ev_var {i : Nat} {v : V} (h : σ[i]? = some (some v)) (p : Rp K G v d) : Ev K (tVar i) σ G d := fun G1 H1 l i Q q => ⟨v, h, q v G1 H1 (Up.refl i) (p.mono l)⟩
theorem ev_int {i : Int} : Ev K (tC (.int i)) σ G (.int i) := fun G1 H1 l i Q q => q _ G1 H1 (Up.refl i) (.int _)
theorem ev_op (ha : Ev K ta σ G a) (hb : Ev K tb σ G b) (hr : OpV K r a b d) : Ev K (tOp r ta tb) σ G d := fun G1 H1 l i Q q =>
  ha G1 H1 l i _ fun x G2 H2 u2 p2 => hb G2 H2 (l.trans u2.g) u2.i _ fun y G3 H3 u3 p3 =>
    hr G3 H3 x y u3.i (p2.mono u3.g) p3 Q fun v G4 H4 u4 p4 => q v G4 H4 ((u2.trans u3).trans u4) p4
theorem ea_nil : EvA K tNil σ G [] := fun G1 H1 l i Q q => q [] G1 H1 (Up.refl i) .nil
theorem ea_cons {tr : TA} {ds : List PyData} (ha : Ev K ta σ G a) (hr : EvA K tr σ G ds) : EvA K (tCons ta tr) σ G (a :: ds) := fun G1 H1 l i Q q =>
  ha G1 H1 l i _ fun x G2 H2 u2 p2 => hr G2 H2 (l.trans u2.g) u2.i _ fun vs G3 H3 u3 p3 => q (x :: vs) G3 H3 (u2.trans u3) (.cons (p2.mono u3.g) p3)
theorem ev_cb {r : List V → Hp → VK → Prop} {tr : TA} {ds : List PyData} (ha : EvA K tr σ G ds) (hr : CaV K r ds d) : Ev K (tCB r tr) σ G d := fun G1 H1 l i Q q =>
  ha G1 H1 l i _ fun vs G2 H2 u2 p2 => hr G2 H2 vs u2.i p2 Q fun v G4 H4 u4 p4 => q v G4 H4 (u2.trans u4) p4
theorem rp_bool {v : V} {k : Bool} (h : Rp K G v (.bool k)) : v = .bl k := by cases h; rfl
theorem et_test {k : Bool} (h : Ev K te σ G (.bool k)) : EvT (tTest te) σ G k := fun G1 H1 l i Q q => h G1 H1 l i _ fun v G2 H2 u2 p2 => ⟨k, rp_bool p2, q G2 H2 u2⟩
theorem RpA.len : ∀ {vs : List V} {ds : List PyData}, RpA K G vs ds → vs.length = ds.length
  | _, _, .nil => rfl
  | _, _, .cons _ a => by rw [List.length_cons, List.length_cons, RpA.len a]
end
end Z

namespace Z
open PySem PySem.Spec PyProof.Rows L2

def WkD (K : PySem.W.Frag) (J : It) (G : Hp) (ds : List PyData) : Prop := ∀ G' H', Le G G' → In G' H' →
  J.stop ds.length H' ∧ ∀ (i : Nat) d, ds[i]? = some d → J.go i H' ∧ ∀ x H2, J.yld i H' x H2 → ∃ G2, Up G' H' G2 H2 ∧ Rp K G2 x d
def EvI (K : PySem.W.Frag) (wi : TI) (σ : L2.St) (G : Hp) (ds : List PyData) : Prop :=
  ∀ G1 H1, Le G G1 → In G1 H1 → ∀ R : It → Hp → Prop, (∀ J G2 H2, Up G1 H1 G2 H2 → WkD K J G2 ds → R J H2) → wi σ H1 R
def Bnd (K : PySem.W.Frag) (g : TG) (σ : L2.St) (d : PyData) (B : L2.St → Hp → Prop) : Prop := ∀ G H x, In G H → Rp K G x d → ∀ Q, (∀ σ2, B σ2 G → Q σ2 H) → g x σ H Q
section
variable {K : PySem.W.Frag} {σ : L2.St} {G G' : Hp} {ta tb te tc : TE} {t u tt : TT} {a b c d : PyData} {wi : TI} {g : TG}
theorem RpA.get : ∀ {vs : List V} {ds : List PyData} {i : Nat} {d : PyData}, RpA K G vs ds → ds[i]? = some d → ∃ v, vs[i]? = some v ∧ Rp K G v d
  | _, _, _, _, .nil, e => by simp at e
  | _, _, 0, _, .cons h _, e => by simp at e; subst e; exact ⟨_, rfl, h⟩
  | _, _, i + 1, _, .cons _ a, e => by
    obtain ⟨v, h1, h2⟩ := RpA.get (i := i) a (by simpa using e)
    exact ⟨v, by simpa using h1, h2⟩
theorem WkD.mono {J : It} {ds : List PyData} (l : Le G G') (w : WkD K J G ds) : WkD K J G' ds := fun G1 H1 l1 i => w G1 H1 (l.trans l1) i
theorem wk_tup {p : Addr} {xs : List V} {ds : List PyData} (h : SqT K G p xs) (r : RpA K G xs ds) : WkD K (Itt K p) G ds := fun G' H' l i => by
  have e : SqT K H' p xs := by
    rcases le_t l h with q | q
    · rcases q with q | ⟨o, q⟩
      · exact .inl (.inl (i.ex q rfl))
      · exact .inl (.inr ⟨o, i.ex q rfl⟩)
    · exact .inr q
  have W := walk_tup (K := K) (a := p) (xs := xs)
  refine ⟨by rw [← r.len]; exact W.stops H' e, fun j d hd => ?_⟩
  obtain ⟨v, h1, h2⟩ := r.get hd
  have hj : j < xs.length := (List.getElem?_eq_some_iff.mp h1).1
  refine ⟨W.goes j H' hj e, fun x H2 y => ?_⟩
  obtain ⟨e1, e2⟩ := W.yields j H' x H2 hj e y
  rw [h1] at e2
  cases e2
  subst e1
  exact ⟨G', Up.refl i, h2.mono l⟩
def rng (lo : Int) (n : Nat) : List Int := (List.range n).map fun (i : Nat) => lo + (i : Int)
theorem rng_len (lo : Int) (n : Nat) : (rng lo n).length = n := by simp [rng]
theorem wk_range {lo : Int} {n : Nat} : WkD K (Itr lo n) G ((rng lo n).map .int) := fun G' H' l i => by
  have W := walk_range (lo := lo) (n := n)
  refine ⟨by rw [List.length_map, rng_len]; exact W.stops H' trivial, fun j d hd => ?_⟩
  have hj : j < n := by
    have := (List.getElem?_eq_some_iff.mp hd).1
    simpa [rng_len] using this
  refine ⟨W.goes j H' hj trivial, fun x H2 y => ?_⟩
  obtain ⟨e1, e2⟩ := W.yields j H' x H2 hj trivial y
  subst e1 e2
  have : d = .int (lo + (j : Int)) := by
    simp [rng, hj] at hd
    exact hd.symm
  subst this
  exact ⟨G', Up.refl i, .int _⟩
def S (l : List Nat) : Str := ⟨l.toArray⟩
theorem S_cps (l : List Nat) : (S l).cps.toList = l := by simp [S]
theorem S_eta (x : Str) : S x.cps.toList = x := by cases x; simp [S]
theorem S_inj {a b : List Nat} (h : S a = S b) : a = b := by
  have := congrArg (fun x : Str => x.cps.toList) h
  simpa [S] using this
theorem wk_str {l : List Nat} : WkD K (Its (S l)) G (l.map fun c => .str (S [c])) := fun G' H' le i => by
  have W := walk_str (z := S l)
  have hs : (S l).cps.size = l.length := by simp [S]
  refine ⟨by rw [List.length_map, ← hs]; exact W.stops H' trivial, fun j d hd => ?_⟩
  have hj : j < (S l).cps.size := by
    have := (List.getElem?_eq_some_iff.mp hd).1
    rw [hs]
    simpa using this
  refine ⟨W.goes j H' hj trivial, fun x H2 y => ?_⟩
  obtain ⟨e1, c, e2, e3⟩ := W.yields j H' x H2 hj trivial y
  subst e1 e3
  have hc : l[j]? = some c := by
    rw [← S_cps l]
    simpa using e2
  have : d = .str (S [c]) := by
    rw [List.getElem?_map, hc] at hd
    exact (Option.some.inj hd).symm
  subst this
  exact ⟨G', Up.refl i, .str _⟩
theorem rp_tup {v : V} {ds : List PyData} (h : Rp K G v (.tuple ds)) : ∃ p xs, v = .ref p ∧ SqT K G p xs ∧ RpA K G xs ds := by
  cases h with | tup h a => exact ⟨_, _, rfl, h, a⟩
theorem rp_int {v : V} {i : Int} (h : Rp K G v (.int i)) : v = .int i := by cases h; rfl
theorem rp_str {v : V} {i : Str} (h : Rp K G v (.str i)) : v = .str i := by cases h; rfl
theorem rp_non {v : V} (h : Rp K G v .none) : v = .non := by cases h; rfl
theorem rpa_nil {vs : List V} (h : RpA K G vs []) : vs = [] := by cases h; rfl
theorem rpa_cons {vs : List V} {ds : List PyData} (h : RpA K G vs (d :: ds)) : ∃ v ws, vs = v :: ws ∧ Rp K G v d ∧ RpA K G ws ds := by
  cases h with | cons h a => exact ⟨_, _, rfl, h, a⟩
theorem rpa_ints : ∀ {vs : List V} {ns : List Int}, RpA K G vs (ns.map .int) → vs = ns.map .int
  | vs, [], h => rpa_nil h
  | vs, n :: ns, h => by
    obtain ⟨v, ws, rfl, h1, h2⟩ := rpa_cons h
    rw [rp_int h1, rpa_ints h2]; rfl
theorem rpa_strs : ∀ {vs : List V} {ns : List Str}, RpA K G vs (ns.map .str) → vs = ns.map .str
  | vs, [], h => rpa_nil h
  | vs, n :: ns, h => by
    obtain ⟨v, ws, rfl, h1, h2⟩ := rpa_cons h
    rw [rp_str h1, rpa_strs h2]; rfl
theorem bnd_name {k : Nat} : Bnd K (gName k) σ d fun σ2 G => ∃ x, σ2 = σ.set k (some x) ∧ Rp K G x d := fun G H x i p Q q => q _ ⟨x, rfl, p⟩
theorem wipe1 {k : Nat} {x : Option V} : wipe ((wipe σ [k]).set k x) [k] = wipe σ [k] := by
  show (((σ.set k none).set k x).set k none) = σ.set k none
  rw [List.set_set, List.set_set]
theorem lc_new {α : Type} {D : α → PyData} {xs : List α} {p : α → Bool} {f : α → PyData} {vs : List Nat} {B : α → L2.St → Hp → Prop} (hi : EvI K wi σ G (xs.map D)) (hb : ∀ z ∈ xs, Bnd K g (wipe σ vs) (D z) (B z))
    (hw : ∀ z ∈ xs, ∀ σ2 G, B z σ2 G → wipe σ2 vs = wipe σ vs)
    (ht : ∀ z ∈ xs, ∀ G1 σ2, Le G G1 → B z σ2 G1 → EvT tt σ2 G1 (p z)) (he : ∀ z ∈ xs, p z = true → ∀ G1 σ2, Le G G1 → B z σ2 G1 → Ev K te σ2 G1 (f z))
    (hBm : ∀ z σ2 G1 G2, Le G1 G2 → B z σ2 G1 → B z σ2 G2) (hl : xs.length ≤ 100000) {G1 H1 : Hp} (l : Le G G1) (i : In G1 H1) {Q : VK}
    (q : ∀ D' G3 H3 acc, H1 D' = none → G3 D' = none → Up G1 H1 G3 (fun b => if b = D' then none else H3 b) → In G3 H3 → H3 D' = some (.lst acc) → RpA K G3 acc ((xs.filter p).map f) → Q (.ref D') H3) : tLc wi g tt te vs σ H1 Q := hi G1 H1 l i _ fun J G2 H2 u2 w => by
  intro D' hD
  refine ⟨fun i m H => m = xs.length - i ∧ i ≤ xs.length ∧ ∃ G3, G3 D' = none ∧ Up G2 H2 G3 (fun b => if b = D' then none else H b) ∧ In G3 H ∧ ∃ acc, H D' = some (.lst acc) ∧ RpA K G3 acc (((xs.take i).filter p).map f), ⟨xs.length, by simp, Nat.zero_le _, G2, u2.i.no hD, ?_, ?_, [], upd_same, .nil⟩, ?_⟩
  · refine ⟨Le.refl _, fun b o e => ?_, fun b o e => ?_, fun _ _ e => .inl e⟩
    · have ne : b ≠ D' := fun z => by subst z; rw [u2.i.no hD] at e; cases e
      show (if b = D' then none else upd H2 D' (.lst []) b) = _ ∨ _ ∧ ∃ ob, (if b = D' then none else upd H2 D' (.lst []) b) = _
      rw [if_neg ne, upd_ne ne]
      exact u2.i b o e
    · have ne : b ≠ D' := fun z => by subst z; rw [hD] at e; cases e
      show (if b = D' then none else upd H2 D' (.lst []) b) = _
      rw [if_neg ne, upd_ne ne]
      exact e
  · exact u2.i.mut (u2.i.no hD)
  · rintro j m H ⟨rfl, hj, G3, hG3, u3, i3, acc, hacc, racc⟩
    obtain ⟨wstop, wgo⟩ := w G3 H u3.g i3
    by_cases hlt : j < xs.length
    · have hz : xs[j]? = some xs[j] := List.getElem?_eq_getElem hlt
      have hm : xs[j] ∈ xs := List.getElem_mem hlt
      obtain ⟨go, yl⟩ := wgo j (D xs[j]) (by rw [List.getElem?_map, hz]; rfl)
      refine .inr ⟨go, fun H' => j + 1 ≤ xs.length ∧ ∃ G3, G3 D' = none ∧ Up G2 H2 G3 (fun b => if b = D' then none else H' b) ∧ In G3 H' ∧ ∃ acc, H' D' = some (.lst acc) ∧ RpA K G3 acc (((xs.take (j + 1)).filter p).map f), fun H' x => ⟨xs.length - (j + 1), by omega, rfl, x.1, x.2⟩, fun x H4 y => ?_⟩
      obtain ⟨G4, u4, r4⟩ := yl x H4 y
      have hD4 : H4 D' = some (.lst acc) := u4.h _ _ hacc
      have hG4 : G4 D' = none := u4.hide (by rw [hacc]; intro z; cases z) hG3
      -- growing but for D'
      have grow : ∀ {Ga Ha Gb Hb : Hp}, Up G2 H2 Ga (fun b => if b = D' then none else Ha b) → Ga D' = none → Up Ga Ha Gb Hb → Gb D' = none → Up G2 H2 Gb (fun b => if b = D' then none else Hb b) := fun {Ga Ha Gb Hb} ua na ub nb => by
        refine ⟨ua.g.trans ub.g, fun b o e => ?_, fun b o e => ?_, fun b o e => ?_⟩
        · have ne : b ≠ D' := fun z => by subst z; rw [nb] at e; cases e
          show (if b = D' then none else Hb b) = _ ∨ _ ∧ ∃ ob, (if b = D' then none else Hb b) = _
          rw [if_neg ne]
          exact ub.i b o e
        · have h1 := ua.h b o e
          have ne : b ≠ D' := fun z => by subst z; rw [hD] at e; cases e
          have h1 : (if b = D' then none else Ha b) = some o := h1
          rw [if_neg ne] at h1
          show (if b = D' then none else Hb b) = _
          rw [if_neg ne]
          exact ub.h b o h1
        · have ne : b ≠ D' := fun z => by subst z; rw [nb] at e; cases e
          rcases ub.n b o e with q | q
          · exact ua.n b o q
          · refine .inr ?_
            cases h2 : H2 b with
            | none => rfl
            | some o2 =>
              have h1 : (if b = D' then none else Ha b) = some o2 := ua.h b o2 h2
              rw [if_neg ne, q] at h1
              cases h1
      have u24 := grow u3 hG3 u4 hG4
      have l4 : Le G G4 := l.trans (u2.g.trans u24.g)
      refine hb _ hm G4 H4 x u4.i r4 _ fun σ2 b2 => ⟨hw _ hm σ2 G4 b2, ?_⟩
      refine ht _ hm G4 σ2 l4 b2 G4 H4 (Le.refl _) u4.i _ fun G5 H5 u5 => ?_
      have hD5 := u5.h _ _ hD4
      have hG5 : G5 D' = none := u5.hide (by rw [hD4]; intro z; cases z) hG4
      have u25 := grow u24 hG4 u5 hG5
      have tk : (xs.take (j + 1)).filter p = (xs.take j).filter p ++ [xs[j]].filter p := by
        rw [List.take_succ_eq_append_getElem hlt, List.filter_append]
      cases hp : p xs[j] with
      | false =>
        show _ ∧ _
        refine ⟨hlt, G5, hG5, u25, u5.i, acc, hD5, ?_⟩
        rw [tk]
        have : [xs[j]].filter p = [] := by simp [hp]
        rw [this, List.append_nil]
        exact racc.mono (u4.g.trans u5.g)
      | true =>
        show te σ2 H5 _
        refine he _ hm hp G5 σ2 (l4.trans u5.g) (hBm _ _ _ _ u5.g b2) G5 H5 (Le.refl _) u5.i _ fun y G6 H6 u6 r6 => ?_
        have hD6 := u6.h _ _ hD5
        have hG6 : G6 D' = none := u6.hide (by rw [hD5]; intro z; cases z) hG5
        have u26 := grow u25 hG5 u6 hG6
        have hlen : acc.length ≤ xs.length := by
          rw [racc.len, List.length_map]
          exact Nat.le_trans (List.length_filter_le _ _) (by rw [List.length_take]; omega)
        refine ⟨acc, hD6, Nat.lt_of_le_of_lt (Nat.le_trans hlen hl) (by decide), hlt, G6, hG6, ?_, u6.i.mut hG6, acc ++ [y], upd_same, ?_⟩
        · refine ⟨u26.g, fun b o e => ?_, fun b o e => ?_, u26.n⟩
          · have ne : b ≠ D' := fun z => by subst z; rw [hG6] at e; cases e
            have := u26.i b o e
            show (if b = D' then none else upd H6 D' _ b) = _ ∨ _ ∧ ∃ ob, (if b = D' then none else upd H6 D' _ b) = _
            simp only [if_neg ne] at this
            rw [if_neg ne, upd_ne ne]
            exact this
          · have ne : b ≠ D' := fun z => by subst z; rw [hD] at e; cases e
            have := u26.h b o e
            simp only [if_neg ne] at this
            show (if b = D' then none else upd H6 D' _ b) = _
            rw [if_neg ne, upd_ne ne]
            exact this
        · rw [tk]
          have : [xs[j]].filter p = [xs[j]] := by simp [hp]
          rw [this, List.map_append]
          have ap : ∀ {v1 v2 : List V} {d1 d2 : List PyData}, RpA K G6 v1 d1 → RpA K G6 v2 d2 → RpA K G6 (v1 ++ v2) (d1 ++ d2) := by
            intro v1
            induction v1 with
            | nil => intro v2 d1 d2 h1 h2; cases h1; exact h2
            | cons v vs ih => intro v2 d1 d2 h1 h2; cases h1 with | cons h a => exact .cons h (ih a h2)
          exact ap (racc.mono ((u4.g.trans u5.g).trans u6.g)) (.cons r6 .nil)
    · have e : j = xs.length := by omega
      subst e
      refine .inl ⟨by simpa using wstop, ?_⟩
      rw [List.take_length] at racc
      refine q D' G3 H acc (u2.h.no hD) hG3 ?_ i3 hacc racc
      refine ⟨u2.g.trans u3.g, u3.i, fun b o e => u3.h b o (u2.h b o e), fun b o e => ?_⟩
      rcases u3.n b o e with z | z
      · exact u2.n b o z
      · exact .inr (u2.h.no z)
end
end Z

namespace Z
open PySem PySem.Spec PyProof.Rows L2

section
variable {K : PySem.W.Frag} {σ : L2.St} {G H : Hp}
theorem opv_I0 {g : Int → Int → V} {D : Int → Int → PyData} (h : ∀ i j G, Rp K G (g i j) (D i j)) {i j : Int} : OpV K (rI0 g) (.int i) (.int j) (D i j) := fun G H x y hi px py Q q => by
  rw [rp_int px, rp_int py]
  exact ⟨i, j, rfl, rfl, q _ G H (Up.refl hi) (h i j G)⟩
theorem opv_I {C : Int → Int → Prop} {g : Int → Int → V} {D : Int → Int → PyData} (h : ∀ i j G, Rp K G (g i j) (D i j)) {i j : Int} (hc : C i j) : OpV K (rI C g) (.int i) (.int j) (D i j) := fun G H x y hi px py Q q => by
  rw [rp_int px, rp_int py]
  exact ⟨i, j, rfl, rfl, hc, q _ G H (Up.refl hi) (h i j G)⟩
theorem opv_sub {i j : Int} : OpV K (rI0 fun i j => .int (i - j)) (.int i) (.int j) (.int (i - j)) := opv_I0 (D := fun i j => .int (i - j)) fun _ _ _ => .int _
theorem opv_mod {i j : Int} (h : j ≠ 0) : OpV K (rI (fun _ j => j ≠ 0) fun i j => .int (i.fmod j)) (.int i) (.int j) (.int (i.fmod j)) := opv_I (C := fun _ j => j ≠ 0) (D := fun i j => .int (i.fmod j)) (fun _ _ _ => .int _) h
theorem opv_pow {i j : Int} (h : CPow i j) : OpV K (rI CPow fun i j => .int (i ^ j.toNat)) (.int i) (.int j) (.int (i ^ j.toNat)) := opv_I (D := fun i j => .int (i ^ j.toNat)) (fun _ _ _ => .int _) h
theorem opv_ge {i j : Int} : OpV K (rI0 fun i j => .bl (decide (j ≤ i))) (.int i) (.int j) (.bool (decide (j ≤ i))) := opv_I0 (D := fun i j => .bool (decide (j ≤ i))) fun _ _ _ => .bl _
def rAddS : R2 := fun x y H Q => ∃ i j, x = .str i ∧ y = .str j ∧ i.length + j.length ≤ sizeLine ∧ Q (.str (i ++ j)) H
theorem S_app (a b : List Nat) : S a ++ S b = S (a ++ b) := by
  show (⟨(S a).cps ++ (S b).cps⟩ : Str) = _
  simp [S]
theorem S_len (a : List Nat) : (S a).length = a.length := by
  show (S a).cps.size = _
  simp [S]
theorem opv_addS {a b : List Nat} (h : a.length + b.length ≤ 10000000) : OpV K rAddS (.str (S a)) (.str (S b)) (.str (S (a ++ b))) := fun G H x y hi px py Q q => by
  rw [rp_str px, rp_str py]
  refine ⟨S a, S b, rfl, rfl, by rw [S_len, S_len]; exact Nat.le_trans h (by decide), ?_⟩
  rw [S_app]
  exact q _ G H (Up.refl hi) (.str _)
mutual
def dicF : PyData → Bool
  | .list xs => dicFs xs
  | .tuple xs => dicFs xs
  | .dict _ => false
  | _ => true
def dicFs : List PyData → Bool
  | [] => true
  | d :: ds => dicF d && dicFs ds
end
theorem in_t {a : Addr} {xs : List V} (i : In G H) (h : SqT K G a xs) : SqT K H a xs := by
  rcases h with q | q
  · rcases q with q | ⟨o, q⟩
    · exact .inl (.inl (i.ex q rfl))
    · exact .inl (.inr ⟨o, i.ex q rfl⟩)
  · exact .inr q
mutual
theorem Rp.dp (i : In G H) : ∀ {v : V} {d : PyData}, Rp K G v d → dicF d = true → Dp K H v d
  | _, _, .non, _ => .non
  | _, _, .bl b, _ => .bl b
  | _, _, .int j, _ => .int j
  | _, _, .str x, _ => .str x
  | _, _, .lst h a, e => .lst (.inl (.inl (i.ex h rfl))) (RpA.dp i a (by simpa [dicF] using e))
  | _, _, .tup h a, e => .tup (in_t i h) (RpA.dp i a (by simpa [dicF] using e))
  | _, _, .dic h a, e => by simp [dicF] at e
theorem RpA.dp (i : In G H) : ∀ {v : List V} {d : List PyData}, RpA K G v d → dicFs d = true → DpAll K H v d
  | _, _, .nil, _ => .nil
  | _, _, .cons h a, e => by
    simp only [dicFs, Bool.and_eq_true] at e
    exact .cons (Rp.dp i h e.1) (RpA.dp i a e.2)
end
mutual
theorem dicF_of_lay : ∀ d : PyData, d.canLay0 = true → dicF d = true
  | .none, _ => by simp [dicF]
  | .bool _, _ => by simp [dicF]
  | .int _, _ => by simp [dicF]
  | .str _, _ => by simp [dicF]
  | .list xs, h => by
    simp only [PyData.canLay0] at h
    simp only [dicF]
    exact dicFs_of_lay xs h
  | .tuple xs, h => by
    simp only [PyData.canLay0] at h
    simp only [dicF]
    exact dicFs_of_lay xs h
  | .dict _, h => by simp [PyData.canLay0] at h
theorem dicFs_of_lay : ∀ ds : List PyData, PyData.canLayAll0 ds = true → dicFs ds = true
  | [], _ => by simp [dicFs]
  | d :: ds, h => by
    simp only [PyData.canLayAll0, Bool.and_eq_true] at h
    simp only [dicFs, Bool.and_eq_true]
    exact ⟨dicF_of_lay d h.1, dicFs_of_lay ds h.2⟩
end
theorem opv_eqD {a b : PyData} (ha : SeqAt.shaped a = true) (hb : SeqAt.shaped b = true) : OpV K (rEqD K) a b (.bool (PyData.eqv a b)) := fun G H x y hi px py Q q =>
  ⟨a, b, px.dp hi (dicF_of_lay _ (SeqAt.canLay_of_shaped ha)), py.dp hi (dicF_of_lay _ (SeqAt.canLay_of_shaped hb)), ha, hb, q _ G H (Up.refl hi) (.bl _)⟩
theorem opv_neD {a b : PyData} (ha : SeqAt.shaped a = true) (hb : SeqAt.shaped b = true) : OpV K (rNeD K) a b (.bool (!PyData.eqv a b)) := fun G H x y hi px py Q q =>
  ⟨a, b, px.dp hi (dicF_of_lay _ (SeqAt.canLay_of_shaped ha)), py.dp hi (dicF_of_lay _ (SeqAt.canLay_of_shaped hb)), ha, hb, q _ G H (Up.refl hi) (.bl _)⟩
end
end Z

namespace Z
open PySem PySem.Spec PyProof.Rows L2
section
variable {X : Cx}
theorem DpAll.len {K : PySem.W.Frag} {H : Hp} : ∀ {xs : List V} {ds : List PyData}, DpAll K H xs ds → xs.length = ds.length
  | _, _, .nil => rfl
  | _, _, .cons _ a => by rw [List.length_cons, List.length_cons, DpAll.len a]
theorem DpAll.get {K : PySem.W.Frag} {H : Hp} : ∀ {xs : List V} {ds : List PyData} {i : Nat} {x : V} {d : PyData}, DpAll K H xs ds → xs[i]? = some x → ds[i]? = some d → Dp K H x d
  | _, _, _, _, _, .nil, e, _ => by simp at e
  | _, _, 0, _, _, .cons h _, e, f => by simp at e f; subst e f; exact h
  | _, _, i + 1, _, _, .cons _ a, e, f => DpAll.get (i := i) a (by simpa using e) (by simpa using f)
end
section
variable {K : PySem.W.Frag} {σ : L2.St} {G H : Hp}
def rLenU (K : PySem.W.Frag) : List V → Hp → VK → Prop := fun xs H Q => ∃ x n, xs = [x] ∧ LenV K x H n ∧ Q (.int n) H
def rAbs : List V → Hp → VK → Prop := fun xs H Q => ∃ i, xs = [.int i] ∧ Q (.int (if i < 0 then -i else i)) H
theorem cav_abs {i : Int} : CaV K rAbs [.int i] (.int (i.natAbs : Int)) := fun G H vs hi pv Q q => by
  obtain ⟨v, ws, rfl, p1, p2⟩ := rpa_cons pv
  rw [rpa_nil p2, rp_int p1]
  refine ⟨i, rfl, ?_⟩
  have e : (if i < 0 then -i else i) = (i.natAbs : Int) := by split <;> omega
  rw [e]
  exact q _ G H (Up.refl hi) (.int _)
def rMin2 : List V → Hp → VK → Prop := fun xs H Q => ∃ i j, xs = [.int i, .int j] ∧ Q (.int (if j < i then j else i)) H
theorem cav_min2 {i j : Int} : CaV K rMin2 [.int i, .int j] (.int (min i j)) := fun G H vs hi pv Q q => by
  obtain ⟨v, ws, rfl, p1, p2⟩ := rpa_cons pv
  obtain ⟨v', ws', rfl, p3, p4⟩ := rpa_cons p2
  rw [rpa_nil p4, rp_int p1, rp_int p3]
  refine ⟨i, j, rfl, ?_⟩
  have e : (if j < i then j else i) = min i j := by split <;> omega
  rw [e]
  exact q _ G H (Up.refl hi) (.int _)
def rInt1 : List V → Hp → VK → Prop := fun xs H Q => (∃ i, xs = [.int i] ∧ Q (.int i) H) ∨ ∃ k, xs = [.bl k] ∧ Q (.int (if k then 1 else 0)) H
theorem cav_int {i : Int} : CaV K rInt1 [.int i] (.int i) := fun G H vs hi pv Q q => by
  obtain ⟨v, ws, rfl, p1, p2⟩ := rpa_cons pv
  rw [rpa_nil p2, rp_int p1]
  exact .inl ⟨i, rfl, q _ G H (Up.refl hi) (.int _)⟩
def rListOf (K : PySem.W.Frag) : List V → Hp → VK → Prop := fun xs H Q => ∃ p ys, xs = [.ref p] ∧ (SqL K H p ys ∨ SqT K H p ys) ∧ ∀ l, H l = none → Q (.ref l) (upd H l (.lst ys))
end
end Z

namespace Z
open PySem PySem.Spec PyProof.Rows L2
section
variable {K : PySem.W.Frag} {σ : L2.St} {G H : Hp} {ta tb te tx : TE} {a b d : PyData}
def cutL {α : Type} (l : List α) (lo hi : Option Int) : List α := (l.drop (HT.sIx l.length 0 lo)).take (HT.sIx l.length l.length hi - HT.sIx l.length 0 lo)
theorem cutS_S (l : List Nat) (lo hi : Option Int) : cutS (S l) lo hi = S (cutL l lo hi) := by
  unfold cutS cutL
  rw [S_cps, S_len]
  rfl
theorem rpa_take : ∀ {n : Nat} {vs : List V} {ds : List PyData}, RpA K G vs ds → RpA K G (vs.take n) (ds.take n)
  | 0, _, _, _ => .nil
  | _ + 1, _, _, .nil => .nil
  | n + 1, _, _, .cons h a => .cons h (rpa_take (n := n) a)
theorem opv_ixS {l : List Nat} {i : Int} {c : Nat} (hz : l.length ≤ 10000000) (h : atI l i = some c) : OpV K (rIx K) (.str (S l)) (.int i) (.str (S [c])) := fun G H x y hi px py Q q => by
  rw [rp_str px, rp_int py]
  refine .inr (.inr ⟨S l, i, c, rfl, rfl, by rw [S_len]; exact Nat.le_trans hz (by decide), by rw [S_cps]; exact h, ?_⟩)
  exact q _ G H (Up.refl hi) (.str _)
def rJoin (K : PySem.W.Frag) : V → List V → Hp → VK → Prop := fun x xs H Q => ∃ a p, ∃ ys : List Str, x = .str a ∧ xs = [.ref p] ∧ (SqL K H p (ys.map V.str) ∨ SqT K H p (ys.map V.str)) ∧ (ys.map (·.length)).sum + ys.length * a.length ≤ 16777216 ∧ Q (.str (Txt.join a ys)) H
theorem glue_nil : ∀ (ls : List (List Nat)) (acc : List Nat), (ls.map S).foldl (fun (acc : Array Nat) p => acc ++ (S []).cps ++ p.cps) acc.toArray = (acc ++ ls.flatten).toArray
  | [], acc => by simp
  | l :: ls, acc => by
    rw [List.map_cons, List.foldl_cons]
    have : acc.toArray ++ (S []).cps ++ (S l).cps = (acc ++ l).toArray := by simp [S]
    rw [this, glue_nil ls (acc ++ l), List.flatten_cons, List.append_assoc]
theorem join_nil (ls : List (List Nat)) : Txt.join (S []) (ls.map S) = S ls.flatten := by
  unfold Txt.join
  cases ls with
  | nil => rfl
  | cons l ls =>
    show (⟨((ls.map S).foldl (fun acc p => acc ++ (S []).cps ++ p.cps) (S l).cps)⟩ : Str) = _
    have e : (S l).cps = l.toArray := rfl
    rw [e, glue_nil ls l]
    rfl
def dD (es : List (Key × PyData)) : PyData := .dict (es.map fun e => (kD e.1, e.2))
def valK {α : Type} (es : List (Key × α)) (k : Key) : Option α := (es.find? fun e => decide (e.1 = k)).map (·.2)
inductive RpE (K : PySem.W.Frag) (G : Hp) : List (Key × V) → List (Key × PyData) → Prop
  | nil : RpE K G [] []
  | cons {k : Key} {v : V} {vs : List (Key × V)} {d : PyData} {ds : List (Key × PyData)} : Rp K G v d → RpE K G vs ds → RpE K G ((k, v) :: vs) ((k, d) :: ds)
theorem kD_inj {a b : Key} (h : kD a = kD b) : a = b := by
  cases a <;> cases b <;> simp [kD] at h <;> simp [h]
theorem rpe_of : ∀ {kvs : List (Key × V)} {es : List (Key × PyData)}, RpD K G kvs (es.map fun e => (kD e.1, e.2)) → RpE K G kvs es
  | _, [], h => by cases h; exact .nil
  | kvs, (k, d) :: es, h => by
    rw [List.map_cons] at h
    generalize hz : (kD k, d) = z at h
    cases h with
    | cons h a =>
      simp only [Prod.mk.injEq] at hz
      obtain ⟨e1, e2⟩ := hz
      have := kD_inj e1
      subst this e2
      exact .cons h (rpe_of a)
theorem RpE.mono {G' : Hp} (l : Le G G') : ∀ {kvs : List (Key × V)} {es : List (Key × PyData)}, RpE K G kvs es → RpE K G' kvs es
  | _, _, .nil => .nil
  | _, _, .cons h a => .cons (h.mono l) (RpE.mono l a)
theorem RpE.len : ∀ {kvs : List (Key × V)} {es : List (Key × PyData)}, RpE K G kvs es → kvs.length = es.length
  | _, _, .nil => rfl
  | _, _, .cons _ a => by rw [List.length_cons, List.length_cons, RpE.len a]
theorem RpE.val : ∀ {kvs : List (Key × V)} {es : List (Key × PyData)} {k : Key}, RpE K G kvs es → (valV kvs k = none ∧ valK es k = none) ∨ ∃ v d, valV kvs k = some v ∧ valK es k = some d ∧ Rp K G v d
  | _, _, _, .nil => .inl ⟨rfl, rfl⟩
  | (k', v) :: kvs, (_, d) :: es, k, .cons h a => by
    by_cases e : k' = k
    · subst e
      exact .inr ⟨v, d, by simp [valV], by simp [valK], h⟩
    · rcases RpE.val (k := k) a with ⟨h1, h2⟩ | ⟨v', d', h1, h2, h3⟩
      · exact .inl ⟨by simpa [valV, e] using h1, by simpa [valK, e] using h2⟩
      · exact .inr ⟨v', d', by simpa [valV, e] using h1, by simpa [valK, e] using h2, h3⟩
theorem rp_dic {v : V} {es : List (Key × PyData)} (h : Rp K G v (dD es)) : ∃ p kvs, v = .ref p ∧ G p = some (.dK kvs) ∧ RpE K G kvs es := by
  unfold dD at h
  generalize hz : (es.map fun e => (kD e.1, e.2)) = z at h
  cases h with
  | dic h a =>
    subst hz
    exact ⟨_, _, rfl, h, rpe_of a⟩
end
end Z

namespace Z
open PySem PySem.Spec PyProof.Rows L2
structure Blt (mg : Str → Option Value) : Prop where
  z_abs : mg "abs" = none
  z_all : mg "all" = none
  z_any : mg "any" = none
  z_bool : mg "bool" = none
  z_dict : mg "dict" = none
  z_enumerate : mg "enumerate" = none
  z_int : mg "int" = none
  z_isinstance : mg "isinstance" = none
  z_len : mg "len" = none
  z_list : mg "list" = none
  z_max : mg "max" = none
  z_min : mg "min" = none
  z_range : mg "range" = none
  z_repr : mg "repr" = none
  z_set : mg "set" = none
  z_sorted : mg "sorted" = none
  z_str : mg "str" = none
  z_sum : mg "sum" = none
  z_tuple : mg "tuple" = none
  z_zip : mg "zip" = none
def FnIs (P : Program) (w : World) (K : PySem.W.Frag) (mg : Str → Option Value) (base : Heap) (k : Nat) (x : Str) (ps : List Str) (sp : Sp) : Prop :=
  ∃ f fd, FnOk P w K mg base (L2.CX P w) k f fd ps sp ∧ mg x = some (.ref f) ∧ PySem.W.keepIn K (.ref f) = true ∧ Binds K fd ps []
def ExcIs (K : PySem.W.Frag) (mg : Str → Option Value) (x : Str) (C : Addr) : Prop :=
  mg x = some (.ref C) ∧ PySem.W.excIn K C He.veBase "ValueError.__new__" = true ∧ PySem.W.keepIn K (.ref C) = true ∧ PySem.W.subIn K (.ref C) (.type "BaseException") = some true ∧ PySem.W.typeIn K (.ref C) = some (.type "type")
section
variable {X : Cx}
theorem pe_fn {k : Nat} {x : Str} {ps : List Str} {sp : Sp} {E : XK} {e : Expr} {es : List Expr} {t : TA} {p pos : Pos} (F : FnIs X.prog X.w X.K X.mg X.base k x ps sp) (hr : Room k X.A) (hg : Gl X x) (hx : Passes (L2.CX X.prog X.w) X E) (ha : PA X (e :: es) t) (hdb : (x == ("__debug__" : Str)) = false := by decide)
    (he : starEach (e :: es) X.env = (false, eval e X.env) :: starEach es X.env := by rfl) (hpl : (backTo pos (starEach es X.env)).any (·.1) = false := by rfl) :
    PE X (.Call (.Name x p) (e :: es) [] pos) (tCall sp [] E t) := by
  obtain ⟨f, fd, G, gm, kp, b⟩ := F
  exact pe_call G hr hg gm kp b .nil hx ha hdb he hpl
theorem pe_gstr {x z : Str} {pos : Pos} (hg : Gl X x) (h : ∃ t, X.mg x = some (.str z t)) (hd : (x == ("__debug__" : Str)) = false := by decide) : PE X (.Name x pos) (tC (.str z)) := by
  obtain ⟨t, h⟩ := h
  exact pe_glob hg h ⟨t, rfl⟩ hd
theorem pe_gint {x : Str} {z : Int} {pos : Pos} (hg : Gl X x) (h : ∃ t, X.mg x = some (.int z t)) (hd : (x == ("__debug__" : Str)) = false := by decide) : PE X (.Name x pos) (tC (.int z)) := by
  obtain ⟨t, h⟩ := h
  exact pe_glob hg h ⟨t, rfl⟩ hd
theorem pmk_exc {x m : Str} {j : Nat} {p p2 pos : Pos} {C : Addr} (h : ExcIs X.K X.mg x C) (hg : Gl X x) (hdb : (x == ("__debug__" : Str)) = false := by decide) : PMk X (.Call (.Name x p) [.Constant (.str m) j p2] [] pos) (fun _ H Q => Q (.ref C) none H) :=
  pmk_own PySem.F.excBase_ValueError h.2.1 h.1 h.2.2.1 (raises_own h.2.2.2.1 h.2.2.2.2) hg hdb
def tRaise (W : WX) (t : L2.St → Hp → XK → Prop) : TS := fun _ σ H => t σ H fun cls d H' => W cls d σ H'
end
end Z

namespace Z
open PySem PySem.Spec PyProof.Rows L2
section
variable {X : Cx}
def rInC : R2 := fun x y H Q => ∃ (c : Nat) (z : Str), x = .str ⟨#[c]⟩ ∧ y = .str z ∧ Q (.bl (decide (c ∈ z.cps.toList))) H
def rInS : R2 := fun x y H Q => ∃ i j, x = .str i ∧ y = .str j ∧ Q (.bl (!(Builtin.Str.occurrences j i 0 j.length 1).isEmpty)) H
def rLtS : R2 := fun x y H Q => ∃ i j, x = .str i ∧ y = .str j ∧ Q (.bl (decide (i.cps.toList < j.cps.toList))) H
def rLenDc : List V → Hp → VK → Prop := fun xs H Q => ∃ a kvs, xs = [V.ref a] ∧ Rd H a (.dK kvs) ∧ Q (.int kvs.length) H
theorem cr_lenD : CallR X (.builtin "len") rLenDc := by
  intro pins s σ H xs us Q I r h
  obtain ⟨a, kvs, rfl, ha, q⟩ := h
  obtain ⟨u, rfl, ru⟩ := vals1 r
  cases ru
  exact d_len I ha fun t s' I' => ⟨.int kvs.length, H, I', ⟨t, rfl⟩, q⟩
def rListS : List V → Hp → VK → Prop := fun xs H Q => ∃ z : Str, xs = [.str z] ∧ z.length ≤ sizeLine ∧ ∀ p, H p = none → Q (.ref p) (upd H p (.lst (z.cps.toList.map fun c => V.str ⟨#[c]⟩)))
theorem cr_listS (hc : X.calm = true) : CallR X (.type "list") rListS := by
  intro pins s σ H xs us Q I r h
  obtain ⟨z, rfl, hz, q⟩ := h
  obtain ⟨u, rfl, t, rfl⟩ := vals1 r
  refine call_list_str (I.ok.hd hc) z t (fun h' tk acc' c' hk hS hacc => ?_) hz
  obtain ⟨hsz, hat⟩ := hacc
  refine ⟨.ref _, upd H s.heap.objs.size (.lst (z.cps.toList.map fun c => V.str ⟨#[c]⟩)), I.laid (t' := tk) hk (Nat.le_refl _) ⟨by rw [List.length_map, Array.length_toList]; exact hz, acc'.toList, c', ?_, by simpa using hS⟩, rfl, q _ (I.hok.fresh (Nat.le_refl _))⟩
  refine vals_of_at (by simp [hsz]) fun j x u hx hu => ?_
  rw [List.getElem?_map] at hx
  cases hc' : z.cps.toList[j]? with
  | none => rw [hc'] at hx; cases hx
  | some c =>
    rw [hc'] at hx
    cases hx
    have hu' : acc'[j]? = some u := by simpa using hu
    obtain ⟨c2, t2, e1, e2⟩ := hat j u hu'
    have e1' : z.cps.toList[j]? = some c2 := by simpa using e1
    rw [hc'] at e1'
    cases e1'
    exact ⟨t2, e2⟩
end
section
variable {K : PySem.W.Frag} {σ : L2.St} {G H : Hp} {ta tb te tx : TE} {a b d : PyData} {tt : TT} {D : Ends}
theorem opv_ltS {a b : List Nat} : OpV K rLtS (.str (S a)) (.str (S b)) (.bool (decide (a < b))) := fun G H x y hi px py Q q => by
  rw [rp_str px, rp_str py]
  refine ⟨S a, S b, rfl, rfl, ?_⟩
  have : decide ((S a).cps.toList < (S b).cps.toList) = decide (a < b) := by simp only [S_cps]
  rw [this]
  exact q _ G H (Up.refl hi) (.bl _)
theorem EvP.at {P : Hp → V → Prop} (h : EvP te σ G P) (hi : In G H) {Q : VK} (k : ∀ v G2 H2, Up G H G2 H2 → P G2 v → Q v H2) : te σ H Q := h G H (Le.refl _) hi Q k
end
end Z

namespace Z
open PySem PySem.Spec PyProof.Rows L2
section
variable {X : Cx}
end
section
variable {K : PySem.W.Frag} {σ : L2.St} {G : Hp} {tt : TT} {tk tv : TE} {wi : TI} {g : TG}
def putE {α : Type} (es : List (Key × α)) (k : Key) (v : α) : List (Key × α) :=
  if es.any (fun e => decide (e.1 = k)) then es.map (fun e => if e.1 = k then (e.1, v) else e) else es ++ [(k, v)]
theorem putK_putE (kvs : List (Key × V)) (k : Key) (v : V) : putK kvs k v = putE kvs k v := by
  unfold putK putE
  congr 1
theorem rpe_map {k : Key} {v : V} {d : PyData} (p : Rp K G v d) : ∀ {kvs : List (Key × V)} {es : List (Key × PyData)}, RpE K G kvs es → RpE K G (kvs.map fun e => if e.1 = k then (e.1, v) else e) (es.map fun e => if e.1 = k then (e.1, d) else e)
  | _, _, .nil => .nil
  | (k', _) :: _, _, .cons h a => by
    simp only [List.map_cons]
    by_cases e : k' = k
    · rw [if_pos e, if_pos e]; exact .cons p (rpe_map p a)
    · rw [if_neg e, if_neg e]; exact .cons h (rpe_map p a)
theorem rpe_snoc {k : Key} {v : V} {d : PyData} (p : Rp K G v d) : ∀ {kvs : List (Key × V)} {es : List (Key × PyData)}, RpE K G kvs es → RpE K G (kvs ++ [(k, v)]) (es ++ [(k, d)])
  | _, _, .nil => .cons p .nil
  | _, _, .cons h a => .cons h (rpe_snoc p a)
theorem rpe_any {k : Key} : ∀ {kvs : List (Key × V)} {es : List (Key × PyData)}, RpE K G kvs es → kvs.any (fun e => decide (e.1 = k)) = es.any (fun e => decide (e.1 = k))
  | _, _, .nil => rfl
  | _, _, .cons _ a => by simp only [List.any_cons]; rw [rpe_any a]
theorem RpE.put {k : Key} {v : V} {d : PyData} {kvs : List (Key × V)} {es : List (Key × PyData)} (r : RpE K G kvs es) (p : Rp K G v d) : RpE K G (putK kvs k v) (putE es k d) := by
  rw [putK_putE]
  unfold putE
  rw [rpe_any r]
  split
  · exact rpe_map p r
  · exact rpe_snoc p r
end
end Z

namespace Z
open PySem PySem.Spec PyProof.Rows L2
section
variable {X : Cx}
def DicEq (H : Hp) (x y : V) : Prop := ∃ a b ks ls, x = .ref a ∧ y = .ref b ∧ Rd H a (.dK ks) ∧ Rd H b (.dK ls) ∧ ks.length = ls.length ∧ ∀ p ∈ ks, valV ls p.1 = some p.2 ∧ flatB p.2 = true
def rEqDic : R2 := fun x y H Q => DicEq H x y ∧ Q (.bl true) H
def rNeDic : R2 := fun x y H Q => DicEq H x y ∧ Q (.bl false) H
theorem op_eqDic (hu : X.A.units + 1 < cLine) : OpR X (compareOp .Eq) rEqDic := fun pins s σ H x y v u Q I rx ry ⟨⟨a, b, ks, ls, ex, ey, ea, eb, hlen, hp⟩, q⟩ => by
  subst ex ey
  cases rx; cases ry
  obtain ⟨_, na, va, ra, da⟩ := ea.ok I.hok
  obtain ⟨_, nb, vb, rb, db⟩ := eb.ok I.hok
  have hl : va.length = vb.length := by rw [← ra.length, ← rb.length, hlen]
  exact PySem.W.keq_eq (knd := mixKind X.prog X.w) (r := true) na nb da db (Nat.lt_of_succ_lt hu) (fun _ => hits_all rb ra hp) (fin_bl I q (by simp [hl]))
theorem op_neDic (hu : X.A.units + 1 < cLine) : OpR X (compareOp .NotEq) rNeDic := fun pins s σ H x y v u Q I rx ry ⟨⟨a, b, ks, ls, ex, ey, ea, eb, hlen, hp⟩, q⟩ => by
  subst ex ey
  cases rx; cases ry
  obtain ⟨_, na, va, ra, da⟩ := ea.ok I.hok
  obtain ⟨_, nb, vb, rb, db⟩ := eb.ok I.hok
  have hl : va.length = vb.length := by rw [← ra.length, ← rb.length, hlen]
  exact PySem.W.keq_ne (knd := mixKind X.prog X.w) (r := true) na nb da db (Nat.lt_of_succ_lt hu) (fun _ => hits_all rb ra hp) (fin_bl I q (by simp [hl]))
end
section
variable {K : PySem.W.Frag} {σ : L2.St} {G H : Hp}
theorem RpE.mem : ∀ {kvs : List (Key × V)} {es : List (Key × PyData)} {k : Key} {v : V}, RpE K G kvs es → (k, v) ∈ kvs → ∃ d, (k, d) ∈ es ∧ Rp K G v d
  | _, _, _, _, .nil, h => by cases h
  | _, _, _, _, .cons p a, h => by
    rcases List.mem_cons.mp h with e | e
    · cases e; exact ⟨_, List.mem_cons_self, p⟩
    · obtain ⟨d, h1, h2⟩ := RpE.mem a e
      exact ⟨d, List.mem_cons_of_mem _ h1, h2⟩
end
end Z

namespace Z
open PySem PySem.Spec PyProof.Rows L2
abbrev W := List Nat
@[reducible] def dI (i : Int) : PyData := .int i
@[reducible] def dS (l : W) : PyData := .str (S l)
@[reducible] def dC (c : Nat) : PyData := .str (S [c])
@[reducible] def dB (b : Bool) : PyData := .bool b
@[reducible] def dL {α : Type} (D : α → PyData) (xs : List α) : PyData := .list (xs.map D)
@[reducible] def dP {α β : Type} (D : α → PyData) (E : β → PyData) (p : α × β) : PyData := .tuple [D p.1, E p.2]
@[reducible] def dM {α : Type} (D : α → PyData) (es : List (Key × α)) : PyData := dD (es.map fun e => (e.1, D e.2))
section
variable {K : PySem.W.Frag} {σ : L2.St} {G H : Hp} {ta tb te : TE} {tt : TT} {wi : TI} {D' : Ends}
theorem cutL_le {α : Type} (l : List α) (a b : Option Int) : (cutL l a b).length ≤ l.length := by
  unfold cutL
  rw [List.length_take, List.length_drop]
  omega
end
end Z

namespace Z
open PySem PySem.Spec PyProof.Rows L2
section
variable {K : PySem.W.Frag} {σ : L2.St} {G H : Hp} {ta tb te tx : TE} {tt : TT} {wi : TI}
structure Eqt {α : Type} [DecidableEq α] (D : α → PyData) (ok : α → Prop) (n : Nat) : Prop where
  eq : ∀ a b, PyData.eqv (D a) (D b) = decide (a = b)
  lay : ∀ a, ok a → (D a).canLay0 = true
  dep : ∀ a, (D a).depth ≤ n
def okS (l : W) : Prop := ∀ c ∈ l, c < 256
theorem strOk_S {l : W} (h : okS l) : PyData.canLay0 (dS l) = true := by
  show PyData.strOk (S l) = true
  unfold PyData.strOk
  rw [← Array.all_toList]
  refine List.all_eq_true.mpr fun c hc => ?_
  rw [S_cps] at hc
  have := h c hc
  exact decide_eq_true (by omega)
theorem eqt_I : Eqt dI (fun _ => True) 0 := ⟨fun a b => by simp only [dI, PyData.eqv]; exact Bool.beq_eq_decide_eq a b, fun a _ => by simp [PyData.canLay0], fun a => by simp [PyData.depth]⟩
theorem eqt_S : Eqt dS okS 0 := ⟨fun a b => by
  simp only [dS, PyData.eqv]
  by_cases h : a = b
  · subst h; simp
  · have : S a ≠ S b := fun e => h (S_inj e)
    simp [h, this], fun a h => strOk_S h, fun a => by simp [PyData.depth]⟩
section
variable {α β : Type} [DecidableEq α] [DecidableEq β] {D : α → PyData} {E : β → PyData} {ok : α → Prop} {ok' : β → Prop} {n m : Nat}
theorem eqvAll_map (e : Eqt D ok n) : ∀ xs ys : List α, PyData.eqvAll (xs.map D) (ys.map D) = decide (xs = ys)
  | [], [] => by simp [PyData.eqvAll]
  | x :: xs, y :: ys => by
    simp only [List.map_cons, PyData.eqvAll]
    rw [e.eq, eqvAll_map e xs ys]
    by_cases h1 : x = y <;> by_cases h2 : xs = ys <;> simp [h1, h2]
  | [], _ :: _ => by simp [PyData.eqvAll]
  | _ :: _, [] => by simp [PyData.eqvAll]
theorem layAll_map (e : Eqt D ok n) : ∀ xs : List α, (∀ x ∈ xs, ok x) → PyData.canLayAll0 (xs.map D) = true
  | [], _ => by simp [PyData.canLayAll0]
  | x :: xs, h => by
    simp only [List.map_cons, PyData.canLayAll0, Bool.and_eq_true]
    exact ⟨e.lay x (h x List.mem_cons_self), layAll_map e xs fun y hy => h y (List.mem_cons_of_mem _ hy)⟩
theorem depAll_map (e : Eqt D ok n) : ∀ xs : List α, PyData.depthAll (xs.map D) ≤ n
  | [] => by simp [PyData.depthAll]
  | x :: xs => by
    simp only [List.map_cons, PyData.depthAll]
    have h1 := e.dep x
    have h2 := depAll_map e xs
    omega
theorem eqt_L (e : Eqt D ok n) : Eqt (dL D) (fun xs => ∀ x ∈ xs, ok x) (n + 1) :=
  ⟨fun xs ys => by simp only [dL, PyData.eqv]; exact eqvAll_map e xs ys, fun xs h => by simp only [dL, PyData.canLay0]; exact layAll_map e xs h, fun xs => by simp only [dL, PyData.depth]; have := depAll_map e xs; omega⟩
theorem Eqt.shaped (e : Eqt D ok n) (hn : n ≤ 64) {a : α} (h : ok a) : SeqAt.shaped (D a) = true := by
  unfold SeqAt.shaped
  rw [e.lay a h]
  have := e.dep a
  simp
  omega
end
end
end Z

namespace Z
open PySem PySem.Spec PyProof.Rows L2
section
variable {K : PySem.W.Frag} {σ : L2.St} {G H : Hp}
end
end Z

namespace Z
open PySem PySem.Spec PyProof.Rows L2
section
variable {K : PySem.W.Frag} {σ : L2.St} {G H : Hp} {ta tb te tx : TE} {tt : TT} {wi : TI} {D : Ends}
end
end Z

namespace Z
open PySem PySem.Spec PyProof.Rows L2
abbrev kq (x : Str) : Key := Sum.inr x
def dkv (w c : Addr) (r t : Int) : List (Key × V) := [(kq "wide", .ref w), (kq "cells", .ref c), (kq "rest", .int r), (kq "turn", .int t)]
theorem k12 : decide ((kq "wide" : Key) = kq "cells") = false := by decide +kernel
theorem k13 : decide ((kq "wide" : Key) = kq "rest") = false := by decide +kernel
theorem k14 : decide ((kq "wide" : Key) = kq "turn") = false := by decide +kernel
theorem k23 : decide ((kq "cells" : Key) = kq "rest") = false := by decide +kernel
theorem k24 : decide ((kq "cells" : Key) = kq "turn") = false := by decide +kernel
theorem k34 : decide ((kq "rest" : Key) = kq "turn") = false := by decide +kernel
theorem k43 : decide ((kq "turn" : Key) = kq "rest") = false := by decide +kernel
theorem kd (k : Key) : decide (k = k) = true := by simp
section
variable (w c : Addr) (r t : Int)
theorem g_wide : valV (dkv w c r t) (kq "wide") = some (.ref w) := by
  unfold valV dkv; rw [List.find?_cons, kd]; rfl
theorem g_cells : valV (dkv w c r t) (kq "cells") = some (.ref c) := by
  unfold valV dkv; rw [List.find?_cons, k12, List.find?_cons, kd]; rfl
theorem g_rest : valV (dkv w c r t) (kq "rest") = some (.int r) := by
  unfold valV dkv; rw [List.find?_cons, k13, List.find?_cons, k23, List.find?_cons, kd]; rfl
theorem g_turn : valV (dkv w c r t) (kq "turn") = some (.int t) := by
  unfold valV dkv; rw [List.find?_cons, k14, List.find?_cons, k24, List.find?_cons, k34, List.find?_cons, kd]; rfl
theorem p_rest (r' : Int) : putK (dkv w c r t) (kq "rest") (.int r') = dkv w c r' t := by
  rw [putK_putE]
  unfold putE dkv
  rw [if_pos (by simp)]
  have e1 : ¬ (kq "wide" : Key) = kq "rest" := of_decide_eq_false k13
  have e2 : ¬ (kq "cells" : Key) = kq "rest" := of_decide_eq_false k23
  have e3 : ¬ (kq "turn" : Key) = kq "rest" := of_decide_eq_false k43
  simp only [List.map_cons, List.map_nil, if_neg e1, if_neg e2, if_neg e3, if_true]
theorem p_turn (t' : Int) : putK (dkv w c r t) (kq "turn") (.int t') = dkv w c r t' := by
  rw [putK_putE]
  unfold putE dkv
  rw [if_pos (by simp)]
  have e1 : ¬ (kq "wide" : Key) = kq "turn" := of_decide_eq_false k14
  have e2 : ¬ (kq "cells" : Key) = kq "turn" := of_decide_eq_false k24
  have e3 : ¬ (kq "rest" : Key) = kq "turn" := of_decide_eq_false k34
  simp only [List.map_cons, List.map_nil, if_neg e1, if_neg e2, if_neg e3, if_true]
end
def Drw (m w : Addr) (n : Nat) (G H : Hp) : Prop := ∃ (c : Addr) (ws cs : List Int) (r t : Int), H m = some (.dK (dkv w c r t)) ∧ H w = some (.lst (ws.map .int)) ∧ G c = some (.lst (cs.map .int)) ∧ c ≠ w ∧ (∀ x ∈ cs, 0 ≤ x ∧ x < 2147483648) ∧ 0 ≤ t ∧ t + n ≤ 1000000000000
theorem Drw.mono {m w : Addr} {n n' : Nat} {G H : Hp} (d : Drw m w n G H) (h : n' ≤ n) : Drw m w n' G H := by
  obtain ⟨c, ws, cs, r, t, h1, h2, h3, h4, h5, h6, h7⟩ := d
  exact ⟨c, ws, cs, r, t, h1, h2, h3, h4, h5, h6, by omega⟩
structure UpM (m w : Addr) (G H G2 H2 : Hp) : Prop where
  g : Le G G2
  i : In G2 H2
  h : ∀ a, a ≠ m → a ≠ w → ∀ o, H a = some o → H2 a = some o
  n : ∀ a o, G2 a = some o → G a = some o ∨ H a = none
theorem UpM.refl {m w : Addr} {G H : Hp} (i : In G H) : UpM m w G H G H := ⟨Le.refl _, i, fun _ _ _ _ e => e, fun _ _ e => .inl e⟩
theorem UpM.of {m w : Addr} {G H G2 H2 : Hp} (u : Up G H G2 H2) : UpM m w G H G2 H2 := ⟨u.g, u.i, fun a _ _ o e => u.h a o e, u.n⟩
structure DOk (m w : Addr) (n : Nat) (G H : Hp) : Prop where
  i : In G H
  gm : G m = none
  gw : G w = none
  d : Drw m w n G H
theorem DOk.hm {m w : Addr} {n : Nat} {G H : Hp} (d : DOk m w n G H) : H m ≠ none := by
  obtain ⟨c, ws, cs, r, t, h1, _⟩ := d.d
  rw [h1]; intro q; cases q
theorem DOk.hw {m w : Addr} {n : Nat} {G H : Hp} (d : DOk m w n G H) : H w ≠ none := by
  obtain ⟨c, ws, cs, r, t, h1, h2, _⟩ := d.d
  rw [h2]; intro q; cases q
theorem Drw.up {m w : Addr} {n : Nat} {G G2 H H2 : Hp} (d : Drw m w n G H) (g : Le G G2) (l : Le H H2) : Drw m w n G2 H2 := by
  obtain ⟨c, ws, cs, r, t, h1, h2, h3, h⟩ := d
  exact ⟨c, ws, cs, r, t, l _ _ h1, l _ _ h2, g _ _ h3, h⟩
theorem DOk.up {m w : Addr} {n : Nat} {G H G2 H2 : Hp} (d : DOk m w n G H) (u : Up G H G2 H2) : DOk m w n G2 H2 :=
  ⟨u.i, u.hide d.hm d.gm, u.hide d.hw d.gw, d.d.up u.g u.h⟩
theorem DOk.mono {m w : Addr} {n n' : Nat} {G H : Hp} (d : DOk m w n G H) (h : n' ≤ n) : DOk m w n' G H := ⟨d.i, d.gm, d.gw, d.d.mono h⟩
theorem UpM.trans {m w : Addr} {n : Nat} {G H G2 H2 G3 H3 : Hp} (d2 : DOk m w n G2 H2) (u : UpM m w G H G2 H2) (v : UpM m w G2 H2 G3 H3) : UpM m w G H G3 H3 :=
  ⟨u.g.trans v.g, v.i, fun a h1 h2 o e => v.h a h1 h2 o (u.h a h1 h2 o e), fun a o e => by
    rcases v.n a o e with q | q
    · exact u.n a o q
    · refine .inr ?_
      cases hh : H a with
      | none => rfl
      | some o' =>
        by_cases h1 : a = m
        · subst h1; exact absurd q d2.hm
        · by_cases h2 : a = w
          · subst h2; exact absurd q d2.hw
          · rw [u.h a h1 h2 o' hh] at q; cases q⟩
def sp__law_take (K : PySem.W.Frag) (ca : Str → Addr) : Sp := fun vs H Q E => ∃ (G : Hp) (m w : Addr) (n : Nat) (tot : Int), vs = [.ref m, .int tot] ∧ DOk m w (n + 1) G H ∧ 0 < tot ∧ tot < 1000000000 ∧
  ∀ v H2, 0 ≤ v → v < tot → UpM m w G H G H2 → DOk m w n G H2 → Q (.int v) H2
def sp__law_mixed (K : PySem.W.Frag) (ca : Str → Addr) : Sp := fun vs H Q E => ∃ (m w c : Addr) (n : Nat) (ws cs : List Int) (r t : Int), vs = [.ref m] ∧ H m = some (.dK (dkv w c r t)) ∧ H w = some (.lst (ws.map .int)) ∧ H c = some (.lst (cs.map .int)) ∧ (∀ x ∈ cs, 0 ≤ x ∧ x < 2147483648) ∧ 0 ≤ t ∧ t + 1 ≤ 1000000000000 ∧
  ∀ v H2, (∀ a, a ≠ m → ∀ o, H a = some o → H2 a = some o) → H2 m = some (.dK (dkv w c r (t + 1))) → Q (.int v) H2
end Z

namespace Z
open PySem PySem.Spec PyProof.Rows L2
def t__law_mixed (K : PySem.W.Frag) (ca : Str → Addr) (E : XK) : TS := (tSeq ((tPar 1 2 ((tCons ((tOp (rI0 fun i j => .int (i + j)) ((tDGet ((tVar 0)) (tC (.str "turn")))) (tC (.int 1)))) ((tCons (tC (.int 0)) (tNil))))))) ((tSeq ((sDPut ((tVar 0)) (tC (.str "turn")) ((tVar 1)))) ((tSeq ((tFor ((iList K ((tLst ((tCons (tC (.int 2147483629)) ((tCons (tC (.int 2147483587)) ((tCons (tC (.int 2147483579)) ((tCons (tC (.int 2147483563)) (tNil))))))))))))) ((gName 3)) ((tSeq ((tAsg ((tOp (rI0 fun i j => .int (i + j)) ((tOp (rI CMul fun i j => .int (i * j)) (tC (.int 62617)) ((tVar 1)))) ((tOp (rI CDivN fun i j => .int (i.fdiv j)) ((tVar 3)) (tC (.int 31)))))) (gName 4))) ((tSeq ((tFor ((iList K ((tDGet ((tVar 0)) (tC (.str "cells")))))) ((gName 5)) ((tAsg ((tOp (rI (fun _ j => j ≠ 0) fun i j => .int (i.fmod j)) ((tCB (rInt1) ((tCons ((tOp (rI0 fun i j => .int (i + j)) ((tOp (rI0 fun i j => .int (i + j)) ((tOp (rI CMul fun i j => .int (i * j)) ((tVar 4)) (tC (.int 48271)))) ((tVar 5)))) ((tVar 1)))) (tNil))))) ((tVar 3)))) (gName 4))))) ((tAsg ((tOp (rI0 fun i j => .int (i + j)) ((tOp (rI CMul fun i j => .int (i * j)) ((tVar 2)) (tC (.int 2147483647)))) ((tOp (rI (fun _ j => j ≠ 0) fun i j => .int (i.fmod j)) ((tCB (rInt1) ((tCons ((tOp (rI CPow fun i j => .int (i ^ j.toNat)) ((tVar 4)) (tC (.int 5)))) (tNil))))) ((tVar 3)))))) (gName 2))))))))) ((tRet ((tVar 2)))))))))
def t__law_take (K : PySem.W.Frag) (ca : Str → Addr) (E : XK) : TS := (tSeq ((tIfS ((tTest (tOp (rEq) ((tDGet ((tVar 0)) (tC (.str "rest")))) (tC (.int 0))))) ((sDPut ((tVar 0)) (tC (.str "rest")) ((tIf ((tTest (tOp (rNeD K) ((tDGet ((tVar 0)) (tC (.str "wide")))) ((tLst (tNil)))))) ((tBM K "list" rPopAt ((tDGet ((tVar 0)) (tC (.str "wide")))) ((tCons (tC (.int 0)) (tNil))))) ((tCall (sp__law_mixed K ca) [] E ((tCons ((tVar 0)) (tNil))))))))) (tNext))) ((tSeq ((tAsg ((tOp (rI (fun _ j => j ≠ 0) fun i j => .int (i.fmod j)) ((tCB (rInt1) ((tCons ((tDGet ((tVar 0)) (tC (.str "rest")))) (tNil))))) ((tVar 1)))) (gName 2))) ((tSeq ((sDPut ((tVar 0)) (tC (.str "rest")) ((tOp (rI CDivN fun i j => .int (i.fdiv j)) ((tDGet ((tVar 0)) (tC (.str "rest")))) ((tVar 1)))))) ((tRet ((tVar 2)))))))))
theorem dget_of {H : Hp} {a : Addr} {kvs : List (Key × V)} {x : Str} {v : V} (h : H a = some (.dK kvs)) (e : valV kvs (kq x) = some v) : DGet H a (.str x) (some v) := .inl ⟨kvs, kq x, .inl h, rfl, e.symm⟩
theorem fmod_bd (a b : Int) (h : 0 < b) : 0 ≤ Int.fmod a b ∧ Int.fmod a b < b := by
  rw [Int.fmod_eq_emod_of_nonneg _ (by omega)]
  exact ⟨Int.emod_nonneg _ (by omega), Int.emod_lt_of_pos _ h⟩
theorem pure__law_mixed {K : PySem.W.Frag} {ca : Str → Addr} (vs : List V) (H : Hp) (Q : VK) (E : XK) (h : sp__law_mixed K ca vs H Q E) : vs.length = 1 ∧ t__law_mixed K ca E { nx := fun _ H2 => Q .non H2, rt := Q } (start ["_law_draw", "_law_tick", "_law_found", "_law_prime", "_law_blend", "_law_cell"] vs) H := by
  obtain ⟨m, w, c, n, ws, cs, r, t, rfl, hm, hw, hc, hcs, ht, htn, k⟩ := h
  refine ⟨rfl, ?_⟩
  refine ⟨.ref m, rfl, m, .int t, rfl, dget_of hm (g_turn w c r t), t, 1, rfl, rfl, .int (t + 1), .int 0, rfl, ?_⟩
  refine ⟨.int (t + 1), rfl, .ref m, rfl, m, upd H m (.dK (dkv w c r (t + 1))), rfl, .inl ⟨_, kq "turn", hm, rfl, by show 4 < sizeLine; decide, by rw [p_turn]⟩, ?_⟩
  refine ⟨by show 4 ≤ sizeLine; decide, fun p hp => ⟨p, rfl, ⟨_, .inl (.inl upd_same)⟩, ?_⟩⟩
  have npm : p ≠ m := fun e => by rw [e, upd_same] at hp; cases hp
  have ncm : c ≠ m := fun e => by rw [e, hm] at hc; cases hc
  have hp0 : H p = none := by rw [upd_ne npm] at hp; exact hp
  have ncp : c ≠ p := fun e => by rw [e, hp0] at hc; cases hc
  refine for_list (K := K) (a := p) (xs := [V.int 2147483629, V.int 2147483587, V.int 2147483579, V.int 2147483563]) (fun i σ H' => ∃ (f : Int) (v3 v4 v5 : Option V), σ = [some (.ref m), some (.int (t + 1)), some (.int f), v3, v4, v5] ∧ H' = upd (upd H m (.dK (dkv w c r (t + 1)))) p (.lst [V.int 2147483629, V.int 2147483587, V.int 2147483579, V.int 2147483563])) ⟨0, none, none, none, rfl, rfl⟩ (fun i σ H' _ ⟨_, _, _, _, _, e⟩ => by rw [e]; exact .inl (.inl upd_same)) ?_ ?_
  · rintro i x σ H' hx ⟨f, v3, v4, v5, rfl, eH⟩
    obtain ⟨pr, rfl, hpr⟩ : ∃ pr, x = V.int pr ∧ 2147483563 ≤ pr ∧ pr ≤ 2147483629 := by
      have hm2 := List.mem_of_getElem? hx
      simp only [List.mem_cons, List.not_mem_nil, or_false] at hm2
      rcases hm2 with e | e | e | e <;> exact ⟨_, e, by omega, by omega⟩
    have hm' : H' m = some (.dK (dkv w c r (t + 1))) := by rw [eH, upd_ne npm.symm, upd_same]
    have hc' : H' c = some (.lst (cs.map .int)) := by rw [eH, upd_ne ncp, upd_ne ncm]; exact hc
    refine ⟨.int (t + 1), rfl, 62617, t + 1, rfl, rfl, .inl ⟨by decide, by decide⟩, .int pr, rfl, pr, 31, rfl, rfl, ⟨by decide, by decide⟩, _, _, rfl, rfl, ?_⟩
    have hb0 : 0 ≤ 62617 * (t + 1) + Int.fdiv pr 31 ∧ 62617 * (t + 1) + Int.fdiv pr 31 < 1000000000000000000 := by
      rw [Int.fdiv_eq_ediv_of_nonneg _ (by omega)]
      omega
    refine ⟨.ref m, rfl, m, .ref c, rfl, dget_of hm' (g_cells w c r (t + 1)), c, rfl, ⟨_, .inl (.inl hc')⟩, ?_⟩
    refine for_list (K := K) (a := c) (xs := cs.map V.int) (fun j σ H'' => H'' = H' ∧ ∃ (b : Int) (u5 : Option V), σ = [some (.ref m), some (.int (t + 1)), some (.int f), some (.int pr), some (.int b), u5] ∧ 0 ≤ b ∧ b < 1000000000000000000) ⟨rfl, _, v5, rfl, hb0⟩ (fun j σ H'' _ ⟨e, _⟩ => by rw [e]; exact .inl (.inl hc')) ?_ ?_
    · rintro j y σ H'' hy ⟨rfl, b, u5, rfl, hb⟩
      obtain ⟨cv, rfl⟩ : ∃ cv, y = V.int cv := by
        rw [List.getElem?_map] at hy
        cases q : cs[j]? with
        | none => rw [q] at hy; cases hy
        | some cv => rw [q] at hy; exact ⟨cv, (Option.some.inj hy).symm⟩
      refine ⟨.int b, rfl, b, 48271, rfl, rfl, .inr ⟨by decide, by decide⟩, .int cv, rfl, _, cv, rfl, rfl, .int (t + 1), rfl, _, t + 1, rfl, rfl, .inl ⟨_, rfl, .int pr, rfl, _, pr, rfl, rfl, by omega, ?_⟩⟩
      have hf := fmod_bd (b * 48271 + cv + (t + 1)) pr (by omega)
      exact ⟨rfl, _, _, rfl, hf.1, by omega⟩
    · rintro σ H'' ⟨rfl, b, u5, rfl, hb⟩
      refine ⟨.int f, rfl, f, 2147483647, rfl, rfl, .inr ⟨by decide, by decide⟩, .int b, rfl, b, 5, rfl, rfl, ⟨by decide, by decide, by omega⟩, .inl ⟨_, rfl, .int pr, rfl, _, pr, rfl, rfl, by omega, _, _, rfl, rfl, ?_⟩⟩
      exact ⟨_, _, _, _, rfl, eH⟩
  · rintro σ H' ⟨f, v3, v4, v5, rfl, eH⟩
    refine ⟨.int f, rfl, k f H' (fun a ha o e => ?_) (by rw [eH, upd_ne npm.symm, upd_same])⟩
    have nap : a ≠ p := fun z => by rw [z, hp0] at e; cases e
    rw [eH, upd_ne nap, upd_ne ha]
    exact e
end Z

namespace Z
open PySem PySem.Spec PyProof.Rows L2
theorem sql_in {K : PySem.W.Frag} {G H : Hp} {a : Addr} {xs : List V} (h : SqL K G a xs) (i : In G H) : SqL K H a xs := by
  rcases h with q | q
  · rcases q with q | ⟨o, q⟩
    · exact .inl (.inl (i.ex q rfl))
    · exact .inl (.inr ⟨o, i.ex q rfl⟩)
  · exact .inr q
theorem sql_le {K : PySem.W.Frag} {G H : Hp} {a : Addr} {xs : List V} (h : SqL K G a xs) (i : Le G H) : SqL K H a xs := by
  rcases h with q | q
  · rcases q with q | ⟨o, q⟩
    · exact .inl (.inl (i _ _ q))
    · exact .inl (.inr ⟨o, i _ _ q⟩)
  · exact .inr q
theorem wk_scr {K : PySem.W.Frag} {G : Hp} {a : Addr} {ns : List Int} (h : SqL K G a (ns.map .int)) : WkD K (Itl K a) G (ns.map .int) := fun G' H' l i => by
  have e : SqL K H' a (ns.map .int) := sql_in (sql_le h l) i
  have W := walk_list (K := K) (a := a) (xs := ns.map .int)
  refine ⟨by have := W.stops H' e; rw [List.length_map] at this ⊢; exact this, fun j d hd => ?_⟩
  rw [List.getElem?_map] at hd
  cases hn : ns[j]? with
  | none => rw [hn] at hd; cases hd
  | some n =>
    rw [hn] at hd
    cases hd
    have hj : j < (ns.map V.int).length := by rw [List.length_map]; exact (List.getElem?_eq_some_iff.mp hn).1
    refine ⟨W.goes j H' hj e, fun x H2 y => ?_⟩
    obtain ⟨e1, e2⟩ := W.yields j H' x H2 hj e y
    rw [List.getElem?_map, hn] at e2
    cases e2
    subst e1
    exact ⟨G', Up.refl i, .int n⟩
theorem ei_scr {K : PySem.W.Frag} {G : Hp} {σ : L2.St} {k : Nat} {a : Addr} {ns : List Int} (hv : σ[k]? = some (some (.ref a))) (h : SqL K G a (ns.map .int)) : EvI K (iList K (tVar k)) σ G (ns.map .int) := fun G1 H1 l i R q =>
  ⟨.ref a, hv, a, rfl, ⟨_, sql_in (sql_le h l) i⟩, q _ G1 H1 (Up.refl i) (wk_scr (sql_le h l))⟩
theorem merge4 (w c : Addr) : mergeK [] [(kq "wide", V.ref w), (kq "cells", .ref c), (kq "rest", .int 0), (kq "turn", .int 0)] = dkv w c 0 0 := by
  have e1 := of_decide_eq_false k12
  have e2 := of_decide_eq_false k13
  have e3 := of_decide_eq_false k14
  have e4 := of_decide_eq_false k23
  have e5 := of_decide_eq_false k24
  have e6 := of_decide_eq_false k34
  unfold mergeK dkv
  simp only [List.foldl_cons, List.foldl_nil, putK_putE]
  simp only [putE, List.any_nil, List.any_cons, List.nil_append, List.cons_append, decide_eq_false e1, decide_eq_false e2, decide_eq_false e3, decide_eq_false e4, decide_eq_false e5, decide_eq_false e6, Bool.or_false, if_false, Bool.false_eq_true]
def t__law_begun (K : PySem.W.Frag) (ca : Str → Addr) (E : XK) : TS := (tSeq ((tAsg (tLc ((iList K ((tVar 0)))) ((gName 2)) ((tTest (tOp (rI0 fun i j => .bl (decide (j ≤ i))) ((tCB (rAbs) ((tCons ((tVar 2)) (tNil))))) ((tOp (rI CPow fun i j => .int (i ^ j.toNat)) (tC (.int 10)) (tC (.int 18))))))) ((tOp (rI0 fun i j => .int (i - j)) ((tCB (rAbs) ((tCons ((tVar 2)) (tNil))))) ((tOp (rI CPow fun i j => .int (i ^ j.toNat)) (tC (.int 10)) (tC (.int 18)))))) [2]) (gName 1))) ((tRet ((tDisp [(tC (.str "wide"), (tVar 1)), (tC (.str "cells"), (tLc ((iList K ((tVar 0)))) ((gName 2)) (tYes) ((tOp (rI (fun _ j => j ≠ 0) fun i j => .int (i.fmod j)) ((tCB (rInt1) ((tCons ((tCB (rAbs) ((tCons ((tVar 2)) (tNil))))) (tNil))))) (tC (.int 2147483629)))) [2])), (tC (.str "rest"), tC (.int 0)), (tC (.str "turn"), tC (.int 0))])))))
end Z

namespace Z
open PySem PySem.Spec PyProof.Rows L2
end Z

namespace Z
open PySem PySem.Spec PyProof.Rows L2
def EvN (K : PySem.W.Frag) (m w : Addr) (b : Nat) (t : TE) (σ : L2.St) (G : Hp) {α : Type} (D : α → PyData) (P : α → Prop) : Prop :=
  ∀ n G1 H1, Le G G1 → DOk m w (n + b) G1 H1 → ∀ Q : VK, (∀ v a G2 H2, UpM m w G1 H1 G2 H2 → DOk m w n G2 H2 → P a → Rp K G2 v (D a) → Q v H2) → t σ H1 Q
section
variable {K : PySem.W.Frag} {ca : Str → Addr} {E : XK} {σ : L2.St} {G H : Hp} {ta tb te tx : TE} {tt : TT} {wi : TI} {D : Ends} {m w : Addr} {b b' n : Nat}
theorem EvN.imp {α : Type} {DD : α → PyData} {P P' : α → Prop} (h : EvN K m w b te σ G DD P) (f : ∀ a, P a → P' a) : EvN K m w b te σ G DD P' := fun n G1 H1 l d Q q => h n G1 H1 l d Q fun v a G2 H2 u d2 p r => q v a G2 H2 u d2 (f a p) r
theorem EvN.mono {α : Type} {DD : α → PyData} {P : α → Prop} {G' : Hp} (l : Le G G') (h : EvN K m w b te σ G DD P) : EvN K m w b te σ G' DD P := fun n G1 H1 l1 d Q q => h n G1 H1 (l.trans l1) d Q q
end
end Z

namespace Z
open PySem PySem.Spec PyProof.Rows L2
section
variable {K : PySem.W.Frag} {σ : L2.St} {G H : Hp} {ta tb te tk tv : TE} {tt : TT} {wi : TI} {D : Ends}
theorem rp_key {v : V} {k : Key} (h : Rp K G v (kD k)) : v = kV k := by
  cases k with
  | inl i => exact rp_int h
  | inr x => exact rp_str h
end
end Z

namespace Z
open PySem PySem.Spec PyProof.Rows L2
end Z

namespace Z
open PySem PySem.Spec PyProof.Rows L2
section
variable {K : PySem.W.Frag} {ca : Str → Addr} {E : XK} {σ : L2.St} {G H : Hp} {ta tb te tx : TE} {tt : TT} {wi : TI} {D : Ends} {m w : Addr} {b b' n : Nat} {Q : VK}
end
section
variable {K : PySem.W.Frag} {σ : L2.St} {G H : Hp} {wi : TI} {D : Ends} {m w : Addr} {b n : Nat}
end
def itemsD : PyData → List PyData
  | .list ds => ds
  | .str x => x.cps.toList.map fun c => .str (S [c])
  | _ => []
def sp__law_pick (K : PySem.W.Frag) (ca : Str → Addr) : Sp := fun vs H Q E => ∃ (G : Hp) (m w : Addr) (n : Nat) (v : V) (d : PyData), vs = [.ref m, v] ∧ DOk m w (n + 1) G H ∧ Rp K G v d ∧ itemsD d ≠ [] ∧ (itemsD d).length ≤ 100000 ∧
  ∀ u e G2 H2, e ∈ itemsD d → UpM m w G H G2 H2 → DOk m w n G2 H2 → Rp K G2 u e → Q u H2
def t__law_pick (K : PySem.W.Frag) (ca : Str → Addr) (E : XK) : TS := (tRet ((tOp (rIx K) ((tVar 1)) ((tCall (sp__law_take K ca) [] E ((tCons ((tVar 0)) ((tCons ((tCB (rLenU K) ((tCons ((tVar 1)) (tNil))))) (tNil))))))))))
section
variable {K : PySem.W.Frag} {ca : Str → Addr} {E : XK} {G H : Hp} {m w : Addr} {n : Nat} {v : V} {Q : VK}
end
def t__law_signs (K : PySem.W.Frag) (ca : Str → Addr) (E : XK) : TS := (tRet ((tCall (sp__law_pick K ca) [] E ((tCons ((tVar 0)) ((tCons ((tLst ((tCons (tC (.str "a")) ((tCons (tC (.str "ac")) ((tCons (tC (.str "ag")) ((tCons (tC (.str "ct")) ((tCons (tC (.str "aac")) ((tCons (tC (.str "acg")) ((tCons (tC (.str "acgt")) ((tCons (tC (.str "acgt")) ((tCons (tC (.str "gt")) ((tCons (tC (.str "aaact")) (tNil))))))))))))))))))))))) (tNil))))))))
def t__law_letters (K : PySem.W.Frag) (ca : Str → Addr) (E : XK) : TS := (tRet ((tM1 (rJoin K) (tC (.str "")) ((tLc ((iRng1 ((tCons ((tVar 2)) (tNil))))) ((gName 3)) (tYes) ((tCall (sp__law_pick K ca) [] E0 ((tCons ((tVar 0)) ((tCons ((tVar 1)) (tNil))))))) [3])))))
end Z

namespace Z
open PySem PySem.Spec PyProof.Rows L2
section
variable {K : PySem.W.Frag} {σ : L2.St} {G H : Hp} {te ta tb : TE}
end
def acgt : W := [97, 99, 103, 116]
def m_is_integer : PyData → Bool
  | .int _ => true
  | _ => false
def m_is_between (d : PyData) (lo hi : Int) : Bool := match d with
  | .int i => decide (lo ≤ i) && decide (i ≤ hi)
  | _ => false
def lineB (l : W) : Bool := l.all fun c => decide (c ∈ acgt)
def m_is_line : PyData → Bool
  | .str s => lineB s.cps.toList
  | _ => false
def wordB (l : W) : Bool := lineB l && decide (0 < l.length)
def m_is_word : PyData → Bool
  | .str s => wordB s.cps.toList
  | _ => false
def okD : PyData → Prop
  | .str s => s.cps.toList.length ≤ 100000
  | _ => True
def sp_is_integer (K : PySem.W.Frag) (ca : Str → Addr) : Sp := fun vs H Q E => ∃ (G : Hp) (d : PyData), In G H ∧ RpA K G vs [d] ∧ Ret K G H Q (.bool (m_is_integer d))
def sp_is_between (K : PySem.W.Frag) (ca : Str → Addr) : Sp := fun vs H Q E => ∃ (G : Hp) (d : PyData) (lo hi : Int), In G H ∧ RpA K G vs [d, .int lo, .int hi] ∧ Ret K G H Q (.bool (m_is_between d lo hi))
def sp_is_line (K : PySem.W.Frag) (ca : Str → Addr) : Sp := fun vs H Q E => ∃ (G : Hp) (d : PyData), In G H ∧ RpA K G vs [d] ∧ okD d ∧ Ret K G H Q (.bool (m_is_line d))
def sp_is_word (K : PySem.W.Frag) (ca : Str → Addr) : Sp := fun vs H Q E => ∃ (G : Hp) (d : PyData), In G H ∧ RpA K G vs [d] ∧ okD d ∧ Ret K G H Q (.bool (m_is_word d))
section
variable {K : PySem.W.Frag} {ca : Str → Addr} {E : XK}
end
def t_is_integer (K : PySem.W.Frag) (ca : Str → Addr) (E : XK) : TS := (tRet ((tAndV ((tCB (rIsi K) ((tCons ((tVar 0)) ((tCons (tC (.ty "int")) (tNil))))))) ((tNotV ((tCB (rIsi K) ((tCons ((tVar 0)) ((tCons (tC (.ty "bool")) (tNil))))))))))))
def t_is_between (K : PySem.W.Frag) (ca : Str → Addr) (E : XK) : TS := (tRet ((tAndV ((tCall (sp_is_integer K ca) [] E ((tCons ((tVar 0)) (tNil))))) ((tChain (rI0 fun i j => .bl (decide (i ≤ j))) (rI0 fun i j => .bl (decide (i ≤ j))) ((tVar 1)) ((tVar 0)) ((tVar 2)))))))
def t_is_line (K : PySem.W.Frag) (ca : Str → Addr) (E : XK) : TS := (tRet ((tAndV ((tCB (rIsi K) ((tCons ((tVar 0)) ((tCons (tC (.ty "str")) (tNil))))))) ((tCB (rAll K) ((tCons ((tLc ((iStr ((tVar 0)))) ((gName 1)) (tYes) ((tOp (rInC) ((tVar 1)) (tC (.str "acgt")))) [1])) (tNil))))))))
def t_is_word (K : PySem.W.Frag) (ca : Str → Addr) (E : XK) : TS := (tRet ((tAndV ((tCall (sp_is_line K ca) [] E ((tCons ((tVar 0)) (tNil))))) ((tOp (rI0 fun i j => .bl (decide (j < i))) ((tCB (rLenU K) ((tCons ((tVar 0)) (tNil))))) (tC (.int 0)))))))
def t_need_word (K : PySem.W.Frag) (ca : Str → Addr) (E : XK) : TS := (tIfS ((tNot ((tB ((tCall (sp_is_word K ca) [] E ((tCons ((tVar 0)) (tNil))))))))) ((tRaise (fun cls d _ H => E cls d H) (fun _ H Q => Q (.ref (ca "BadWord")) none H))) (tNext))
def t_need_length (K : PySem.W.Frag) (ca : Str → Addr) (E : XK) : TS := (tIfS ((tNot ((tB ((tCall (sp_is_between K ca) [] E ((tCons ((tVar 0)) ((tCons (tC (.int 1)) ((tCons (tC (.int 120)) (tNil))))))))))))) ((tRaise (fun cls d _ H => E cls d H) (fun _ H Q => Q (.ref (ca "BadLength")) none H))) (tNext))
section
variable {K : PySem.W.Frag} {ca : Str → Addr}
end
end Z

namespace Z
open PySem PySem.Spec PyProof.Rows L2
section
variable {K : PySem.W.Frag} {ca : Str → Addr} {E : XK} {G H : Hp} {m w : Addr} {n : Nat} {v : V} {Q : VK}
end
def t__law_odd (K : PySem.W.Frag) (ca : Str → Addr) (E : XK) : TS := (tSeq ((tAsg ((tLst ((tCons (tC .non) ((tCons (tC (.bl true)) ((tCons (tC (.bl false)) ((tCons ((tUn (rU fun i => .int (-i)) (tC (.int 1)))) ((tCons ((tOp (rI0 fun i j => .int (i - j)) ((tOp (rI CPow fun i j => .int (i ^ j.toNat)) (tC (.int 10)) (tC (.int 30)))) (tC (.int 1)))) ((tCons (tC (.str "")) ((tCons (tC (.str "A")) ((tCons (tC (.str "acgu")) ((tCons (tC (.str "a c")) ((tCons (tC (.str " a")) ((tCons (tC (.str "ac\n")) ((tCons ((tTup (tNil))) ((tCons ((tLst (tNil))) ((tCons (tDNewK) ((tCons ((tTup ((tCons (tC (.str "a")) (tNil))))) ((tCons ((tLst ((tCons (tC (.str "a")) (tNil))))) (tNil))))))))))))))))))))))))))))))))))) (gName 1))) ((tRet ((tCall (sp__law_pick K ca) [] E ((tCons ((tVar 0)) ((tCons ((tOp (rCat) ((tVar 1)) ((tLst ((tCons ((tDisp [(tC (.str "a"), tC (.int 1))])) ((tCons ((tTup ((tCons (tC .non) (tNil))))) ((tCons (tC (.str "1")) ((tCons ((tTup ((tCons (tC (.str "a")) ((tCons (tC (.str "c")) (tNil))))))) ((tCons ((tLst ((tCons ((tLst ((tCons (tC (.str "a")) (tNil))))) (tNil))))) ((tCons (tC (.str "n")) (tNil))))))))))))))))) (tNil))))))))))
end Z

namespace Z
open PySem PySem.Spec PyProof.Rows L2
def perm (is : List Nat) {α : Type} (us ws : List α) : List α := is.filterMap fun i => (us ++ ws)[i]?
theorem vals_get {vs : List V} {us : List Value} (r : Vals vs us) : ∀ i : Nat, (vs[i]? = none ∧ us[i]? = none) ∨ ∃ v u, vs[i]? = some v ∧ us[i]? = some u ∧ RelV v u := by
  induction r with
  | nil => intro i; exact .inl ⟨by simp, by simp⟩
  | cons h _ ih =>
    intro i
    cases i with
    | zero => exact .inr ⟨_, _, rfl, rfl, h⟩
    | succ i => simpa using ih i
theorem perm_rel (is : List Nat) {vs zs : List V} {us ws : List Value} (r : Vals vs us) (rz : Vals zs ws) : Vals (perm is vs zs) (perm is us ws) := by
  have ra := r.append rz
  unfold perm
  induction is with
  | nil => exact .nil
  | cons i is ih =>
    rcases vals_get ra i with ⟨e1, e2⟩ | ⟨v, u, e1, e2, h⟩
    · rw [List.filterMap_cons_none e1, List.filterMap_cons_none e2]; exact ih
    · rw [List.filterMap_cons_some e1, List.filterMap_cons_some e2]; exact .cons h ih
theorem kb_of {K : PySem.W.Frag} {x qual : Str} {params : Arguments} {body : List Stmt} {scope : Scope} {f : Addr} {fd : FuncData} {ps : List Str} (F : FunD K x qual params body scope [] [] f fd) (n : Nat) (ks : List Str) (is : List Nat)
    (h : ∀ (kV doc pm : Value) (an : Option Addr) (cdv ct : Value) (us ws : List Value), us.length = n → ws.length = ks.length → bindArgs (PySem.W.fnOf x qual params body scope .none kV doc pm an cdv ct) ⟨us, ks.zip ws⟩ = pure (ps.zip (perm is us ws))) : KBn K fd ps n ks (perm is) (perm is) := by
  obtain ⟨oc, od, dV, kV, doc, pm, an, cdv, ct, osl, rfl, lk, hcd, hD, hK⟩ := F.ex
  rcases hD with ⟨_, rfl⟩ | ⟨e, _⟩
  · exact ⟨fun s us ws _ l1 l2 => .of_eq (h kV doc pm an cdv ct us ws l1 l2), fun r rz => perm_rel is r rz⟩
  · exact absurd rfl e
section
variable {X : Cx} {k n : Nat} {x : Str} {ps ks : List Str} {is : List Nat} {sp : Sp} {E : XK} {e : Expr} {es : List Expr} {kws : List Keyword} {t tk : TA} {p pos : Pos}
end
section
variable {K : PySem.W.Frag} {σ : L2.St} {G : Hp}
end
end Z

namespace Z
open PySem PySem.Spec PyProof.Rows L2
end Z

namespace Z
open PySem PySem.Spec PyProof.Rows L2 LamX
structure FnG (P : Program) (w : World) (K : PySem.W.Frag) (mg : Str → Option Value) (base : Heap) (C : CXT) (k : Nat) (f : Addr) (fd : FuncData) (ps : List Str) (sp : Sp) : Prop where
  len : ∀ vs H Q E, sp vs H Q E → vs.length = ps.length
  run : ∀ (A : Around) (outer : List Env) (s : Shared) (H : Hp) (args : Args) (us : List Value) (vs : List V) (Q : VK) (E : XK), A.guards = some [] → Room k A → Env0 P w K mg base A outer s H → BindsTo s fd args (ps.zip us) → Vals vs us → sp vs H Q E →
    codeAny (model P w) A (.call (.ref f) args) (CR C outer P w H s Q E) s
theorem FnG.of {P : Program} {w : World} {K : PySem.W.Frag} {mg : Str → Option Value} {base : Heap} {C : CXT} {k : Nat} {f : Addr} {fd : FuncData} {ps : List Str} {sp : Sp} (F : FnOk P w K mg base C k f fd ps sp) : FnG P w K mg base C k f fd ps sp :=
  ⟨F.len, fun A outer s H args us vs Q E _ => F.run A outer s H args us vs Q E⟩
theorem okG {P : Program} {w : World} {K : PySem.W.Frag} {mg : Str → Option Value} {base : Heap} {x qual : Str} {params : Arguments} {body : List Stmt} {scope : Scope} {dvs : List V} {kws : List (Str × V)} {f : Addr} {fd : FuncData} {C : CXT} {N ps : List Str} {k : Nat} {sp : Sp}
    (F : FunD K x qual params body scope dvs kws f fd) (S : FnScope N ps scope) (len : ∀ vs H Q E, sp vs H Q E → vs.length = ps.length)
    (hb : ∀ (cdv : Value) (A : Around) (outer : List Env) (s : Shared) (H : Hp) (vs : List V) (Q : VK) (E : XK), fd.code = cdv → A.guards = some [] → Room k (A.deeper (envOfC qual scope s.heap.objs.size f cdv)) → sp vs H Q E →
      ∃ t, PSs (cxOf C P w K mg base N qual scope f cdv A outer s H E) body t ∧ t { nx := fun _ H' => Q .non H', rt := Q } (start N vs) H) : FnG P w K mg base C (k + 1) f fd ps sp := by
  refine ⟨len, fun A outer s H args us vs Q E hg hr e0 hbd r hsp => ?_⟩
  obtain ⟨oc, od, dV, kV, doc, pm, an, cdv, ct, osl, rfl, lk, hcd, _, _⟩ := F.ex
  have KS : K.In s.heap := e0.mod.kin.keeps fun b o e => (e0.bs b o e).1
  have LS : s.heap.NoLimit := e0.mod.nolimit.keeps fun b o e => (e0.bs b o e).1
  have hn : ∀ y ∈ ps.zip us, scope.names.lookup y.1 = some .local ∨ (scope.names.lookup y.1 = some .cell ∧ ((cellsFrom (s.heap.objs.size + 1) scope.names []).lookup y.1).isSome = true) := by
    rintro ⟨n, v⟩ hy
    rcases S.par n (List.of_mem_zip hy).1 with q | q
    · left; exact q
    · right; exact ⟨q, PySem.W.cellsFrom_some _ _ _ (.inl q)⟩
  refine codeAny_call_function hr.depth (KS _ _ lk) rfl S.co S.gen rfl (PySem.W.codeRec_of KS hcd) (hbd _ _ _ _ ?_)
  refine wpAny_newFunctionEnv_cells S.kind hn fun env he s1 y => ?_
  subst he
  refine ⟨LS.keeps y.toInCall.keep, codeAny_func ?_⟩
  obtain ⟨t, ht, hq⟩ := hb cdv A outer s H vs Q E rfl hg (hr.deeper _) hsp
  have I0 : Inv (cxOf C P w K mg base N qual scope f cdv A outer s H E) [] (start N vs) H s1 := inv_start S hr.hd e0 (len _ _ _ _ hsp) r y
  refine wpAny_mono (ht.run [] s1 (start N vs) H _ I0 hq) (fun fl s' hs => ?_) fun e s' hs => hs
  cases fl with
  | ret u =>
    obtain ⟨v, σ1, H1, J, rv, q⟩ := hs
    exact ⟨v, H1, J.os, J.bare, J.base, J.hok, rv, q⟩
  | next =>
    obtain ⟨σ1, H1, J, q⟩ := hs
    exact ⟨V.non, H1, J.os, J.bare, J.base, J.hok, rfl, q⟩
  | brk =>
    obtain ⟨_, _, _, q⟩ := hs
    exact q.elim
  | cont =>
    obtain ⟨_, _, _, q⟩ := hs
    exact q.elim
def FnGs (P : Program) (w : World) (K : PySem.W.Frag) (mg : Str → Option Value) (base : Heap) (k : Nat) (x : Str) (ps : List Str) (sp : Sp) : Prop :=
  ∃ f fd, FnG P w K mg base (L2.CX P w) k f fd ps sp ∧ mg x = some (.ref f) ∧ PySem.W.keepIn K (.ref f) = true ∧ Binds K fd ps []
theorem pe_fnG {X : Cx} {k : Nat} {x : Str} {ps : List Str} {sp : Sp} {E : XK} {e : Expr} {es : List Expr} {t : TA} {p pos : Pos} (F : FnGs X.prog X.w X.K X.mg X.base k x ps sp) (hgd : X.A.guards = some []) (hr : Room k X.A) (hg : Gl X x) (hx : Passes (L2.CX X.prog X.w) X E) (ha : PA X (e :: es) t) (hdb : (x == ("__debug__" : Str)) = false := by decide)
    (he : starEach (e :: es) X.env = (false, eval e X.env) :: starEach es X.env := by rfl) (hpl : (backTo pos (starEach es X.env)).any (·.1) = false := by rfl) :
    PE X (.Call (.Name x p) (e :: es) [] pos) (tCall sp [] E t) := by
  obtain ⟨f, fd, F, hm, hk, hb⟩ := F
  refine ⟨fun pins s σ H Q I h => ?_⟩
  refine wpAny_Call_Name_kw (ld_glob I hg hm ?_ hdb)
  refine PySem.W.callWith_K (h₀ := X.base) I.ok.mod.kin hk (thn (ha.run pos pins s σ H _ I h) fun us s1 ⟨vs, H1, I1, r, q⟩ => ⟨I1.kIn, ?_⟩) he hpl
  have r2 : Vals (vs ++ []) (us ++ []) := r.append .nil
  have q : sp (vs ++ []) H1 Q E := q
  have hl : (us ++ []).length = ps.length := by rw [← r2.length]; exact F.len _ _ _ _ q
  refine wpAny_call (codeAny_mono (F.run X.A X.stack s1 H1 ⟨us, []⟩ (us ++ []) (vs ++ []) Q E hgd hr I1.env0 (hb s1 us I1.kIn hl) r2 q) fun r' s' hq => ?_)
  match r', hq with
  | .error e, hq => exact hx pins σ H1 s1 e s' I1 hq
  | .ok (.ret u), hq => exact I1.after hq
  | .ok .next, hq => exact False.elim hq
  | .ok .brk, hq => exact False.elim hq
  | .ok .cont, hq => exact False.elim hq
end Z

namespace Z
open PySem PySem.Spec PyProof.Rows L2 LamX
theorem lawCallG {P : Program} {w : World} {K : PySem.W.Frag} {mg mb : Str → Option Value} {C : CXT} {k : Nat} {fa a : Addr} {cs : List (Addr × Addr)} {fd : FuncData} {x : Str} {sp : Sp} {t1 : Shared} {vs : List Value} {ns : List Int}
    (KX : K.In t1.heap) (gN : t1.heap.Ns mainGlobals mg) (bN : t1.heap.Ns builtinsNs mb) (bB : ∀ x : Str, x ≠ "__name__" → mb x = bootBuiltins x) (lim : t1.heap.NoLimit) (gen0 : t1.gens = #[])
    (hT : ∀ p ∈ cs, t1.heap.get? p.2 = some { cls := .none, data := .fields #[] }) (nT : ∀ p ∈ cs, K.lookup p.2 = none) (hC : ∀ p ∈ cs, PySem.W.CodeHd t1.heap p.1 p.2)
    (bmn : ∃ (bm : Addr) (ob : Obj), mg "__builtins__" = some (.ref bm) ∧ bm ≠ builtinsNs ∧ t1.heap.get? bm = some ob ∧ ob.cls = .type "module" ∧ ob.dict = some builtinsNs ∧ ob.data = .plain)
    (hA : t1.heap.get? a = some { cls := .type "list", data := .seq vs.toArray }) (hI : IntsAre vs ns) (hL : ns.length ≤ sizeLine) (hR : Room k callerA)
    (F : ∀ base : Heap, K.In base → base.Ns mainGlobals mg → (∀ p ∈ cs, TabB base mg p.1 p.2) → FnG P w K mg base C k fa fd [x] sp) (hB : ∀ (s : Shared) (u : Value), BindsTo s fd ⟨[u], []⟩ [(x, u)])
    (hsp : ∀ H : Hp, (∀ p ∈ cs, H p.2 = some (.tbl #[])) → SqL K H a (ns.map V.int) → sp [.ref a] H (fun v _ => v = .bl true) fun _ _ _ => False)
    (hX : ∀ H e s', C [] H t1 (fun _ _ _ => False) e s' → False) :
    codeAny (model P w) callerA (.call (.ref fa) ⟨[.ref a], []⟩) (fun r s' => r = .ok (.ret (.bool true)) ∧ OldK t1.heap s'.heap ∧ s'.os = t1.os ∧ AllBare s'.gens) t1 := by
  have rv := vals_ints hI
  have T0 : ∀ b, b ∈ cs.map (·.2) → t1.heap.get? b = some { cls := .none, data := .fields #[] } := by
    intro b hb
    obtain ⟨p, hp, rfl⟩ := List.mem_map.mp hb
    exact hT p hp
  have inT : ∀ p ∈ cs, p.2 ∈ cs.map (·.2) := fun p hp => List.mem_map_of_mem hp
  have aT : ¬ a ∈ cs.map (·.2) := by
    intro z
    have q := T0 a z
    rw [hA] at q
    have z' : Data.seq vs.toArray _ = Data.fields #[] := congrArg Obj.data (Option.some.inj q)
    cases z'
  -- what is tracked: the tables, and the script unless the module knows it
  let so : HO := .frz { cls := .type "list", data := .seq vs.toArray } (.lst (ns.map V.int))
  let H : Hp := fun b => if b ∈ cs.map (·.2) then some (.tbl #[]) else if b = a ∧ K.lookup a = none then some so else none
  have HT : ∀ b, b ∈ cs.map (·.2) → H b = some (.tbl #[]) := fun b hb => if_pos hb
  have Hs : ∀ b o, H b = some o → (b ∈ cs.map (·.2) ∧ o = .tbl #[]) ∨ (b = a ∧ K.lookup a = none ∧ o = so) := by
    intro b o e
    by_cases hb : b ∈ cs.map (·.2)
    · left; rw [HT b hb] at e; cases e; exact ⟨hb, rfl⟩
    · right
      have e : (if b = a ∧ K.lookup a = none then some so else none) = some o := (if_neg hb).symm.trans e
      by_cases h2 : b = a ∧ K.lookup a = none
      · rw [if_pos h2] at e; cases e; exact ⟨h2.1, h2.2, rfl⟩
      · rw [if_neg h2] at e; cases e
  have Sq : SqL K H a (ns.map V.int) := by
    cases hk : K.lookup a with
    | some o =>
      have e := KX a o hk
      rw [hA] at e; cases e
      exact .inr ⟨_, vs.toArray, _, hk, rfl, rfl, rfl, by rw [List.size_toArray, hI.length]; exact hL, by simpa using rv⟩
    | none =>
      refine .inl (.inr ⟨{ cls := .type "list", data := .seq vs.toArray }, ?_⟩)
      show (if a ∈ cs.map (·.2) then _ else _) = _
      rw [if_neg aT, if_pos ⟨rfl, hk⟩]
  have hok : HOk P w H t1.heap := by
    intro b o e
    rcases Hs b o e with ⟨hb, rfl⟩ | ⟨rfl, _, rfl⟩
    · exact T0 b hb
    · exact ⟨hA, by rw [List.length_map]; exact hL, vs, _, rv, hA⟩
  have free : ∀ {b : Addr} {o : Obj}, t1.heap.get? b = some o → (∀ us n, o.data ≠ .seq us n) → o.data ≠ .fields #[] → H b = none := by
    intro b o e h1 h2
    cases q : H b with
    | none => rfl
    | some u =>
      rcases Hs b u q with ⟨hb, _⟩ | ⟨rfl, _, _⟩
      · rw [T0 b hb] at e; cases e; exact (h2 rfl).elim
      · rw [hA] at e; cases e; exact (h1 _ _ rfl).elim
  have dfree : ∀ {b : Addr} {o : Obj} {es : Array DictEntry} {n : Nat}, t1.heap.get? b = some o → o.data = .dict es n → H b = none := by
    intro b o es n e d
    refine free e (fun us m z => ?_) (fun z => ?_) <;> rw [d] at z <;> cases z
  have NsK : ∀ {b : Addr} {f : Str → Option Value}, t1.heap.Ns b f → (hidT t1.heap H).Ns b f := by
    rintro b f ⟨o, es, n, e, d, r⟩
    exact ⟨o, es, n, hidT_get e (dfree e d), d, r⟩
  have KB : K.In (hidT t1.heap H) := by
    intro b o e
    refine hidT_get (KX b o e) ?_
    cases q : H b with
    | none => rfl
    | some u =>
      rcases Hs b u q with ⟨hb, _⟩ | ⟨rfl, hk, _⟩
      · obtain ⟨p, hp, rfl⟩ := List.mem_map.mp hb
        rw [nT p hp] at e; cases e
      · rw [hk] at e; cases e
  obtain ⟨mc, l1, l2⟩ := lim
  have M0 : L2.Mod K mg (hidT t1.heap H) := { kin := KB, glob := NsK gN, blt := ⟨mb, NsK bN, bB⟩, nolimit := ⟨mc, NsK l1, l2⟩ }
  have TB : ∀ p ∈ cs, TabB (hidT t1.heap H) mg p.1 p.2 := by
    intro p hp
    have hTp := hT p hp
    constructor
    · obtain ⟨o, us, file, tf, flags, tg, inF, text, tt, e1, r1, r2, r3, rr⟩ := hC p hp
      refine ⟨o, us, file, tf, flags, tg, inF, text, tt, hidT_get e1 (free e1 (fun us n z => ?_) (fun z => ?_)), r1, r2, r3, rr⟩
      · rw [r2] at z; cases z
      · rw [r2] at z; cases z; simp at r3
    · obtain ⟨bm, ob, b1, b2, b3, b4, b5, b6⟩ := bmn
      refine ⟨bm, ob, b1, b2, fun q => ?_, fun q => ?_, hidT_get b3 (free b3 (fun us n z => ?_) (fun z => ?_)), b4, b5, b6⟩
      · obtain ⟨o, es, n, e, d, _⟩ := gN
        rw [q, e] at b3; cases b3; rw [d] at b6; cases b6
      · rw [q, hTp] at b3; cases b3; cases b6
      · rw [b6] at z; cases z
      · rw [b6] at z; cases z
    · intro z
      obtain ⟨o, es, n, e, d, _⟩ := gN
      rw [z, hTp] at e; cases e; cases d
  have E0' : Env0 P w K mg (hidT t1.heap H) callerA [] t1 H := by
    refine ⟨rfl, M0, fun b o e => of_hidT e, Nat.le_of_eq (hidT_size _ _), trivial, fun b hb => ?_, hok, .of_eq gen0⟩
    exact absurd (show b ∈ ([] : List Addr) from hb) (by simp)
  refine codeAny_mono ((F _ KB (NsK gN) TB).run callerA [] t1 H ⟨[.ref a], []⟩ [.ref a] [.ref a] _ _ rfl hR E0' (hB t1 (.ref a)) (.cons rfl .nil) (hsp H (fun p hp => HT _ (inT p hp)) Sq)) fun r s' h => ?_
  match r, h with
  | .error e, h => exact (hX H e s' h).elim
  | .ok .next, h => exact h.elim
  | .ok .brk, h => exact h.elim
  | .ok .cont, h => exact h.elim
  | .ok (.ret u), h =>
    obtain ⟨v, H', os, bare, un, hok', r', q⟩ := h
    have q : v = .bl true := q
    subst q
    obtain rfl : u = Value.bool true := r'
    have old : ∀ b o, ¬ b ∈ cs.map (·.2) → t1.heap.get? b = some o → s'.heap.get? b = some o := by
      intro b o nb e
      cases q : H b with
      | none => exact un.keep b o e q (fun z => absurd (show b ∈ ([] : List Addr) from z) (by simp)) (by simp)
      | some u =>
        rcases Hs b u q with ⟨hb, _⟩ | ⟨rfl, _, rfl⟩
        · exact absurd hb nb
        · obtain ⟨e1, _⟩ := hok b _ q
          obtain ⟨e2, _⟩ := hok' b _ (un.frzs b _ _ q)
          rw [e] at e1; cases e1
          exact e2
    have grew : ∀ p ∈ cs, ∃ more : Array Value, s'.heap.get? p.2 = some { cls := .none, data := .fields more } := by
      intro p hp
      obtain ⟨more, z⟩ := un.tbls p.2 #[] (HT _ (inT p hp))
      exact ⟨_, hok' p.2 _ z⟩
    refine ⟨rfl, ⟨fun b o e => ?_, fun b o e => ?_⟩, os, bare⟩
    · by_cases hb : b ∈ cs.map (·.2)
      · obtain ⟨p, hp, rfl⟩ := List.mem_map.mp hb
        obtain ⟨more, hm⟩ := grew p hp
        rw [hT p hp] at e
        cases e
        exact .inr (.inl ⟨((hC p hp).tab (hT p hp)).isCodeTable, rfl, #[], more, rfl, by rw [Array.empty_append]; exact hm⟩)
      · exact .inl (old b o hb e)
    · by_cases hb : b ∈ cs.map (·.2)
      · obtain ⟨p, hp, rfl⟩ := List.mem_map.mp hb
        obtain ⟨more, hm⟩ := grew p hp
        exact ⟨_, hm⟩
      · exact ⟨o, old b o hb e⟩
theorem walkG {l : PySem.W.OpenLaw} {n k : Nat} {q : Program} {loose : List Str} {XP : (Str → Option Value) → Heap → Prop} {YP : World → Heap → Prop} {d : DefRec} {C : World → CXT} {x : Str}
    (hn : l.most = some n) (hn2 : n ≤ sizeLine) (hdf : d.params.defaults = []) (hR : Room k callerA)
    (F : ∀ (w : World) (mg : Str → Option Value) (fa : Addr) (h : Heap), YP w h → h.Ns mainGlobals mg → mg d.name = some (.ref fa) →
      ∃ (K : PySem.W.Frag) (fd : FuncData) (cs : List (Addr × Addr)) (sp : Sp), K.In h ∧ (∀ p ∈ cs, h.get? p.2 = some { cls := .none, data := .fields #[] }) ∧ (∀ p ∈ cs, K.lookup p.2 = none) ∧ (∀ p ∈ cs, PySem.W.CodeHd h p.1 p.2) ∧ (∀ (s : Shared) (u : Value), BindsTo s fd ⟨[u], []⟩ [(x, u)]) ∧
        (∀ (H : Hp) (a : Addr) (ns : List Int), ns.length ≤ n → (∀ p ∈ cs, H p.2 = some (.tbl #[])) → SqL K H a (ns.map V.int) → sp [.ref a] H (fun v _ => v = .bl true) fun _ _ _ => False) ∧
        ∀ base : Heap, K.In base → base.Ns mainGlobals mg → (∀ p ∈ cs, TabB base mg p.1 p.2) → FnG l.prog w K mg base (C w) k fa fd [x] sp)
    (hX : ∀ (w : World) (H : Hp) (s : Shared) (e : Value) (s' : Shared), C w [] H s (fun _ _ _ => False) e s' → False) :
    PySem.W.WalkO q loose XP YP l.row.toRowW d [] (fun f vs => PySem.call f vs) := by
  refine Att.attach_callB hn hdf fun w t0 t1 mg mb fa o pm cd doc a vs ns G Y ho hd hcd hmg hob hin hle hbi hgn => ?_
  obtain ⟨K, fd, cs, sp, KX, h1, h2, h3, hb, hsp, hF⟩ := F w mg fa _ Y G.T.g hmg
  exact lawCallG KX G.T.g G.T.b G.T.builtins G.T.nolimit hgn h1 h2 h3 G.T.bmain hob hin (Nat.le_trans hle hn2) hR hF hb (fun H hH hS => hsp H a ns hle hH hS) fun H e s' => hX w H t1 e s'
end Z

namespace Z
open PySem PySem.Spec PyProof.Rows L2
def ExV (cls : Value) (d : Option Addr) (a : Addr) : HO := .ext fun h => ∃ (oe : Obj) (vs : Array Value), h.get? a = some oe ∧ Zc cls d oe ∧ oe.data = .fields vs
section
variable {X : Cx} {pins : List (Addr × Obj)} {σ : L2.St} {H : Hp} {s : Shared}
theorem track {a : Addr} {o : HO} {oe : Obj} (I : Inv X pins σ H s) (e : s.heap.get? a = some oe) (hc : ∀ v, oe.data ≠ .cell v) (n0 : X.s_0.heap.get? a = none) (hn : H a = none) (nL : a ≠ X.env.locals) (hp : ∀ p ∈ X.pn ++ pins, p.1 ≠ a) (new : ObjOk X.prog X.w (upd H a o) s.heap a o) : Inv X pins σ (upd H a o) s := by
  have ne0 : ∀ b u, X.s_0.heap.get? b = some u → b ≠ a := fun b u q z => by rw [z, n0] at q; cases q
  have neH : ∀ b u, H b = some u → b ≠ a := fun b u q z => by rw [z, hn] at q; cases q
  refine ⟨I.ok, I.os, I.bare, ⟨I.base.keep, I.base.slot, fun b u q n hx => ?_, I.base.there, fun b xs q => ?_, fun b u w q => ?_, fun b ps q => ?_⟩, I.loc, I.cell, ?_, fun x c q => ?_, fun p hq => ?_, fun b u q => ?_, I.len⟩
  · rw [upd_ne (ne0 b u q)]; exact I.base.free b u q n hx
  · have z := I.base.tups b xs q
    rw [upd_ne (neH _ _ z)]; exact z
  · have z := I.base.frzs b u w q
    rw [upd_ne (neH _ _ z)]; exact z
  · obtain ⟨more, z⟩ := I.base.tbls b ps q
    exact ⟨more, by rw [upd_ne (neH _ _ z)]; exact z⟩
  · rw [upd_ne nL.symm]; exact I.free
  · have nc : c ≠ a := fun z => by
      obtain ⟨v, oc, e1, e2⟩ := I.cell x c q
      rw [z, e] at e1; cases e1
      exact hc v e2
    rw [upd_ne nc]; exact I.freeC x c q
  · obtain ⟨e1, e2, e3, e4, e5⟩ := I.pin p hq
    exact ⟨e1, by rw [upd_ne (hp p hq)]; exact e2, e3, e4, e5⟩
  · by_cases hb : b = a
    · subst hb; rw [upd_same] at q; cases q; exact new
    · rw [upd_ne hb] at q
      refine (I.hok b u q).stay (fun c v _ z => z) (fun c z => ?_) fun c xs z => ?_
      · rw [upd_ne (neH _ _ z)]; exact z
      · rw [upd_ne (neH _ _ z)]; exact z
end
def wAsK (K : PySem.W.Frag) (c : Value) (i : Nat) (ts : Addr → Value → Option Addr → TS) (Wout : WX) (D : Ends) : WX := fun cls d σ H =>
  ∃ b, PySem.W.exmOne K cls c = some b ∧ (b = true → ∀ a, H a = none → ts a cls d { nx := fun σ' H' => H' = H ∧ D.nx (σ'.set i none) (upd H a (ExV cls d a)), rt := fun _ _ => False } (σ.set i (some (.ref a))) H) ∧ (b = false → Wout cls d σ H)
section
variable {X : Cx} {x n : Str} {c : Value} {i : Nat} {body suite : List Stmt} {b₀ : Stmt} {np pos pos' : Pos} {tb : WX → TS} {ts : Addr → Value → Option Addr → TS} {Wout : WX}
theorem ps_try_asK (hx0 : X.ex = []) (hs : X.stack = X.env :: X.outer) (hf : X.env.frame = some X.env.locals) (hN : X.N.Nodup) (hi : X.N[i]? = some n) (hln : X.env.kindOf n = some .local) (hc : Names X x c) (tk : Takes X Wout)
    (hb : ∀ (W : WX) (pn : List (Addr × Obj)) (xe : Value → Shared → Prop), Takes (X.tr pn xe) W → PassesOwn (model X.prog X.w) X.A X.env xe → PSs (X.tr pn xe) body (tb W))
    (hsu : ∀ (a : Addr) (oe : Obj) (cls : Value) (d : Option Addr) (pn : List (Addr × Obj)), Zc cls d oe → (∃ vs, oe.data = .fields vs) → PSs (X.suite a ((a, oe) :: pn)) (b₀ :: suite) (ts a cls d)) :
    PS X (.Try body [.ExceptHandler (some (.Name x np)) (some n) (b₀ :: suite) pos'] [] [] pos) (fun D σ H => tb (wAsK X.K c i ts Wout D) D σ H) := by
  refine ⟨fun pins s σ H D I h => ?_⟩
  have ok := I.ok
  have fr : X.A.frames = some (X.env :: X.outer) := by rw [ok.frames, hs]
  refine wpAny_Try_except ?_
  refine wpAny_mono ((hb (wAsK X.K c i ts Wout D) (X.pn ++ pins) (fun e s₁ => wpAny (model X.prog X.w) X.A (noteFrame e X.env) (fun _ s₂ => wpAny (model X.prog X.w) X.A (setFlight e none) (fun _ s₃ =>
    wpAny (model X.prog X.w) X.A (handleBy e X.env [.ExceptHandler (some (.Name x np)) (some n) (b₀ :: suite) pos']) (SP X pins D) X.xe s₃) X.xe s₂) X.xe s₁) (fun u s' y => ?_) PassesOwn.looking).run [] s σ H D (I.toTry _) h) (fun f s1 q => ?_) (fun e s1 he => he)
  · obtain ⟨a, B, sI, pins', σ1, H1, cls, d, rfl, J0, nb, up, sky, na, os, ag, b, hb1, hyes, hno⟩ := y
    have J : Inv X pins σ1 H1 sI := J0.ofTry ok
    have sky1 : Sky B (X.env :: X.outer) a (Zc cls d) X.env.locals s'.heap := by rw [← hs]; exact sky
    show wpAny (model X.prog X.w) X.A (noteFrame (.ref a) X.env) _ _ _
    refine Sky.land Zc.steady fr hf sky1 fun h3 fl3 up3 => ?_
    have J3 : Inv X pins σ1 H1 { s' with heap := h3 } := J.landed nb fl3.1 (up.trans up3) os ag
    obtain ⟨o3, v3, e3, z3, d3⟩ := fl3.there
    have nfr : a ∉ frs (X.env :: X.outer) := by
      intro hm
      obtain ⟨_, o1, q1, hnf⟩ := fl3.2.2.1.mem hm
      rw [e3] at q1; cases q1
      exact hnf _ d3
    have nL : a ≠ X.env.locals := fun z => nfr (List.mem_filterMap.mpr ⟨X.env, List.mem_cons_self, by rw [hf, z]⟩)
    have nF : a ∉ X.fs := fun hm => by
      obtain ⟨e, he, q⟩ := List.mem_filterMap.mp hm
      exact nfr (List.mem_filterMap.mpr ⟨e, List.mem_cons_of_mem _ he, q⟩)
    have Ba : B.get? a = none := fl3.2.1
    have nI : sI.heap.get? a = none := by
      cases q : sI.heap.get? a with
      | none => rfl
      | some o =>
        have := nb a o q (by rw [hs]; exact nfr)
        rw [Ba] at this; cases this
    have n0 : X.s_0.heap.get? a = none := by
      cases q : X.s_0.heap.get? a with
      | none => rfl
      | some o =>
        obtain ⟨o1, q1⟩ := J.base.there a o q (by rw [hx0]; exact fun z => nomatch z)
        rw [nI] at q1; cases q1
    have S3 := J3.suite e3 d3 na nL nF
    refine wpAny_handleBy_cons (codeAny_handlers_test ?_) (by intro q; cases q)
    have LT : PySem.W.Looks (model X.prog X.w) h3 (typeOf (.ref a)) cls := fun A Q E s k q => wpAny_typeOf_ref (k _ _ e3) (by rw [z3.1]; exact q)
    have LM := PySem.W.exm_one (M := model X.prog X.w) (J3.kIn) LT hb1
    have tst : ∀ {Q : Value → Shared → Prop} {E : Value → Shared → Prop}, Q c { s' with heap := h3 } → wpAny (model X.prog X.w) (X.A.mark (some (.ref a))) (eval (.Name x np) X.env) Q E { s' with heap := h3 } := by
      intro Q E q
      obtain ⟨hg, hdb, hm | ⟨hm, hv, hnn⟩⟩ := hc
      · exact ld_glob (X := X.suite a ((a, o3) :: (X.pn ++ pins))) S3 hg hm q hdb
      · exact ld_blt (X := X.suite a ((a, o3) :: (X.pn ++ pins))) S3 hg hm hv q hnn hdb
    refine tst (LM.here ?_)
    cases b with
    | true =>
      refine codeAny_handlers_suite_as ?_
      refine HandSPX.lands_againZ fl3 fun h4 fl4 up4 => ?_
      have J4 : Inv X pins σ1 H1 { s' with heap := h4 } := J.landed nb fl4.1 ((up.trans up3).trans up4) os ag
      obtain ⟨o4, v4, e4, z4, d4⟩ := fl4.there
      have S4 := J4.suite e4 d4 na nL nF
      refine store_ok (X := X.suite a ((a, o4) :: (X.pn ++ pins))) (v := .ref a) S4 hN hi (.inl hln) rfl (fun s5 S5 => ?_) (.inr hln)
      refine wpAny_mono ((hsu a o4 cls d (X.pn ++ pins) z4 ⟨_, d4⟩).run [] s5 _ H1 _ S5 (hyes rfl a na)) (fun f s6 q => ?_) (fun _ _ z => False.elim z)
      cases f with
      | next =>
        obtain ⟨σ6, H6, S6, eH, q6⟩ := q
        subst eH
        have P6 := S6.pin (a, o4) (List.mem_append_left _ List.mem_cons_self)
        have J6 : Inv X pins σ6 H6 s6 := S6.unsuite ok
        have K6 : Inv X ((a, o4) :: pins) σ6 H6 s6 := ⟨J6.ok, J6.os, J6.bare, J6.base, J6.loc, J6.cell, J6.free, J6.freeC, fun p hp => by
          rcases List.mem_append.mp hp with z | z
          · exact J6.pin p (List.mem_append_left _ z)
          · rcases List.mem_cons.mp z with z | z
            · rw [z]; exact P6
            · exact J6.pin p (List.mem_append_right _ z), J6.hok, J6.len⟩
        show wpAny (model X.prog X.w) X.A (do bindName X.env n .none; unbindBehindTheSuite X.env n pos') _ X.xe s6
        refine gone_ok K6 hN hi hln fun s7 K7 => ?_
        have P7 := K7.pin (a, o4) (List.mem_append_right _ List.mem_cons_self)
        have J7 : Inv X pins (σ6.set i none) H6 s7 := K7.pins_of fun p hp => K7.pin p (List.mem_append_right _ (List.mem_cons_of_mem _ hp))
        have new : ObjOk X.prog X.w (upd H6 a (ExV cls d a)) s7.heap a (ExV cls d a) := ⟨⟨o4, v4, P7.1, z4, d4⟩, ⟨o4, P7.1⟩, fun _ _ ⟨o, v, q, r⟩ k => ⟨o, v, k o q, r⟩⟩
        refine ⟨_, upd H6 a (ExV cls d a), track J7 P7.1 P7.2.2.2.2 n0 na nL (fun p hp z => ?_) new, q6⟩
        have := (J.pin p hp).1
        rw [z, nI] at this; cases this
      | brk => obtain ⟨σ6, H6, S6, q6⟩ := q; exact q6.elim
      | cont => obtain ⟨σ6, H6, S6, q6⟩ := q; exact q6.elim
      | ret u => obtain ⟨v6, σ6, H6, S6, r6, q6⟩ := q; exact q6.elim
    | false =>
      show wpAny _ X.A (handleBy (.ref a) X.env []) _ _ _
      refine wpAny_handleBy_nil ?_
      obtain ⟨k1, k2, k3, oe, vs, T, oT, ts', he, hz, hd, h1, hr⟩ := id fl3
      unfold PySem.passOn
      refine wpAny_bind (wpAny_field he hd h1 ?_)
      rw [if_neg (show ¬ ((Value.ref T == Value.none) = true) from by simp)]
      have fin : wpAny (model X.prog X.w) X.A (setFlight (.ref a) X.env.frame) (fun _ s4 => wpAny (model X.prog X.w) X.A (throw (.ref a) : Sem Flow) (SP X pins D) X.xe s4) X.xe { s' with heap := h3 } := by
        rw [hf]
        refine HandSPX.setFlight_upZ fl3 fun h4 hh4 up4 => wpAny_throw (tk _ _ ?_)
        exact ⟨a, B, sI, pins, σ1, H1, cls, d, rfl, J, nb, (up.trans up3).trans up4, .inr (.inr (by rw [hs]; exact hh4)), na, os, ag, hno rfl⟩
      first
        | exact wpAny_bind (wpAny_pure (wpAny_bind fin))
        | exact wpAny_bind fin
  · cases f with
    | next =>
      obtain ⟨σ1, H1, J1, q⟩ := q
      exact wpAny_execs_nil ⟨σ1, H1, J1.ofTry ok, q⟩
    | brk =>
      obtain ⟨σ1, H1, J1, q⟩ := q
      exact ⟨σ1, H1, J1.ofTry ok, q⟩
    | cont =>
      obtain ⟨σ1, H1, J1, q⟩ := q
      exact ⟨σ1, H1, J1.ofTry ok, q⟩
    | ret u =>
      obtain ⟨v, σ1, H1, J1, r, q⟩ := q
      exact ⟨v, σ1, H1, J1.ofTry ok, r, q⟩
end
end Z

namespace Z
open PySem PySem.Spec PyProof.Rows L2 LamX
def rIsX (K : PySem.W.Frag) : List V → Hp → VK → Prop := fun xs H Q => ∃ (a D : Addr) (c : V) (cv : Value) (b : Bool), xs = [.ref a, c] ∧ H a = some (ExV (.ref D) none a) ∧ ExcC K D ∧ (∀ u, RelV c u → u = cv) ∧ PySem.W.kitOne K (.ref D) cv = some b ∧ Q (.bl b) H
theorem call_isX {X : Cx} : CallR X (.builtin "isinstance") (rIsX X.K) := by
  intro pins s σ H xs us Q I r h
  obtain ⟨a, D, c, cv, b, rfl, ha, C, hcv, e, q⟩ := h
  obtain ⟨u1, u2, rfl, r1, r2⟩ := vals2 r
  obtain rfl : u1 = Value.ref a := r1
  obtain rfl := hcv _ r2
  obtain ⟨⟨oe, vs, hget, hz, hv⟩, _⟩ := I.hok a _ ha
  have J : PySem.W.InstAt s.heap a oe D none := by
    obtain ⟨oc, od, oda, osl⟩ := oe
    obtain ⟨h1, h2⟩ := hz
    dsimp only at h1 h2 hv
    subst h1 h2 hv
    exact ⟨hget, rfl, rfl, trivial⟩
  exact PySem.W.kia_one (PySem.W.handS_kitx_exc C.hg C.hk C.hs C.hd C.ha C.hn C.ht C.hm) I.kIn J e (fun z => nomatch z) fun tk => ⟨.bl b, H, I.kept (t' := tk) fun _ _ z => z, rfl, q⟩
theorem nested_own {a : Addr} {c : Value} : Answers (fun s => ∃ oe, s.heap.get? a = some oe ∧ oe.cls = c) (.ref a) c true := by
  intro dep tk prog w A R s ⟨⟨oe, h1, h2⟩, hq⟩
  obtain ⟨hp, g, d, t0, os⟩ := s
  have L : PySem.W.Looks (model prog w) hp (typeOf (.ref a)) c := h2 ▸ (PySem.W.Looks.ld h1).andThen .now
  have same : (c == c) = true := beq_self_eq_true c
  unfold Builtin.«isinstance.nested»; refine wpAny_bind (L.at ?_); rw [if_pos same]
  first
    | exact wpAny_bind (wpAny_pure (wpAny_pure (hq t0)))
    | exact wpAny_pure (hq t0)
    | exact wpAny_bind (wpAny_rule (hq t0))
    | exact wpAny_bind (wpAny_rule (wpAny_pure (hq t0)))
def rIsO : List V → Hp → VK → Prop := fun xs H Q => ∃ (a D : Addr) (dd : Option Addr), xs = [.ref a, .ref D] ∧ H a = some (ExV (.ref D) dd a) ∧ Q (.bl true) H
theorem call_isO {X : Cx} : CallR X (.builtin "isinstance") rIsO := by
  intro pins s σ H xs us Q I r ⟨a, D, dd, e, ha, q⟩
  subst e
  obtain ⟨u1, u2, rfl, r1, r2⟩ := vals2 r
  obtain rfl : u1 = Value.ref a := r1
  obtain rfl : u2 = Value.ref D := r2
  obtain ⟨⟨oe, vs, hget, hz, hv⟩, _⟩ := I.hok a _ ha
  exact call_isinstance (S := fun _ R s => (∃ oe, s.heap.get? a = some oe ∧ oe.cls = .ref D) ∧ ∀ tk, R (.ok (.ret (.bool true))) { s with toks := tk })
    (fun prog w A R s hs => isinstance_outer (nested_own 0 _ prog w A R s hs) (fun z => nomatch z)) ⟨⟨oe, hget, hz.1⟩, fun tk => ⟨.bl true, H, I.kept (t' := tk) fun _ _ z => z, rfl, q⟩⟩
def rIsA (K : PySem.W.Frag) : List V → Hp → VK → Prop := fun xs H Q => rIsi K xs H Q ∨ rIsX K xs H Q ∨ rIsO xs H Q
theorem call_isA {X : Cx} : CallR X (.builtin "isinstance") (rIsA X.K) := by
  intro pins s σ H xs us Q I r h
  rcases h with h | h | h
  · exact call_isi pins s σ H xs us Q I r h
  · exact call_isX pins s σ H xs us Q I r h
  · exact call_isO pins s σ H xs us Q I r h
def TCaught (K : PySem.W.Frag) (CS : Addr) : (XK → Hp → VK → Prop) → Hp → VK → Prop := fun tl H Q => ∀ Q' : VK, (∀ v H', Q .non H' → Q' v H') →
  tl (fun cls d H' => ∃ b, PySem.W.exmOne K cls (.ref CS) = some b ∧ (b = true → ∀ a, H' a = none → Q (.ref a) (upd H' a (ExV cls d a))) ∧ (b = false → False)) H Q'
section
variable {X : Cx}
theorem caught_gives {x a y n e q : Str} {sg : Scope} {g CS : Addr} {cdg : Value} {j : Nat} {p0 p1 p2 p3 p4 p5 p6 p7 p8 p9 p10 p11 p12 p13 : Pos} (hge : sg.names.lookup e = some .globalImplicit) (hme : X.mg e = some (.ref CS)) (hde : (e == ("__debug__" : Str)) = false)
    (hya : [a, y, n].Nodup) (hy : sg.names.lookup y = some .local) (hn : sg.names.lookup n = some .local) (hdy : (y == ("__debug__" : Str)) = false) (hcy : (y == ("__classdict__" : Str)) = false) (hdn : (n == ("__debug__" : Str)) = false) (hcn : (n == ("__classdict__" : Str)) = false) :
    GivesTo X [a, y, n] x sg g cdg [.Assign [.Name y p0] (.Constant .none j p9) p10, .Try [.Expr (.Call (.Name a p1) [] [] p2) p3] [.ExceptHandler (some (.Name e p4)) (some n) [.Assign [.Name y p5] (.Name n p6) p7] p8] [] [] p11, .Return (some (.Name y p12)) p13] a q (TCaught X.K CS) := by
  intro f c' s H Q tl act hc h
  have hgl : Gl (cxOf C8.CX0 X.prog X.w X.K X.mg X.base [a, y, n] x sg g cdg X.A X.stack s H C8.E0).nox e := hge
  refine ⟨_, pss_cons (ps_set (i := 1) hya rfl (.inl hy) pe_non) (pss_cons (ps_try_asK (X := (cxOf C8.CX0 X.prog X.w X.K X.mg X.base [a, y, n] x sg g cdg X.A X.stack s H C8.E0).nox) (c := .ref CS) (i := 2) (n := n)
      (tb := fun W D σ H => ∃ Ech : XK, (∀ cls d σ1 H1, σ1.length = 3 → Ech cls d H1 → W cls d σ1 H1) ∧ σ[0]? = some (some (.ref f)) ∧ H c' = some (CodeO c' q) ∧ tl Ech H fun _ H1 => D.nx σ H1)
      rfl rfl rfl hya rfl hn ⟨hgl, hde, .inl hme⟩ LamX.takes0 (fun W pn xe tk _ => ?_) (fun a oe cls d pn _ _ => pss_one (ps_set (i := 1) hya rfl (.inl hy) (pe_var (i := 2) rfl (.inl hn) hdn hcn)))) (pss_one (ps_ret (pe_var (i := 1) rfl (.inl hy) hdy hcy)))), ?_⟩
  · refine ⟨fun pins s1 σ H1 D I hD => ?_⟩
    obtain ⟨Ech, hW, h1, h2, h3⟩ := hD
    have tk' : Takes ((cxOf C8.CX0 X.prog X.w X.K X.mg X.base [a, y, n] x sg g cdg X.A X.stack s H C8.E0).tr pn xe) (fun cls d σ1 H1 => σ1.length = 3 → W cls d σ1 H1) := fun u s2 ⟨b, B, sI, pi, σ2, H2, cls, d, e1, I2, nb, up, sky, na, os, ag, w⟩ =>
      tk u s2 ⟨b, B, sI, pi, σ2, H2, cls, d, e1, I2, nb, up, sky, na, os, ag, w I2.len⟩
    have hp := act (fun cls d σ1 H1 => σ1.length = 3 → W cls d σ1 H1) pn xe Ech p1 p2 tk' fun cls d σ1 H1 hE hl => hW cls d σ1 H1 hl hE
    have hq := pss_one (ps_expr (pos := p3) hp)
    exact hq.run pins s1 σ H1 D I ⟨h1, h2, h3⟩
  · refine ⟨_, ?_, rfl, hc, h _ fun v H1 hq => ⟨.non, rfl, hq⟩⟩
    rintro cls d σ1 H1 hl ⟨b, e1, e2, e3⟩
    refine ⟨b, e1, fun hb a' ha' => ?_, fun hb => (e3 hb).elim⟩
    match σ1, hl with
    | [v0, v1, v2], _ => exact ⟨_, rfl, rfl, _, rfl, e2 hb a' ha'⟩
end
end Z

namespace Y
open PySem PySem.Spec PyProof.Rows L2 Z
abbrev Ky := Sum Int (List Nat)
def kk : Ky → Key
  | .inl i => .inl i
  | .inr w => .inr (S w)
theorem kk_inj {a b : Ky} (h : kk a = kk b) : a = b := by
  cases a <;> cases b <;> simp [kk] at h
  · rw [h]
  · rw [S_inj h]
inductive D where
  | non | bl (b : Bool) | int (i : Int) | str (w : List Nat)
  | lst (xs : List D) | tup (xs : List D) | dic (kvs : List (Ky × D))
  | ty (n : String) | glo (x : Str) | ins (C : Str) (fs : List (Str × D)) | exc (C : Str) (fs : List (Str × D)) | drw (q : Addr × Addr × Addr) | scr (ns : List Int)
  | rf (a : Addr)
  | hid (n : Nat) (ks : List (List Ky))
abbrev Tk := Addr × Addr × Addr
abbrev Im := Sum Tk (Addr × D)
abbrev Dr := List Im
def putS (dr : Dr) (a : Addr) (d : D) : Dr := dr.map fun i => match i with
  | .inl q => .inl q
  | .inr p => if p.1 = a then .inr (p.1, d) else .inr p
def delS (dr : Dr) (as : List Addr) : Dr := dr.filter fun i => match i with
  | .inl _ => true
  | .inr p => !decide (p.1 ∈ as)
mutual
inductive Told (dr : Dr) : D → D → List Addr → Prop
  | leaf (d : D) : Told dr d d []
  | tup {ds es : List D} {as : List Addr} : ToldA dr ds es as → Told dr (.tup ds) (.tup es) as
  | lst {a : Addr} {ds es : List D} {as : List Addr} : .inr (a, .lst ds) ∈ dr → ToldA dr ds es as → Told dr (.rf a) (.lst es) (a :: as)
  | dic {a : Addr} {ds es : List (Ky × D)} {as : List Addr} : .inr (a, .dic ds) ∈ dr → ToldD dr ds es as → Told dr (.rf a) (.dic es) (a :: as)
  | ins {a : Addr} {C : Str} {ds es : List (Str × D)} {as : List Addr} : .inr (a, .ins C ds) ∈ dr → ToldF dr ds es as → Told dr (.rf a) (.ins C es) (a :: as)
inductive ToldA (dr : Dr) : List D → List D → List Addr → Prop
  | nil : ToldA dr [] [] []
  | cons {d e : D} {ds es : List D} {as bs : List Addr} : Told dr d e as → ToldA dr ds es bs → ToldA dr (d :: ds) (e :: es) (as ++ bs)
inductive ToldD (dr : Dr) : List (Ky × D) → List (Ky × D) → List Addr → Prop
  | nil : ToldD dr [] [] []
  | cons {q : Ky} {d e : D} {ds es : List (Ky × D)} {as bs : List Addr} : Told dr d e as → ToldD dr ds es bs → ToldD dr ((q, d) :: ds) ((q, e) :: es) (as ++ bs)
inductive ToldF (dr : Dr) : List (Str × D) → List (Str × D) → List Addr → Prop
  | nil : ToldF dr [] [] []
  | cons {q : Str} {d e : D} {ds es : List (Str × D)} {as bs : List Addr} : Told dr d e as → ToldF dr ds es bs → ToldF dr ((q, d) :: ds) ((q, e) :: es) (as ++ bs)
end
structure Ex where
  C : Str
  fs : List (Str × D)
inductive M (α : Type) where
  | ok (a : α) | raise (x : Ex) | bad | take (q : Tk) (tot : Int) (k : Int → M α) | beg (k : Tk → M α)
  | new (d : D) (k : Addr → M α) | get (a : Addr) (k : D → M α) | put (a : Addr) (d : D) (k : M α) | frz (d : D) (k : D → M α)
def M.bind {α β : Type} : M α → (α → M β) → M β
  | .ok a, f => f a
  | .raise x, _ => .raise x
  | .bad, _ => .bad
  | .take q t k, f => .take q t fun i => (k i).bind f
  | .beg k, f => .beg fun q => (k q).bind f
  | .new d k, f => .new d fun a => (k a).bind f
  | .get a k, f => .get a fun d => (k d).bind f
  | .put a d k, f => .put a d (k.bind f)
  | .frz d k, f => .frz d fun e => (k e).bind f
def M.nox {α : Type} : M α → M α
  | .ok a => .ok a
  | .raise _ => .bad
  | .bad => .bad
  | .take q t k => .take q t fun i => (k i).nox
  | .beg k => .beg fun q => (k q).nox
  | .new d k => .new d fun a => (k a).nox
  | .get a k => .get a fun d => (k d).nox
  | .put a d k => .put a d k.nox
  | .frz d k => .frz d fun e => (k e).nox
def M.all {α β : Type} : M α → (α → M β) → (Ex → M β) → M β
  | .ok a, f, _ => f a
  | .raise x, _, g => g x
  | .bad, _, _ => .bad
  | .take q t k, f, g => .take q t fun i => (k i).all f g
  | .beg k, f, g => .beg fun q => (k q).all f g
  | .new d k, f, g => .new d fun a => (k a).all f g
  | .get a k, f, g => .get a fun d => (k d).all f g
  | .put a d k, f, g => .put a d (k.all f g)
  | .frz d k, f, g => .frz d fun e => (k e).all f g
def M.of {α : Type} : Option α → M α
  | some a => .ok a
  | none => .bad
section
variable {α β γ : Type}
@[simp] theorem ok_bind (a : α) (f : α → M β) : (M.ok a).bind f = f a := rfl
@[simp] theorem raise_bind (x : Ex) (f : α → M β) : (M.raise x : M α).bind f = .raise x := rfl
@[simp] theorem bad_bind (f : α → M β) : (M.bad : M α).bind f = .bad := rfl
@[simp] theorem take_bind (q : Tk) (t : Int) (k : Int → M α) (f : α → M β) : (M.take q t k).bind f = .take q t fun i => (k i).bind f := rfl
@[simp] theorem beg_bind (k : Tk → M α) (f : α → M β) : (M.beg k).bind f = .beg fun q => (k q).bind f := rfl
@[simp] theorem new_bind (d : D) (k : Addr → M α) (f : α → M β) : (M.new d k).bind f = .new d fun q => (k q).bind f := rfl
@[simp] theorem get_bind (a : Addr) (k : D → M α) (f : α → M β) : (M.get a k).bind f = .get a fun q => (k q).bind f := rfl
@[simp] theorem put_bind (a : Addr) (d : D) (k : M α) (f : α → M β) : (M.put a d k).bind f = .put a d (k.bind f) := rfl
@[simp] theorem frz_bind (d : D) (k : D → M α) (f : α → M β) : (M.frz d k).bind f = .frz d fun q => (k q).bind f := rfl
@[simp] theorem ok_nox (a : α) : (M.ok a).nox = .ok a := rfl
@[simp] theorem of_some (a : α) : M.of (some a) = .ok a := rfl
@[simp] theorem of_none : M.of (none : Option α) = .bad := rfl
@[simp] theorem ok_all (a : α) (f : α → M β) (g : Ex → M β) : (M.ok a).all f g = f a := rfl
@[simp] theorem raise_all (x : Ex) (f : α → M β) (g : Ex → M β) : (M.raise x : M α).all f g = g x := rfl
@[simp] theorem bind_bind (m : M α) (f : α → M β) (g : β → M γ) : (m.bind f).bind g = m.bind fun a => (f a).bind g := by
  induction m with
  | ok a => rfl
  | raise x => rfl
  | bad => rfl
  | take q t k ih => simp only [M.bind]; congr 1; funext i; exact ih i
  | beg k ih => simp only [M.bind]; congr 1; funext i; exact ih i
  | new q k ih => simp only [M.bind]; congr 1; funext i; exact ih i
  | get q k ih => simp only [M.bind]; congr 1; funext i; exact ih i
  | put q d k ih => simp only [M.bind]; congr 1
  | frz q k ih => simp only [M.bind]; congr 1; funext i; exact ih i
theorem bind_ok (m : M α) : m.bind M.ok = m := by
  induction m with
  | ok a => rfl
  | raise x => rfl
  | bad => rfl
  | take q t k ih => simp only [M.bind]; congr 1; funext i; exact ih i
  | beg k ih => simp only [M.bind]; congr 1; funext i; exact ih i
  | new q k ih => simp only [M.bind]; congr 1; funext i; exact ih i
  | get q k ih => simp only [M.bind]; congr 1; funext i; exact ih i
  | put q d k ih => simp only [M.bind]; congr 1
  | frz q k ih => simp only [M.bind]; congr 1; funext i; exact ih i
end
def wp {α : Type} : Dr → Nat → M α → (Dr → Nat → α → Prop) → (Dr → Nat → Ex → Prop) → Prop
  | dr, n, .ok a, Q, _ => Q dr n a
  | dr, n, .raise x, _, E => E dr n x
  | _, _, .bad, _, _ => False
  | dr, n, .take q t k, Q, E => .inl q ∈ dr ∧ 0 < t ∧ t < 1000000000 ∧ ∃ n', n = n' + 1 ∧ ∀ i, 0 ≤ i → i < t → wp dr n' (k i) Q E
  | dr, n, .beg k, Q, E => ∀ q, wp (.inl q :: dr) n (k q) Q E
  | dr, n, .new d k, Q, E => ∀ a, (∀ e, .inr (a, e) ∉ dr) → wp (.inr (a, d) :: dr) n (k a) Q E
  | dr, n, .get a k, Q, E => ∃ d, .inr (a, d) ∈ dr ∧ wp dr n (k d) Q E
  | dr, n, .put a d k, Q, E => (∃ e, .inr (a, e) ∈ dr) ∧ wp (putS dr a d) n k Q E
  | dr, n, .frz d k, Q, E => ∃ e as, Told dr d e as ∧ wp (delS dr as) n (k e) Q E
section
variable {α β : Type} {dr : Dr} {n : Nat} {m : M α} {Q Q' : Dr → Nat → α → Prop} {E E' : Dr → Nat → Ex → Prop}
theorem wp_mono (h : wp dr n m Q E) (hq : ∀ d n a, Q d n a → Q' d n a) (he : ∀ d n x, E d n x → E' d n x) : wp dr n m Q' E' := by
  induction m generalizing dr n with
  | ok a => exact hq _ _ _ h
  | raise x => exact he _ _ _ h
  | bad => exact h
  | take q t k ih =>
    obtain ⟨h0, h1, h2, n', e, h3⟩ := h
    exact ⟨h0, h1, h2, n', e, fun i a b => ih i (h3 i a b)⟩
  | beg k ih => exact fun q => ih q (h q)
  | new d k ih => exact fun a ha => ih a (h a ha)
  | get a k ih =>
    obtain ⟨d, h0, h1⟩ := h
    exact ⟨d, h0, ih d h1⟩
  | put a d k ih => exact ⟨h.1, ih h.2⟩
  | frz d k ih =>
    obtain ⟨e, as, h0, h1⟩ := h
    exact ⟨e, as, h0, ih e h1⟩
theorem wp_bind {f : α → M β} {R : Dr → Nat → β → Prop} : wp dr n (m.bind f) R E ↔ wp dr n m (fun dr n a => wp dr n (f a) R E) E := by
  induction m generalizing dr n with
  | ok a => exact Iff.rfl
  | raise x => exact Iff.rfl
  | bad => exact Iff.rfl
  | take q t k ih =>
    constructor
    · rintro ⟨h0, h1, h2, n', e, h3⟩
      exact ⟨h0, h1, h2, n', e, fun i a b => (ih i).mp (h3 i a b)⟩
    · rintro ⟨h0, h1, h2, n', e, h3⟩
      exact ⟨h0, h1, h2, n', e, fun i a b => (ih i).mpr (h3 i a b)⟩
  | beg k ih => exact ⟨fun h q => (ih q).mp (h q), fun h q => (ih q).mpr (h q)⟩
  | new d k ih => exact ⟨fun h q a => (ih q).mp (h q a), fun h q a => (ih q).mpr (h q a)⟩
  | get a k ih => exact ⟨fun ⟨d, h0, h⟩ => ⟨d, h0, (ih d).mp h⟩, fun ⟨d, h0, h⟩ => ⟨d, h0, (ih d).mpr h⟩⟩
  | put a d k ih => exact ⟨fun h => ⟨h.1, ih.mp h.2⟩, fun h => ⟨h.1, ih.mpr h.2⟩⟩
  | frz d k ih => exact ⟨fun ⟨e, as, h0, h⟩ => ⟨e, as, h0, (ih e).mp h⟩, fun ⟨e, as, h0, h⟩ => ⟨e, as, h0, (ih e).mpr h⟩⟩
theorem wp_all {f : α → M β} {g : Ex → M β} {R : Dr → Nat → β → Prop} : wp dr n (m.all f g) R E ↔ wp dr n m (fun dr n a => wp dr n (f a) R E) (fun dr n x => wp dr n (g x) R E) := by
  induction m generalizing dr n with
  | ok a => exact Iff.rfl
  | raise x => exact Iff.rfl
  | bad => exact Iff.rfl
  | take q t k ih =>
    constructor
    · rintro ⟨h0, h1, h2, n', e, h3⟩
      exact ⟨h0, h1, h2, n', e, fun i a b => (ih i).mp (h3 i a b)⟩
    · rintro ⟨h0, h1, h2, n', e, h3⟩
      exact ⟨h0, h1, h2, n', e, fun i a b => (ih i).mpr (h3 i a b)⟩
  | beg k ih => exact ⟨fun h q => (ih q).mp (h q), fun h q => (ih q).mpr (h q)⟩
  | new d k ih => exact ⟨fun h q a => (ih q).mp (h q a), fun h q a => (ih q).mpr (h q a)⟩
  | get a k ih => exact ⟨fun ⟨d, h0, h⟩ => ⟨d, h0, (ih d).mp h⟩, fun ⟨d, h0, h⟩ => ⟨d, h0, (ih d).mpr h⟩⟩
  | put a d k ih => exact ⟨fun h => ⟨h.1, ih.mp h.2⟩, fun h => ⟨h.1, ih.mpr h.2⟩⟩
  | frz d k ih => exact ⟨fun ⟨e, as, h0, h⟩ => ⟨e, as, h0, (ih e).mp h⟩, fun ⟨e, as, h0, h⟩ => ⟨e, as, h0, (ih e).mpr h⟩⟩
theorem wp_nox  : wp dr n m.nox Q E ↔ wp dr n m Q (fun _ _ _ => False) := by
  induction m generalizing dr n with
  | ok a => exact Iff.rfl
  | raise x => exact Iff.rfl
  | bad => exact Iff.rfl
  | take q t k ih =>
    constructor
    · rintro ⟨h0, h1, h2, n', e, h3⟩
      exact ⟨h0, h1, h2, n', e, fun i a b => (ih i).mp (h3 i a b)⟩
    · rintro ⟨h0, h1, h2, n', e, h3⟩
      exact ⟨h0, h1, h2, n', e, fun i a b => (ih i).mpr (h3 i a b)⟩
  | beg k ih => exact ⟨fun h q => (ih q).mp (h q), fun h q => (ih q).mpr (h q)⟩
  | new d k ih => exact ⟨fun h q a => (ih q).mp (h q a), fun h q a => (ih q).mpr (h q a)⟩
  | get a k ih => exact ⟨fun ⟨d, h0, h⟩ => ⟨d, h0, (ih d).mp h⟩, fun ⟨d, h0, h⟩ => ⟨d, h0, (ih d).mpr h⟩⟩
  | put a d k ih => exact ⟨fun h => ⟨h.1, ih.mp h.2⟩, fun h => ⟨h.1, ih.mpr h.2⟩⟩
  | frz d k ih => exact ⟨fun ⟨e, as, h0, h⟩ => ⟨e, as, h0, (ih e).mp h⟩, fun ⟨e, as, h0, h⟩ => ⟨e, as, h0, (ih e).mpr h⟩⟩
theorem wp_of {o : Option α} : wp dr n (M.of o) Q E ↔ ∃ a, o = some a ∧ Q dr n a := by
  cases o with
  | none => exact ⟨fun h => h.elim, fun ⟨a, e, _⟩ => by cases e⟩
  | some b => exact ⟨fun h => ⟨b, rfl, h⟩, fun ⟨a, e, h⟩ => by cases e; exact h⟩
end
structure Kx where
  K : PySem.W.Frag
  ca : Str → Addr
  T : List (Addr × Str)
def HidR (G : Hp) (a : Addr) : Nat → List (List Ky) → Prop
  | 0, [w] => G a = some (.tup (w.map fun q => kV (kk q)))
  | 1, ks => ∃ kvs : List (List Key × V), G a = some (.dT kvs) ∧ ∀ w : List Key, (valV kvs w).isSome = true ↔ ∃ z ∈ ks, z.map kk = w
  | _, _ => False
theorem HidR.mono {G G' : Hp} (l : Le G G') {a : Addr} {n : Nat} {ks : List (List Ky)} (h : HidR G a n ks) : HidR G' a n ks := by
  unfold HidR at h ⊢
  split at h
  · exact l _ _ h
  · obtain ⟨kvs, h2, h3⟩ := h
    exact ⟨kvs, l _ _ h2, h3⟩
  · exact h
mutual
inductive Rp (k : Kx) (G : Hp) : V → D → Prop
  | non : Rp k G .non .non
  | bl (b : Bool) : Rp k G (.bl b) (.bl b)
  | int (i : Int) : Rp k G (.int i) (.int i)
  | str (x : List Nat) : Rp k G (.str (S x)) (.str x)
  | lst {a : Addr} {xs : List V} {ds : List D} : G a = some (.lst xs) → RpA k G xs ds → Rp k G (.ref a) (.lst ds)
  | tup {a : Addr} {xs : List V} {ds : List D} : SqT k.K G a xs → RpA k G xs ds → Rp k G (.ref a) (.tup ds)
  | dic {a : Addr} {kvs : List (Key × V)} {ds : List (Ky × D)} : G a = some (.dK kvs) → RpD k G kvs ds → Rp k G (.ref a) (.dic ds)
  | ty (n : String) : Rp k G (.ty n) (.ty n)
  | glo (x : Str) : Rp k G (.ref (k.ca x)) (.glo x)
  | ins {a dx : Addr} {C : Str} {fs : List (Str × V)} {ds : List (Str × D)} : G a = some (.ins (k.ca C) dx fs) → RpF k G fs ds → Rp k G (.ref a) (.ins C ds)
  | rf (a : Addr) : Rp k G (.ref a) (.rf a)
  | exc {a : Addr} {C : Str} : G a = some (ExV (.ref (k.ca C)) none a) → Rp k G (.ref a) (.exc C [])
  | excF {a b : Addr} {C : Str} {fs : List (Str × V)} {ds : List (Str × D)} : G a = some (ExV (.ref (k.ca C)) (some b) a) → G b = some (.xd fs) → RpF k G fs ds → ds ≠ [] → Rp k G (.ref a) (.exc C ds)
  | drw (q : Tk) : Rp k G (.ref q.1) (.drw q)
  | scr {a : Addr} {ns : List Int} : SqL k.K G a (ns.map .int) → Rp k G (.ref a) (.scr ns)
  | hid {a : Addr} {n : Nat} {ks : List (List Ky)} : HidR G a n ks → Rp k G (.ref a) (.hid n ks)
inductive RpA (k : Kx) (G : Hp) : List V → List D → Prop
  | nil : RpA k G [] []
  | cons {v : V} {vs : List V} {d : D} {ds : List D} : Rp k G v d → RpA k G vs ds → RpA k G (v :: vs) (d :: ds)
inductive RpD (k : Kx) (G : Hp) : List (Key × V) → List (Ky × D) → Prop
  | nil : RpD k G [] []
  | cons {q : Ky} {v : V} {vs : List (Key × V)} {d : D} {ds : List (Ky × D)} : Rp k G v d → RpD k G vs ds → RpD k G ((kk q, v) :: vs) ((q, d) :: ds)
inductive RpF (k : Kx) (G : Hp) : List (Str × V) → List (Str × D) → Prop
  | nil : RpF k G [] []
  | cons {q : Str} {v : V} {vs : List (Str × V)} {d : D} {ds : List (Str × D)} : Rp k G v d → RpF k G vs ds → RpF k G ((q, v) :: vs) ((q, d) :: ds)
end
section
variable {k : Kx} {G G' : Hp}
mutual
theorem Rp.mono (l : Le G G') : ∀ {v : V} {d : D}, Rp k G v d → Rp k G' v d
  | _, _, .non => .non
  | _, _, .bl b => .bl b
  | _, _, .int i => .int i
  | _, _, .str x => .str x
  | _, _, .lst h a => .lst (l _ _ h) (RpA.mono l a)
  | _, _, .tup h a => .tup (le_t l h) (RpA.mono l a)
  | _, _, .dic h a => .dic (l _ _ h) (RpD.mono l a)
  | _, _, .ty n => .ty n
  | _, _, .glo x => .glo x
  | _, _, .ins h a => .ins (l _ _ h) (RpF.mono l a)
  | _, _, .rf a => .rf a
  | _, _, .exc h => .exc (l _ _ h)
  | _, _, .excF h g a n => .excF (l _ _ h) (l _ _ g) (RpF.mono l a) n
  | _, _, .drw q => .drw q
  | _, _, .scr h => .scr (sql_le h l)
  | _, _, .hid h => .hid (h.mono l)
theorem RpA.mono (l : Le G G') : ∀ {v : List V} {d : List D}, RpA k G v d → RpA k G' v d
  | _, _, .nil => .nil
  | _, _, .cons h a => .cons (Rp.mono l h) (RpA.mono l a)
theorem RpD.mono (l : Le G G') : ∀ {v : List (Key × V)} {d : List (Ky × D)}, RpD k G v d → RpD k G' v d
  | _, _, .nil => .nil
  | _, _, .cons h a => .cons (Rp.mono l h) (RpD.mono l a)
theorem RpF.mono (l : Le G G') : ∀ {v : List (Str × V)} {d : List (Str × D)}, RpF k G v d → RpF k G' v d
  | _, _, .nil => .nil
  | _, _, .cons h a => .cons (Rp.mono l h) (RpF.mono l a)
end
theorem RpA.len : ∀ {vs : List V} {ds : List D}, RpA k G vs ds → vs.length = ds.length
  | _, _, .nil => rfl
  | _, _, .cons _ a => by rw [List.length_cons, List.length_cons, RpA.len a]
theorem RpD.len : ∀ {vs : List (Key × V)} {ds : List (Ky × D)}, RpD k G vs ds → vs.length = ds.length
  | _, _, .nil => rfl
  | _, _, .cons _ a => by rw [List.length_cons, List.length_cons, RpD.len a]
theorem RpA.get : ∀ {vs : List V} {ds : List D} {i : Nat} {d : D}, RpA k G vs ds → ds[i]? = some d → ∃ v, vs[i]? = some v ∧ Rp k G v d
  | _, _, _, _, .nil, e => by simp at e
  | _, _, 0, _, .cons h _, e => by simp at e; subst e; exact ⟨_, rfl, h⟩
  | _, _, i + 1, _, .cons _ a, e => by
    obtain ⟨v, h1, h2⟩ := RpA.get (i := i) a (by simpa using e)
    exact ⟨v, by simpa using h1, h2⟩
theorem RpA.app : ∀ {v1 v2 : List V} {d1 d2 : List D}, RpA k G v1 d1 → RpA k G v2 d2 → RpA k G (v1 ++ v2) (d1 ++ d2)
  | _, _, _, _, .nil, h => h
  | _, _, _, _, .cons h a, h2 => .cons h (RpA.app a h2)
theorem RpA.drop : ∀ {n : Nat} {vs : List V} {ds : List D}, RpA k G vs ds → RpA k G (vs.drop n) (ds.drop n)
  | 0, _, _, h => h
  | _ + 1, _, _, .nil => .nil
  | n + 1, _, _, .cons _ a => RpA.drop (n := n) a
theorem RpA.take : ∀ {n : Nat} {vs : List V} {ds : List D}, RpA k G vs ds → RpA k G (vs.take n) (ds.take n)
  | 0, _, _, _ => .nil
  | _ + 1, _, _, .nil => .nil
  | n + 1, _, _, .cons h a => .cons h (RpA.take (n := n) a)
theorem RpA.set {v : V} {d : D} (h : Rp k G v d) : ∀ {vs : List V} {ds : List D} (i : Nat), RpA k G vs ds → RpA k G (vs.set i v) (ds.set i d)
  | _, _, _, .nil => .nil
  | _, _, 0, .cons _ a => .cons h a
  | _, _, i + 1, .cons q a => .cons q (RpA.set h i a)
theorem rp_lst {v : V} {ds : List D} (h : Rp k G v (.lst ds)) : ∃ p xs, v = .ref p ∧ G p = some (.lst xs) ∧ RpA k G xs ds := by
  cases h with | lst h a => exact ⟨_, _, rfl, h, a⟩
theorem rp_tup {v : V} {ds : List D} (h : Rp k G v (.tup ds)) : ∃ p xs, v = .ref p ∧ SqT k.K G p xs ∧ RpA k G xs ds := by
  cases h with | tup h a => exact ⟨_, _, rfl, h, a⟩
theorem rp_dic {v : V} {ds : List (Ky × D)} (h : Rp k G v (.dic ds)) : ∃ p xs, v = .ref p ∧ G p = some (.dK xs) ∧ RpD k G xs ds := by
  cases h with | dic h a => exact ⟨_, _, rfl, h, a⟩
theorem rp_int {v : V} {i : Int} (h : Rp k G v (.int i)) : v = .int i := by cases h; rfl
theorem rp_str {v : V} {i : List Nat} (h : Rp k G v (.str i)) : v = .str (S i) := by cases h; rfl
theorem rp_bl {v : V} {i : Bool} (h : Rp k G v (.bl i)) : v = .bl i := by cases h; rfl
theorem rp_non {v : V} (h : Rp k G v .non) : v = .non := by cases h; rfl
theorem rpa_nil {vs : List V} (h : RpA k G vs []) : vs = [] := by cases h; rfl
theorem rpa_cons {vs : List V} {d : D} {ds : List D} (h : RpA k G vs (d :: ds)) : ∃ v ws, vs = v :: ws ∧ Rp k G v d ∧ RpA k G ws ds := by
  cases h with | cons h a => exact ⟨_, _, rfl, h, a⟩
theorem rpa_one {vs : List V} {d : D} (h : RpA k G vs [d]) : ∃ v, vs = [v] ∧ Rp k G v d := by
  obtain ⟨v, ws, rfl, h1, h2⟩ := rpa_cons h
  rw [rpa_nil h2]; exact ⟨v, rfl, h1⟩
theorem rpa_two {vs : List V} {d e : D} (h : RpA k G vs [d, e]) : ∃ v w, vs = [v, w] ∧ Rp k G v d ∧ Rp k G w e := by
  obtain ⟨v, ws, rfl, h1, h2⟩ := rpa_cons h
  obtain ⟨w, rfl, h3⟩ := rpa_one h2
  exact ⟨v, w, rfl, h1, h3⟩
end
mutual
def py : D → Option PyData
  | .non => some .none
  | .bl b => some (.bool b)
  | .int i => some (.int i)
  | .str w => some (.str (S w))
  | .lst xs => (pys xs).map .list
  | .tup xs => (pys xs).map .tuple
  | .dic kvs => (pyd kvs).map .dict
  | .ty _ => none
  | .glo _ => none
  | .ins _ _ => none
  | .exc _ _ => none
  | .drw _ => none
  | .scr _ => none
  | .rf _ => none
  | .hid _ _ => none
def pys : List D → Option (List PyData)
  | [] => some []
  | d :: ds => match py d, pys ds with
    | some p, some ps => some (p :: ps)
    | _, _ => none
def pyd : List (Ky × D) → Option (List (PyData × PyData))
  | [] => some []
  | (q, d) :: ds => match py d, pyd ds with
    | some p, some ps => some ((kD (kk q), p) :: ps)
    | _, _ => none
end
theorem pys_cons {d : D} {ds : List D} {ps : List PyData} (h : pys (d :: ds) = some ps) : ∃ p qs, py d = some p ∧ pys ds = some qs ∧ ps = p :: qs := by
  rw [pys] at h
  cases e : py d with
  | none => rw [e] at h; cases h
  | some p =>
    cases f : pys ds with
    | none => rw [e, f] at h; cases h
    | some qs => rw [e, f] at h; cases h; exact ⟨p, qs, rfl, rfl, rfl⟩
theorem pyd_cons {q : Ky} {d : D} {ds : List (Ky × D)} {ps : List (PyData × PyData)} (h : pyd ((q, d) :: ds) = some ps) : ∃ p qs, py d = some p ∧ pyd ds = some qs ∧ ps = (kD (kk q), p) :: qs := by
  rw [pyd] at h
  cases e : py d with
  | none => rw [e] at h; cases h
  | some p =>
    cases f : pyd ds with
    | none => rw [e, f] at h; cases h
    | some qs => rw [e, f] at h; cases h; exact ⟨p, qs, rfl, rfl, rfl⟩
section
variable {k : Kx} {G : Hp}
mutual
theorem Rp.z : ∀ {v : V} {d : D}, Rp k G v d → ∀ {p : PyData}, py d = some p → Z.Rp k.K G v p
  | _, _, .non, p, h => by simp only [py, Option.some.injEq] at h; subst h; exact .non
  | _, _, .bl b, p, h => by simp only [py, Option.some.injEq] at h; subst h; exact .bl b
  | _, _, .int b, p, h => by simp only [py, Option.some.injEq] at h; subst h; exact .int b
  | _, _, .str b, p, h => by simp only [py, Option.some.injEq] at h; subst h; exact .str _
  | _, _, .lst e a, p, h => by
    simp only [py, Option.map_eq_some_iff] at h
    obtain ⟨ps, h1, rfl⟩ := h
    exact .lst e (RpA.z a h1)
  | _, _, .tup e a, p, h => by
    simp only [py, Option.map_eq_some_iff] at h
    obtain ⟨ps, h1, rfl⟩ := h
    exact .tup e (RpA.z a h1)
  | _, _, .dic e a, p, h => by
    simp only [py, Option.map_eq_some_iff] at h
    obtain ⟨ps, h1, rfl⟩ := h
    exact .dic e (RpD.z a h1)
  | _, _, .ty n, p, h => by simp [py] at h
  | _, _, .glo n, p, h => by simp [py] at h
  | _, _, .ins .., p, h => by simp [py] at h
  | _, _, .exc .., p, h => by simp [py] at h
  | _, _, .excF .., p, h => by simp [py] at h
  | _, _, .drw .., p, h => by simp [py] at h
  | _, _, .scr .., p, h => by simp [py] at h
  | _, _, .rf .., p, h => by simp [py] at h
  | _, _, .hid .., p, h => by simp [py] at h
theorem RpA.z : ∀ {v : List V} {d : List D}, RpA k G v d → ∀ {p : List PyData}, pys d = some p → Z.RpA k.K G v p
  | _, _, .nil, p, h => by simp only [pys, Option.some.injEq] at h; subst h; exact .nil
  | _, _, .cons e a, p, h => by
    obtain ⟨q, qs, h1, h2, rfl⟩ := pys_cons h
    exact .cons (Rp.z e h1) (RpA.z a h2)
theorem RpD.z : ∀ {v : List (Key × V)} {d : List (Ky × D)}, RpD k G v d → ∀ {p : List (PyData × PyData)}, pyd d = some p → Z.RpD k.K G v p
  | _, _, .nil, p, h => by simp only [pyd, Option.some.injEq] at h; subst h; exact .nil
  | _, _, .cons e a, p, h => by
    obtain ⟨q, qs, h1, h2, rfl⟩ := pyd_cons h
    exact .cons (Rp.z e h1) (RpD.z a h2)
end
mutual
theorem of_z : ∀ (d : D) {v : V} {p : PyData}, py d = some p → Z.Rp k.K G v p → Rp k G v d
  | .non, v, p, h, r => by simp only [py, Option.some.injEq] at h; subst h; cases r; exact .non
  | .bl b, v, p, h, r => by simp only [py, Option.some.injEq] at h; subst h; cases r; exact .bl b
  | .int b, v, p, h, r => by simp only [py, Option.some.injEq] at h; subst h; cases r; exact .int b
  | .str b, v, p, h, r => by simp only [py, Option.some.injEq] at h; subst h; cases r; exact .str b
  | .lst ds, v, p, h, r => by
    simp only [py, Option.map_eq_some_iff] at h
    obtain ⟨ps, h1, rfl⟩ := h
    cases r with | lst e a => exact .lst e (ofs_z ds h1 a)
  | .tup ds, v, p, h, r => by
    simp only [py, Option.map_eq_some_iff] at h
    obtain ⟨ps, h1, rfl⟩ := h
    cases r with | tup e a => exact .tup e (ofs_z ds h1 a)
  | .dic ds, v, p, h, r => by
    simp only [py, Option.map_eq_some_iff] at h
    obtain ⟨ps, h1, rfl⟩ := h
    cases r with | dic e a => exact .dic e (ofd_z ds h1 a)
  | .ty n, v, p, h, r => by simp [py] at h
  | .glo n, v, p, h, r => by simp [py] at h
  | .ins _ _, v, p, h, r => by simp [py] at h
  | .exc _ _, v, p, h, r => by simp [py] at h
  | .drw _, v, p, h, r => by simp [py] at h
  | .scr _, v, p, h, r => by simp [py] at h
  | .rf _, v, p, h, r => by simp [py] at h
  | .hid _ _, v, p, h, r => by simp [py] at h
theorem ofs_z : ∀ (d : List D) {v : List V} {p : List PyData}, pys d = some p → Z.RpA k.K G v p → RpA k G v d
  | [], v, p, h, r => by simp only [pys, Option.some.injEq] at h; subst h; cases r; exact .nil
  | d :: ds, v, p, h, r => by
    obtain ⟨q, qs, h1, h2, rfl⟩ := pys_cons h
    cases r with | cons e a => exact .cons (of_z d h1 e) (ofs_z ds h2 a)
theorem ofd_z : ∀ (d : List (Ky × D)) {v : List (Key × V)} {p : List (PyData × PyData)}, pyd d = some p → Z.RpD k.K G v p → RpD k G v d
  | [], v, p, h, r => by simp only [pyd, Option.some.injEq] at h; subst h; cases r; exact .nil
  | (q, d) :: ds, v, p, h, r => by
    obtain ⟨q', qs, h1, h2, rfl⟩ := pyd_cons h
    generalize hz : (kD (kk q), q') = z at r
    cases r with
    | cons e a =>
      simp only [Prod.mk.injEq] at hz
      obtain ⟨e1, e2⟩ := hz
      have := kD_inj e1
      subst this e2
      exact .cons (of_z d h1 e) (ofd_z ds h2 a)
end
end
end Y

namespace Y
open PySem PySem.Spec PyProof.Rows L2 Z
def NoT (G : Hp) : Prop := ∀ a ps, G a ≠ some (.tbl ps)
def clean (G : Hp) : Hp := fun a => match G a with
  | some (.tbl _) => none
  | x => x
theorem clean_some {G : Hp} {a : Addr} {o : HO} (h : G a = some o) (hn : ∀ ps, o ≠ .tbl ps) : clean G a = some o := by
  unfold clean
  rw [h]
  cases o with
  | tbl ps => exact absurd rfl (hn ps)
  | _ => rfl
theorem of_clean {G : Hp} {a : Addr} {o : HO} (h : clean G a = some o) : G a = some o ∧ ∀ ps, o ≠ .tbl ps := by
  unfold clean at h
  cases q : G a with
  | none => rw [q] at h; cases h
  | some u =>
    rw [q] at h
    cases u with
    | tbl ps => cases h
    | _ => cases h; exact ⟨rfl, fun ps z => by cases z⟩
theorem clean_noT (G : Hp) : NoT (clean G) := fun a ps h => (of_clean h).2 ps rfl
theorem clean_le (G : Hp) : Le (clean G) G := fun a o h => (of_clean h).1
theorem le_clean {G G2 : Hp} (l : Le G G2) (n : NoT G) : Le G (clean G2) := fun a o h => clean_some (l a o h) fun ps z => n a ps (by rw [h, z])
section
variable {k : Kx} {G : Hp}
theorem sqt_clean {K : PySem.W.Frag} {a : Addr} {xs : List V} (h : SqT K G a xs) : SqT K (clean G) a xs := by
  rcases h with q | q
  · rcases q with q | ⟨o, q⟩
    · exact .inl (.inl (clean_some q (by intro ps z; cases z)))
    · exact .inl (.inr ⟨o, clean_some q (by intro ps z; cases z)⟩)
  · exact .inr q
theorem sql_clean {K : PySem.W.Frag} {a : Addr} {xs : List V} (h : SqL K G a xs) : SqL K (clean G) a xs := by
  rcases h with q | q
  · rcases q with q | ⟨o, q⟩
    · exact .inl (.inl (clean_some q (by intro ps z; cases z)))
    · exact .inl (.inr ⟨o, clean_some q (by intro ps z; cases z)⟩)
  · exact .inr q
theorem HidR.clean {a : Addr} {n : Nat} {ks : List (List Ky)} (h : HidR G a n ks) : HidR (Y.clean G) a n ks := by
  unfold HidR at h ⊢
  split at h
  · exact clean_some h (by intro ps z; cases z)
  · obtain ⟨kvs, h2, h3⟩ := h
    exact ⟨kvs, clean_some h2 (by intro ps z; cases z), h3⟩
  · exact h
mutual
theorem Rp.clean : ∀ {v : V} {d : D}, Rp k G v d → Rp k (Y.clean G) v d
  | _, _, .non => .non
  | _, _, .bl b => .bl b
  | _, _, .int i => .int i
  | _, _, .str x => .str x
  | _, _, .lst h a => .lst (clean_some h (by intro ps z; cases z)) (RpA.clean a)
  | _, _, .tup h a => .tup (sqt_clean h) (RpA.clean a)
  | _, _, .dic h a => .dic (clean_some h (by intro ps z; cases z)) (RpD.clean a)
  | _, _, .ty n => .ty n
  | _, _, .glo x => .glo x
  | _, _, .ins h a => .ins (clean_some h (by intro ps z; cases z)) (RpF.clean a)
  | _, _, .rf a => .rf a
  | _, _, .exc h => .exc (clean_some h (by intro ps z; unfold ExV at z; cases z))
  | _, _, .excF h g a n => .excF (clean_some h (by intro ps z; unfold ExV at z; cases z)) (clean_some g (by intro ps z; cases z)) (RpF.clean a) n
  | _, _, .drw h => .drw h
  | _, _, .scr h => .scr (sql_clean h)
  | _, _, .hid h => .hid (HidR.clean h)
theorem RpA.clean : ∀ {v : List V} {d : List D}, RpA k G v d → RpA k (Y.clean G) v d
  | _, _, .nil => .nil
  | _, _, .cons h a => .cons (Rp.clean h) (RpA.clean a)
theorem RpD.clean : ∀ {v : List (Key × V)} {d : List (Ky × D)}, RpD k G v d → RpD k (Y.clean G) v d
  | _, _, .nil => .nil
  | _, _, .cons h a => .cons (Rp.clean h) (RpD.clean a)
theorem RpF.clean : ∀ {v : List (Str × V)} {d : List (Str × D)}, RpF k G v d → RpF k (Y.clean G) v d
  | _, _, .nil => .nil
  | _, _, .cons h a => .cons (Rp.clean h) (RpF.clean a)
end
end
theorem in_ext {G H H2 : Hp} (i : In G H) (n : NoT G) (e : LamX.ExtN H H2) : In G H2 := fun a o h => by
  have ho : ∀ ps, o ≠ .tbl ps := fun ps z => n a ps (by rw [h, z])
  rcases i a o h with q | ⟨d, ob, q⟩
  · exact .inl (e a o q ho)
  · exact .inr ⟨d, ob, e a _ q (fun ps z => by cases z)⟩
theorem extN_le {H H2 : Hp} (l : Le H H2) : LamX.ExtN H H2 := fun b o h _ => l b o h
theorem tabs_le {T : List (Addr × Str)} {H H2 : Hp} (t : LamX.Tabs T H) (l : Le H H2) : LamX.Tabs T H2 := fun p hp => by
  obtain ⟨ps, e1, e2, e3⟩ := t p hp
  refine ⟨ps, l _ _ e1, e2, fun pos cv hc => ?_⟩
  obtain ⟨c, a1, a2⟩ := e3 pos cv hc
  exact ⟨c, a1, l _ _ a2⟩
def Dr1 (q : Addr × Addr × Addr) (n : Nat) (H : Hp) : Prop := ∃ (ws cs : List Int) (r t : Int), H q.1 = some (.dK (dkv q.2.1 q.2.2 r t)) ∧ H q.2.1 = some (.lst (ws.map .int)) ∧ H q.2.2 = some (.lst (cs.map .int)) ∧ q.2.2 ≠ q.2.1 ∧ (∀ x ∈ cs, 0 ≤ x ∧ x < 2147483648) ∧ 0 ≤ t ∧ t + n ≤ 1000000000000
def isDr : Im → Addr → Prop
  | .inl q, a => a = q.1 ∨ a = q.2.1 ∨ a = q.2.2
  | .inr p, a => a = p.1
def Drw : Im → Nat → Hp → Prop
  | .inl q, n, H => Dr1 q n H
  | .inr p, _, H => ∃ o, H p.1 = some o ∧ ∀ ps, o ≠ .tbl ps
def inDr (dr : Dr) (a : Addr) : Prop := ∃ q ∈ dr, isDr q a
theorem Drw.there : ∀ {q : Im} {n : Nat} {H : Hp}, Drw q n H → ∀ {a : Addr}, isDr q a → ∃ o, H a = some o ∧ ∀ ps, o ≠ .tbl ps
  | .inl q, n, H, d, a, h => by
    obtain ⟨ws, cs, r, t, h1, h2, h3, _⟩ := d
    rcases h with rfl | rfl | rfl
    · exact ⟨_, h1, fun ps z => by cases z⟩
    · exact ⟨_, h2, fun ps z => by cases z⟩
    · exact ⟨_, h3, fun ps z => by cases z⟩
  | .inr p, n, H, d, a, h => by
    have h : a = p.1 := h
    rw [h]
    exact d
theorem Drw.ext : ∀ {q : Im} {n : Nat} {H H2 : Hp}, Drw q n H → (∀ a, isDr q a → ∀ o, H a = some o → H2 a = some o) → Drw q n H2
  | .inl q, n, H, H2, d, e => by
    obtain ⟨ws, cs, r, t, h1, h2, h3, h4⟩ := d
    exact ⟨ws, cs, r, t, e _ (.inl rfl) _ h1, e _ (.inr (.inl rfl)) _ h2, e _ (.inr (.inr rfl)) _ h3, h4⟩
  | .inr p, n, H, H2, d, e => by
    obtain ⟨o, h1, h2⟩ := d
    exact ⟨o, e _ rfl _ h1, h2⟩
theorem Drw.mono : ∀ {q : Im} {n n' : Nat} {H : Hp}, Drw q n H → n' ≤ n → Drw q n' H
  | .inl q, n, n', H, d, h => by
    obtain ⟨ws, cs, r, t, h1, h2, h3, h4, h5, h6, h7⟩ := d
    exact ⟨ws, cs, r, t, h1, h2, h3, h4, h5, h6, by omega⟩
  | .inr p, n, n', H, d, h => d
def isFrz : HO → Bool
  | .frz _ _ => true
  | _ => false
abbrev Env := List (Option (Bool × D))
inductive RpO (k : Kx) (G : Hp) : HO → D → Prop
  | lst {xs : List V} {ds : List D} : RpA k G xs ds → RpO k G (.lst xs) (.lst ds)
  | dic {kvs : List (Key × V)} {ds : List (Ky × D)} : RpD k G kvs ds → RpO k G (.dK kvs) (.dic ds)
  | ins {C : Str} {dx : Addr} {fs : List (Str × V)} {ds : List (Str × D)} : RpF k G fs ds → RpO k G (.ins (k.ca C) dx fs) (.ins C ds)
theorem RpO.mono {k : Kx} {G G' : Hp} {o : HO} {d : D} (l : Le G G') (r : RpO k G o d) : RpO k G' o d := by
  cases r with
  | lst a => exact .lst (a.mono l)
  | dic a => exact .dic (a.mono l)
  | ins a => exact .ins (a.mono l)
theorem RpO.nt {k : Kx} {G : Hp} {o : HO} {d : D} (r : RpO k G o d) : ∀ ps, o ≠ .tbl ps := by
  cases r <;> intro ps z <;> cases z
theorem RpO.nf {k : Kx} {G : Hp} {o : HO} {d : D} (r : RpO k G o d) : isFrz o = false := by
  cases r <;> rfl
theorem RpO.rp {k : Kx} {G : Hp} {o : HO} {d : D} {a : Addr} (r : RpO k G o d) (h : G a = some o) : Rp k G (.ref a) d := by
  cases r with
  | lst b => exact .lst h b
  | dic b => exact .dic h b
  | ins b => exact .ins h b
structure Hid (R : Hp) (dr : Dr) (G : Hp) (a : Addr) : Prop where
  g : G a = none
  r : R a = none
  d : ¬ inDr dr a
def Ow (k : Kx) (R : Hp) (dr : Dr) (G H : Hp) (a : Addr) (d : D) : Prop := ∃ o, H a = some o ∧ RpO k G o d ∧ Hid R dr G a
def So (k : Kx) (dr : Dr) (G H : Hp) : Prop := ∀ a d, .inr (a, d) ∈ dr → ∃ o, H a = some o ∧ RpO k G o d
section
variable {k : Kx} {dr : Dr} {G G2 H H2 : Hp}
theorem So.mono (s : So k dr G H) (l : Le G G2) : So k dr G2 H := fun a d h => by
  obtain ⟨o, h1, h2⟩ := s a d h
  exact ⟨o, h1, h2.mono l⟩
theorem So.ext (s : So k dr G H) (e : LamX.ExtN H H2) : So k dr G H2 := fun a d h => by
  obtain ⟨o, h1, h2⟩ := s a d h
  exact ⟨o, e a o h1 h2.nt, h2⟩
theorem in_st {a : Addr} {d : D} (h : .inr (a, d) ∈ dr) : inDr dr a := ⟨_, h, rfl⟩
theorem So.upd {a : Addr} {o : HO} (s : So k dr G H) (h : ¬ inDr dr a) : So k dr G (upd H a o) := fun b d hb => by
  obtain ⟨o', h1, h2⟩ := s b d hb
  exact ⟨o', by rw [upd_ne (fun z => h (by rw [← z]; exact in_st hb))]; exact h1, h2⟩
end
structure Rl (k : Kx) (R : Hp) (dr : Dr) (env : Env) (σ : L2.St) (G H : Hp) (n : Nat) : Prop where
  i : In G H
  nt : NoT G
  tb : LamX.Tabs k.T H
  dd : ∀ q ∈ dr, Drw q n H
  dh : ∀ a, inDr dr a → G a = none
  dj : dr.Pairwise fun q q' => ∀ a, isDr q a → ¬ isDr q' a
  rs : ∀ a o, R a = some o → H a = some o ∧ (isFrz o = false → G a = none) ∧ ¬ inDr dr a ∧ ∀ ps, o ≠ .tbl ps
  sh : ∀ (i : Nat) d, env[i]? = some (some (false, d)) → ∃ v, σ[i]? = some (some v) ∧ Rp k G v d
  ow : ∀ (i : Nat) d, env[i]? = some (some (true, d)) → ∃ a, σ[i]? = some (some (.ref a)) ∧ Ow k R dr G H a d
  inj : ∀ (i j : Nat) a d d', env[i]? = some (some (true, d)) → env[j]? = some (some (true, d')) → σ[i]? = some (some (.ref a)) → σ[j]? = some (some (.ref a)) → i = j
  len : env.length ≤ σ.length
  nb : n ≤ 1000000000000
  so : So k dr G H
def Apart (env : Env) (σ : L2.St) (a : Addr) : Prop := ∀ (i : Nat) d, env[i]? = some (some (true, d)) → σ[i]? ≠ some (some (.ref a))
inductive Md where
  | s | o | v (i : Nat)
abbrev Vl := Md × D
def RV (k : Kx) (R : Hp) (dr : Dr) (env : Env) (σ : L2.St) (G H : Hp) (x : V) : Vl → Prop
  | (.s, d) => Rp k G x d
  | (.o, d) => ∃ a, x = .ref a ∧ Ow k R dr G H a d ∧ Apart env σ a
  | (.v i, d) => σ[i]? = some (some x) ∧ env[i]? = some (some (true, d))
section
variable {k : Kx} {R : Hp} {dr dr' : Dr} {env env1 : Env} {σ σ1 : L2.St} {G G2 H H2 : Hp} {n n' : Nat}
theorem Rl.hne (r : Rl k R dr env σ G H n) {a : Addr} (h : inDr dr a) : ∃ o, H a = some o ∧ ∀ ps, o ≠ .tbl ps := by
  obtain ⟨q, hq, hd⟩ := h
  exact (r.dd q hq).there hd
theorem Rl.ext (r : Rl k R dr env σ G H n) (g : Le G G2) (i : In G2 H2) (e : LamX.ExtN H H2) (nt : NoT G2) (tb : LamX.Tabs k.T H2) (hn : ∀ a o, G2 a = some o → G a = some o ∨ H a = none) : Rl k R dr env σ G2 H2 n := by
  have hid : ∀ a o, H a = some o → G a = none → G2 a = none := fun a o h hg => by
    cases q : G2 a with
    | none => rfl
    | some u =>
      rcases hn a u q with z | z
      · rw [hg] at z; cases z
      · rw [h] at z; cases z
  refine ⟨i, nt, tb, fun q hq => (r.dd q hq).ext fun a ha o ho => ?_, fun a ha => ?_, r.dj, fun a o h => ?_, fun i d h => ?_, fun i d h => ?_, r.inj, r.len, r.nb, (r.so.mono g).ext e⟩
  · obtain ⟨o', e1, e2⟩ := (r.dd q hq).there ha
    rw [ho] at e1; cases e1
    exact e a o ho e2
  · obtain ⟨o, e1, _⟩ := r.hne ha
    exact hid a o e1 (r.dh a ha)
  · obtain ⟨h1, h2, h3, h4⟩ := r.rs a o h
    exact ⟨e a o h1 h4, fun z => hid a o h1 (h2 z), h3, h4⟩
  · obtain ⟨v, h1, h2⟩ := r.sh i d h
    exact ⟨v, h1, h2.mono g⟩
  · obtain ⟨a, h1, o, h2, h3, h4⟩ := r.ow i d h
    exact ⟨a, h1, o, e a o h2 h3.nt, h3.mono g, hid a o h2 h4.g, h4.r, h4.d⟩
theorem Rl.up (r : Rl k R dr env σ G H n) (u : Up G H G2 H2) : Rl k R dr env σ (clean G2) H2 n ∧ Le G (clean G2) :=
  ⟨r.ext (le_clean u.g r.nt) (u.i.le (clean_le G2)) (extN_le u.h) (clean_noT G2) (tabs_le r.tb u.h) fun a o h => u.n a o (of_clean h).1, le_clean u.g r.nt⟩
theorem Rl.keep (r : Rl k R dr env σ G H n) (e : LamX.ExtN H H2) (tb : LamX.Tabs k.T H2) : Rl k R dr env σ G H2 n := r.ext (Le.refl _) (in_ext r.i r.nt e) e r.nt tb fun _ _ h => .inl h
theorem le_upd {p : Addr} {o : HO} (hp : H p = none) : Le H (upd H p o) := fun a u e => by
  rw [upd_ne (fun z => by rw [z, hp] at e; cases e)]; exact e
theorem Rl.new {p : Addr} {o : HO} (r : Rl k R dr env σ G H n) (hp : H p = none) : Rl k R dr env σ G (upd H p o) n := r.keep (extN_le (le_upd hp)) (tabs_le r.tb (le_upd hp))
theorem Rl.no (r : Rl k R dr env σ G H n) {p : Addr} (hp : H p = none) : Hid R dr G p ∧ Apart env σ p := by
  refine ⟨⟨r.i.no hp, ?_, fun z => ?_⟩, fun i d h z => ?_⟩
  · cases q : R p with
    | none => rfl
    | some o => have := (r.rs p o q).1; rw [hp] at this; cases this
  · obtain ⟨o, e, _⟩ := r.hne z
    rw [hp] at e; cases e
  · obtain ⟨a, h1, o, h2, _⟩ := r.ow i d h
    rw [z] at h1; cases h1
    rw [hp] at h2; cases h2
theorem Rl.newO {p : Addr} {o : HO} {d : D} (r : Rl k R dr env σ G H n) (hp : H p = none) (ro : RpO k G o d) : Ow k R dr G (upd H p o) p d ∧ Apart env σ p :=
  ⟨⟨o, upd_same, ro, (r.no hp).1⟩, (r.no hp).2⟩
theorem Rl.show {a : Addr} {d : D} (r : Rl k R dr env σ G H n) (w : Ow k R dr G H a d) (ap : Apart env σ a) : ∃ o, H a = some o ∧ Rl k R dr env σ (upd G a o) H n ∧ Le G (upd G a o) ∧ Rp k (upd G a o) (.ref a) d := by
  obtain ⟨o, h1, h2, h3⟩ := w
  have lg : Le G (upd G a o) := le_upd h3.g
  refine ⟨o, h1, ⟨fun b u e => ?_, fun b ps e => ?_, r.tb, r.dd, fun b hb => ?_, r.dj, fun b u e => ?_, fun i d' e => ?_, fun i d' e => ?_, r.inj, r.len, r.nb, r.so.mono lg⟩, lg, (h2.mono lg).rp upd_same⟩
  · by_cases hb : b = a
    · subst hb; rw [upd_same] at e; cases e; exact .inl h1
    · rw [upd_ne hb] at e; exact r.i b u e
  · by_cases hb : b = a
    · subst hb; rw [upd_same] at e; exact h2.nt ps (Option.some.inj e)
    · rw [upd_ne hb] at e; exact r.nt b ps e
  · rw [upd_ne (fun (z : b = a) => h3.d (by rw [← z]; exact hb))]; exact r.dh b hb
  · obtain ⟨e1, e2, e3, e4⟩ := r.rs b u e
    exact ⟨e1, fun z => by rw [upd_ne (fun z => by rw [z, h3.r] at e; cases e)]; exact e2 z, e3, e4⟩
  · obtain ⟨v, e1, e2⟩ := r.sh i d' e
    exact ⟨v, e1, e2.mono lg⟩
  · obtain ⟨b, e1, u, e2, e3, e4⟩ := r.ow i d' e
    exact ⟨b, e1, u, e2, e3.mono lg, by rw [upd_ne (fun (z : b = a) => ap i d' e (by rw [← z]; exact e1))]; exact e4.g, e4.r, e4.d⟩
theorem Rl.res {a : Addr} {o : HO} (r : Rl k R dr env σ G H n) (h1 : H a = some o) (nt : ∀ ps, o ≠ .tbl ps) (h3 : Hid R dr G a) (ap : Apart env σ a) : Rl k (upd R a o) dr env σ G H n := by
  refine ⟨r.i, r.nt, r.tb, r.dd, r.dh, r.dj, fun b u e => ?_, r.sh, fun i d' e => ?_, r.inj, r.len, r.nb, r.so⟩
  · by_cases hb : b = a
    · subst hb; rw [upd_same] at e; cases e; exact ⟨h1, fun _ => h3.g, h3.d, nt⟩
    · rw [upd_ne hb] at e; exact r.rs b u e
  · obtain ⟨b, e1, u, e2, e3, e4⟩ := r.ow i d' e
    exact ⟨b, e1, u, e2, e3, e4.g, by rw [upd_ne (fun (z : b = a) => ap i d' e (by rw [← z]; exact e1))]; exact e4.r, e4.d⟩
theorem Rl.unres {a : Addr} {o : HO} (r : Rl k (upd R a o) dr env σ G H n) (h : R a = none) (nf : isFrz o = false) : Rl k R dr env σ G H n ∧ H a = some o ∧ Hid R dr G a ∧ Apart env σ a := by
  have le : Le R (upd R a o) := le_upd h
  obtain ⟨h1, h2, h3, h4⟩ := r.rs a o upd_same
  have ne : ∀ b, upd R a o b = none → b ≠ a ∧ R b = none := fun b e => by
    have nb : b ≠ a := fun z => by rw [z, upd_same] at e; cases e
    rw [upd_ne nb] at e; exact ⟨nb, e⟩
  refine ⟨⟨r.i, r.nt, r.tb, r.dd, r.dh, r.dj, fun b u e => r.rs b u (le b u e), r.sh, fun i d' e => ?_, r.inj, r.len, r.nb, r.so⟩, h1, ⟨h2 nf, h, h3⟩, fun i d e z => ?_⟩
  · obtain ⟨b, e1, u, e2, e3, e4⟩ := r.ow i d' e
    exact ⟨b, e1, u, e2, e3, e4.g, (ne b e4.r).2, e4.d⟩
  · obtain ⟨b, e1, u, e2, e3, e4⟩ := r.ow i d e
    rw [e1] at z; cases z
    exact (ne a e4.r).1 rfl
theorem Rl.out (r : Rl k R dr env σ G H n) : ∃ R', Rl k R' dr [] [] G H n ∧ (∀ a, R' a = none → R a = none ∧ Apart env σ a) ∧ ∀ dr' G2 H2 n', Le G G2 → Rl k R' dr' [] [] G2 H2 n' → Rl k R dr' env σ G2 H2 n' := by
  have cl : ∀ a, Decidable (Apart env σ a) := fun a => Classical.propDecidable _
  let R' : Hp := fun a => if Apart env σ a then R a else H a
  have e1 : ∀ a, Apart env σ a → R' a = R a := fun a h => if_pos h
  have e2 : ∀ a, ¬ Apart env σ a → R' a = H a := fun a h => if_neg h
  have nap : ∀ a, ¬ Apart env σ a → ∃ (i : Nat) (d : D), env[i]? = some (some (true, d)) ∧ σ[i]? = some (some (.ref a)) := fun a h => by
    apply Classical.byContradiction
    intro q
    exact h fun i d e1 e2 => q ⟨i, d, e1, e2⟩
  have ow : ∀ a, ¬ Apart env σ a → ∃ d, Ow k R dr G H a d := fun a h => by
    obtain ⟨i, d, f1, f2⟩ := nap a h
    obtain ⟨b, g1, g2⟩ := r.ow i d f1
    rw [f2] at g1; cases g1
    exact ⟨d, g2⟩
  refine ⟨R', ⟨r.i, r.nt, r.tb, r.dd, r.dh, r.dj, fun a o h => ?_, fun i d h => by simp at h, fun i d h => by simp at h, fun i j a d d' h => by simp at h, Nat.le_refl _, r.nb, r.so⟩, fun a h => ?_, fun dr' G2 H2 n' l q => ?_⟩
  · by_cases ha : Apart env σ a
    · rw [e1 a ha] at h; exact r.rs a o h
    · rw [e2 a ha] at h
      obtain ⟨d, u, f1, f2, f3⟩ := ow a ha
      rw [h] at f1; cases f1
      exact ⟨h, fun _ => f3.g, f3.d, f2.nt⟩
  · by_cases ha : Apart env σ a
    · rw [e1 a ha] at h; exact ⟨h, ha⟩
    · rw [e2 a ha] at h
      obtain ⟨d, u, f1, _⟩ := ow a ha
      rw [h] at f1; cases f1
  · have own' : ∀ (i : Nat) d a, env[i]? = some (some (true, d)) → σ[i]? = some (some (.ref a)) → ¬ Apart env σ a := fun i d a f1 f2 z => z i d f1 f2
    refine ⟨q.i, q.nt, q.tb, q.dd, q.dh, q.dj, fun a o h => ?_, fun i d h => ?_, fun i d h => ?_, r.inj, r.len, q.nb, q.so⟩
    · have ha : Apart env σ a := fun i d f1 f2 => by
        obtain ⟨b, g1, u, g2, g3, g4⟩ := r.ow i d f1
        rw [f2] at g1; cases g1
        rw [g4.r] at h; cases h
      exact q.rs a o (by rw [e1 a ha]; exact h)
    · obtain ⟨v, f1, f2⟩ := r.sh i d h
      exact ⟨v, f1, f2.mono l⟩
    · obtain ⟨a, f1, o, f2, f3, f4⟩ := r.ow i d h
      obtain ⟨g1, g2, g3, g4⟩ := q.rs a o (by rw [e2 a (own' i d a h f1)]; exact f2)
      exact ⟨a, f1, o, g1, f3.mono l, g2 f3.nf, f4.r, g3⟩
theorem Rl.back (r : Rl k R dr env σ G H n) (q : Rl k R dr' env1 σ1 G2 H2 n') (l : Le G G2) (ag : ∀ (i : Nat) d, env[i]? = some (some (true, d)) → env1[i]? = some (some (true, d)) ∧ σ1[i]? = σ[i]?) : Rl k R dr' env σ G2 H2 n' := by
  refine ⟨q.i, q.nt, q.tb, q.dd, q.dh, q.dj, q.rs, fun i d h => ?_, fun i d h => ?_, r.inj, r.len, q.nb, q.so⟩
  · obtain ⟨v, f1, f2⟩ := r.sh i d h
    exact ⟨v, f1, f2.mono l⟩
  · obtain ⟨h1, h2⟩ := ag i d h
    obtain ⟨a, f1, f2⟩ := q.ow i d h1
    exact ⟨a, by rw [← h2]; exact f1, f2⟩
theorem Rl.bare (r : Rl k R dr env σ G H n) : Rl k R dr [] [] G H n := ⟨r.i, r.nt, r.tb, r.dd, r.dh, r.dj, r.rs, fun i d h => by simp at h, fun i d h => by simp at h, fun i j a d d' h => by simp at h, Nat.le_refl _, r.nb, r.so⟩
theorem set_get {α : Type} {l : List α} {i j : Nat} {x y : α} (h : (l.set i x)[j]? = some y) : (i = j ∧ x = y ∧ j < l.length) ∨ (i ≠ j ∧ l[j]? = some y) := by
  by_cases e : i = j
  · subst e
    have hl : i < l.length := by
      have := (List.getElem?_eq_some_iff.mp h).1
      simpa using this
    rw [List.getElem?_set_self hl] at h
    exact .inl ⟨rfl, Option.some.inj h, hl⟩
  · rw [List.getElem?_set_ne e] at h
    exact .inr ⟨e, h⟩
theorem Rl.set (r : Rl k R dr env σ G H n) {i : Nat} {v : V} {d : D} (h : Rp k G v d) : Rl k R dr (env.set i (some (false, d))) (σ.set i (some v)) G H n := by
  refine ⟨r.i, r.nt, r.tb, r.dd, r.dh, r.dj, r.rs, fun j e q => ?_, fun j e q => ?_, fun j1 j2 a d1 d2 q1 q2 f1 f2 => ?_, by simp only [List.length_set]; exact r.len, r.nb, r.so⟩
  · rcases set_get q with ⟨e1, e2, e3⟩ | ⟨e1, e2⟩
    · cases e2; subst e1
      exact ⟨v, List.getElem?_set_self (Nat.lt_of_lt_of_le e3 r.len), h⟩
    · rw [List.getElem?_set_ne e1]; exact r.sh j e e2
  · rcases set_get q with ⟨e1, e2, e3⟩ | ⟨e1, e2⟩
    · cases e2
    · rw [List.getElem?_set_ne e1]; exact r.ow j e e2
  · rcases set_get q1 with ⟨e1, e2, e3⟩ | ⟨e1, e2⟩
    · cases e2
    rcases set_get q2 with ⟨g1, g2, g3⟩ | ⟨g1, g2⟩
    · cases g2
    rw [List.getElem?_set_ne e1] at f1
    rw [List.getElem?_set_ne g1] at f2
    exact r.inj j1 j2 a d1 d2 e2 g2 f1 f2
theorem Rl.setO (r : Rl k R dr env σ G H n) {i : Nat} {a : Addr} {d : D} (h : Ow k R dr G H a d) (ap : Apart env σ a) : Rl k R dr (env.set i (some (true, d))) (σ.set i (some (.ref a))) G H n := by
  refine ⟨r.i, r.nt, r.tb, r.dd, r.dh, r.dj, r.rs, fun j e q => ?_, fun j e q => ?_, fun j1 j2 b d1 d2 q1 q2 f1 f2 => ?_, by simp only [List.length_set]; exact r.len, r.nb, r.so⟩
  · rcases set_get q with ⟨e1, e2, e3⟩ | ⟨e1, e2⟩
    · cases e2
    · rw [List.getElem?_set_ne e1]; exact r.sh j e e2
  · rcases set_get q with ⟨e1, e2, e3⟩ | ⟨e1, e2⟩
    · cases e2; subst e1
      exact ⟨a, List.getElem?_set_self (Nat.lt_of_lt_of_le e3 r.len), h⟩
    · rw [List.getElem?_set_ne e1]; exact r.ow j e e2
  · rcases set_get q1 with ⟨e1, e2, e3⟩ | ⟨e1, e2⟩
    · rcases set_get q2 with ⟨g1, g2, g3⟩ | ⟨g1, g2⟩
      · rw [← e1, ← g1]
      · rw [List.getElem?_set_ne g1] at f2
        subst e1
        rw [List.getElem?_set_self (Nat.lt_of_lt_of_le e3 r.len)] at f1
        cases f1
        exact absurd f2 (ap j2 d2 g2)
    · rcases set_get q2 with ⟨g1, g2, g3⟩ | ⟨g1, g2⟩
      · rw [List.getElem?_set_ne e1] at f1
        subst g1
        rw [List.getElem?_set_self (Nat.lt_of_lt_of_le g3 r.len)] at f2
        cases f2
        exact absurd f1 (ap j1 d1 e2)
      · rw [List.getElem?_set_ne e1] at f1
        rw [List.getElem?_set_ne g1] at f2
        exact r.inj j1 j2 b d1 d2 e2 g2 f1 f2
theorem Rl.drop (r : Rl k R dr env σ G H n) {i : Nat} {v : Option V} : Rl k R dr (env.set i none) (σ.set i v) G H n := by
  refine ⟨r.i, r.nt, r.tb, r.dd, r.dh, r.dj, r.rs, fun j e q => ?_, fun j e q => ?_, fun j1 j2 b d1 d2 q1 q2 f1 f2 => ?_, by simp only [List.length_set]; exact r.len, r.nb, r.so⟩
  · rcases set_get q with ⟨e1, e2, e3⟩ | ⟨e1, e2⟩
    · cases e2
    · rw [List.getElem?_set_ne e1]; exact r.sh j e e2
  · rcases set_get q with ⟨e1, e2, e3⟩ | ⟨e1, e2⟩
    · cases e2
    · rw [List.getElem?_set_ne e1]; exact r.ow j e e2
  · rcases set_get q1 with ⟨e1, e2, e3⟩ | ⟨e1, e2⟩
    · cases e2
    rcases set_get q2 with ⟨g1, g2, g3⟩ | ⟨g1, g2⟩
    · cases g2
    rw [List.getElem?_set_ne e1] at f1
    rw [List.getElem?_set_ne g1] at f2
    exact r.inj j1 j2 b d1 d2 e2 g2 f1 f2
theorem Rl.freeze (r : Rl k R dr env σ G H n) {i : Nat} {d : D} (h : env[i]? = some (some (true, d))) : ∃ G2, Le G G2 ∧ Rl k R dr (env.set i (some (false, d))) σ G2 H n := by
  obtain ⟨a, h1, h2⟩ := r.ow i d h
  have hs : (σ.set i none).set i (some (.ref a)) = σ := by
    rw [List.set_set]
    apply List.ext_getElem?
    intro j
    by_cases e : i = j
    · subst e
      have hl : i < σ.length := (List.getElem?_eq_some_iff.mp h1).1
      rw [List.getElem?_set_self hl, h1]
    · rw [List.getElem?_set_ne e]
  have r1 := r.drop (i := i) (v := none)
  have ap : Apart (env.set i none) (σ.set i none) a := fun j d' q z => by
    rcases set_get q with ⟨e1, e2, e3⟩ | ⟨e1, e2⟩
    · cases e2
    · rw [List.getElem?_set_ne e1] at z
      exact e1 (r.inj i j a d d' h e2 h1 z)
  obtain ⟨o, _, r2, l2, p2⟩ := r1.show h2 ap
  refine ⟨_, l2, ?_⟩
  have r3 := r2.set (i := i) p2
  rw [List.set_set, hs] at r3
  exact r3
theorem Rl.chg (r : Rl k R dr env σ G H n) {i : Nat} {a : Addr} {d d' : D} {o : HO} (h : env[i]? = some (some (true, d))) (h1 : σ[i]? = some (some (.ref a))) (ro : RpO k G o d') : Rl k R dr (env.set i (some (true, d'))) σ G (upd H a o) n := by
  obtain ⟨b, e1, u, e2, e3, e4⟩ := r.ow i d h
  rw [h1] at e1; cases e1
  have hl : i < env.length := (List.getElem?_eq_some_iff.mp h).1
  refine ⟨r.i.mut e4.g, r.nt, fun p hp => ?_, fun q hq => (r.dd q hq).ext fun b hb o' ho' => ?_, r.dh, r.dj, fun b u' hb => ?_, fun j e q => ?_, fun j e q => ?_, fun j1 j2 b d1 d2 q1 q2 f1 f2 => ?_, by simp only [List.length_set]; exact r.len, r.nb, r.so.upd e4.d⟩
  · obtain ⟨ps, t1, t2, t3⟩ := r.tb p hp
    have n1 : p.1 ≠ a := fun z => by rw [z, e2] at t1; cases t1; exact e3.nt ps rfl
    refine ⟨ps, by rw [upd_ne n1]; exact t1, t2, fun pos cv hc => ?_⟩
    obtain ⟨c, a1, a2⟩ := t3 pos cv hc
    have n2 : c ≠ a := fun z => by
      rw [z, e2] at a2
      cases e3 <;> cases a2
    exact ⟨c, a1, by rw [upd_ne n2]; exact a2⟩
  · rw [upd_ne (fun (z : b = a) => e4.d ⟨q, hq, by rw [← z]; exact hb⟩)]; exact ho'
  · obtain ⟨g1, g2, g3, g4⟩ := r.rs b u' hb
    exact ⟨by rw [upd_ne (fun z => by rw [z, e4.r] at hb; cases hb)]; exact g1, g2, g3, g4⟩
  · rcases set_get q with ⟨f1, f2, f3⟩ | ⟨f1, f2⟩
    · cases f2
    · exact r.sh j e f2
  · rcases set_get q with ⟨f1, f2, f3⟩ | ⟨f1, f2⟩
    · cases f2; subst f1
      exact ⟨a, h1, o, upd_same, ro, e4⟩
    · obtain ⟨b, g1, u2, g2, g3, g4⟩ := r.ow j e f2
      have nb : b ≠ a := fun z => f1 (r.inj i j a d e h f2 h1 (by rw [← z]; exact g1))
      exact ⟨b, g1, u2, by rw [upd_ne nb]; exact g2, g3, g4⟩
  · rcases set_get q1 with ⟨x1, x2, x3⟩ | ⟨x1, x2⟩
    · rcases set_get q2 with ⟨y1, y2, y3⟩ | ⟨y1, y2⟩
      · rw [← x1, ← y1]
      · subst x1; exact r.inj i j2 b d d2 h y2 f1 f2
    · rcases set_get q2 with ⟨y1, y2, y3⟩ | ⟨y1, y2⟩
      · subst y1; exact r.inj j1 i b d1 d x2 h f1 f2
      · exact r.inj j1 j2 b d1 d2 x2 y2 f1 f2
theorem Rl.sub {R' : Hp} (l : Le R R') (r : Rl k R' dr env σ G H n) : Rl k R dr env σ G H n :=
  ⟨r.i, r.nt, r.tb, r.dd, r.dh, r.dj, fun b u e => r.rs b u (l b u e), r.sh, fun i d e => by
    obtain ⟨b, e1, u, e2, e3, e4⟩ := r.ow i d e
    exact ⟨b, e1, u, e2, e3, e4.g, l.no e4.r, e4.d⟩, r.inj, r.len, r.nb, r.so⟩
theorem Ow.sub {R' : Hp} {a : Addr} {d : D} (l : Le R R') (w : Ow k R' dr G H a d) : Ow k R dr G H a d := by
  obtain ⟨o, h1, h2, h3⟩ := w
  exact ⟨o, h1, h2, h3.g, l.no h3.r, h3.d⟩
theorem RV.sub {R' : Hp} (l : Le R R') {x : V} {v : Vl} (w : RV k R' dr env σ G H x v) : RV k R dr env σ G H x v := by
  obtain ⟨m, d⟩ := v
  cases m with
  | s => exact w
  | o => obtain ⟨a, e, h1, h2⟩ := w; exact ⟨a, e, h1.sub l, h2⟩
  | v i => exact w
theorem Rl.lock {d : Addr} {kvs : List (Key × V)} {ob : Obj} (r : Rl k R dr env σ G H n) (hg : G d = some (.dK kvs)) (hh : H d = some (.dK kvs)) : Rl k (upd R d (.frz ob (.dK kvs))) dr env σ G (upd H d (.frz ob (.dK kvs))) n ∧ Le R (upd R d (.frz ob (.dK kvs))) := by
  have nd : ¬ inDr dr d := fun z => by rw [r.dh d z] at hg; cases hg
  have nR : R d = none := by
    cases q : R d with
    | none => rfl
    | some o =>
      obtain ⟨e1, e2, _⟩ := r.rs d o q
      rw [hh] at e1; cases e1
      rw [e2 rfl] at hg; cases hg
  have lr : Le R (upd R d (.frz ob (.dK kvs))) := le_upd nR
  refine ⟨⟨fun a o e => ?_, r.nt, fun p hp => ?_, fun q hq => (r.dd q hq).ext fun b hb u hu => ?_, r.dh, r.dj, fun b u e => ?_, r.sh, fun i d' e => ?_, r.inj, r.len, r.nb, r.so.upd nd⟩, lr⟩
  · by_cases ha : a = d
    · subst ha; rw [hg] at e; cases e
      exact .inr ⟨rfl, ob, upd_same⟩
    · rw [upd_ne ha]; exact r.i a o e
  · obtain ⟨ps, t1, t2, t3⟩ := r.tb p hp
    have n1 : p.1 ≠ d := fun z => by rw [z, hh] at t1; cases t1
    refine ⟨ps, by rw [upd_ne n1]; exact t1, t2, fun pos cv hc => ?_⟩
    obtain ⟨c, a1, a2⟩ := t3 pos cv hc
    have n2 : c ≠ d := fun z => by rw [z, hh] at a2; unfold LamX.CodeO at a2; cases a2
    exact ⟨c, a1, by rw [upd_ne n2]; exact a2⟩
  · rw [upd_ne (fun (z : b = d) => nd ⟨q, hq, by rw [← z]; exact hb⟩)]; exact hu
  · by_cases hb : b = d
    · subst hb; rw [upd_same] at e; cases e
      exact ⟨upd_same, fun z => (by cases z), nd, fun ps z => (by cases z)⟩
    · rw [upd_ne hb] at e
      obtain ⟨e1, e2, e3, e4⟩ := r.rs b u e
      exact ⟨by rw [upd_ne hb]; exact e1, e2, e3, e4⟩
  · obtain ⟨b, e1, u, e2, e3, e4⟩ := r.ow i d' e
    have nb : b ≠ d := fun z => by rw [z] at e4; rw [e4.g] at hg; cases hg
    exact ⟨b, e1, u, by rw [upd_ne nb]; exact e2, e3, e4.g, by rw [upd_ne nb]; exact e4.r, e4.d⟩
end
end Y

namespace Y
open PySem PySem.Spec PyProof.Rows L2 Z
def XdOk (k : Kx) (G : Hp) : Option Addr → List (Str × D) → Prop
  | none, fs => fs = []
  | some b, fs => fs ≠ [] ∧ ∃ fv, G b = some (.xd fv) ∧ RpF k G fv fs
def XP (k : Kx) (R : Hp) (G : Hp) (E : XK) : Dr → Nat → Ex → Prop := fun dr n' x => ∀ dd G2 H2, Le G G2 → Rl k R dr [] [] G2 H2 n' → XdOk k G2 dd x.fs → E (.ref (k.ca x.C)) dd H2
theorem XP.mono {k : Kx} {R : Hp} {dr : Dr} {G G2 : Hp} {E : XK} {n : Nat} {x : Ex} (l : Le G G2) (h : XP k R G E dr n x) : XP k R G2 E dr n x := fun dd G3 H3 l3 r q => h dd G3 H3 (l.trans l3) r q
theorem XP.sub {k : Kx} {R R' : Hp} {dr : Dr} {G : Hp} {E : XK} {n : Nat} {x : Ex} (l : Le R R') (h : XP k R G E dr n x) : XP k R' G E dr n x := fun dd G3 H3 l3 r q => h dd G3 H3 l3 (r.sub l) q
def SE (k : Kx) (E : XK) (t : TE) (f : Env → M Vl) : Prop := ∀ R dr env σ G H n Q, Rl k R dr env σ G H n →
  wp dr n (f env) (fun dr n' r => ∀ x G2 H2, Le G G2 → Rl k R dr env σ G2 H2 n' → RV k R dr env σ G2 H2 x r → Q x H2) (XP k R G E) → t σ H Q
def ST (k : Kx) (E : XK) (t : TT) (f : Env → M Bool) : Prop := ∀ R dr env σ G H n Q, Rl k R dr env σ G H n →
  wp dr n (f env) (fun dr n' b => ∀ G2 H2, Le G G2 → Rl k R dr env σ G2 H2 n' → Q b H2) (XP k R G E) → t σ H Q
def RS (k : Kx) (env : Env) (σ : L2.St) (G : Hp) (x : V) : Vl → Prop
  | (.s, d) => Rp k G x d
  | (.o, d) => Rp k G x d
  | (.v i, d) => σ[i]? = some (some x) ∧ env[i]? = some (some (true, d))
inductive RSs (k : Kx) (env : Env) (σ : L2.St) (G : Hp) : List V → List Vl → Prop
  | nil : RSs k env σ G [] []
  | cons {x : V} {xs : List V} {r : Vl} {rs : List Vl} : RS k env σ G x r → RSs k env σ G xs rs → RSs k env σ G (x :: xs) (r :: rs)
def SA (k : Kx) (E : XK) (t : TA) (f : Env → M (List Vl)) : Prop := ∀ R dr env σ G H n Q, Rl k R dr env σ G H n →
  wp dr n (f env) (fun dr n' r => ∀ xs G2 H2, Le G G2 → Rl k R dr env σ G2 H2 n' → RSs k env σ G2 xs r → Q xs H2) (XP k R G E) → t σ H Q
def isV : Vl → Bool
  | (.v _, _) => true
  | _ => false
def scal : D → Bool
  | .non => true | .bl _ => true | .int _ => true | .str _ => true | .ty _ => true | .glo _ => true | .rf _ => true
  | _ => false
section
variable {k : Kx} {E : XK} {R : Hp} {dr : Dr} {env : Env} {σ : L2.St} {G G2 H H2 : Hp} {n n' : Nat} {Q : VK} {te ta tb tc : TE} {f fa fb fc : Env → M Vl} {t u : TT} {ft fu : Env → M Bool}
theorem rp_scal {v : V} {d : D} {G' : Hp} (h : scal d = true) (r : Rp k G v d) : Rp k G' v d := by
  cases r <;> first
    | (simp [scal] at h; done)
    | constructor
theorem RS.mono (l : Le G G2) {x : V} {r : Vl} (h : RS k env σ G x r) : RS k env σ G2 x r := by
  obtain ⟨m, d⟩ := r
  cases m with
  | s => exact Rp.mono l h
  | o => exact Rp.mono l h
  | v i => exact h
theorem RSs.mono (l : Le G G2) : ∀ {x : List V} {r : List Vl}, RSs k env σ G x r → RSs k env σ G2 x r
  | _, _, .nil => .nil
  | _, _, .cons h a => .cons (h.mono l) (RSs.mono l a)
theorem settle (r : Rl k R dr env σ G H n) {x : V} {v : Vl} (h : RV k R dr env σ G H x v) : ∃ G2, Le G G2 ∧ Rl k R dr env σ G2 H n ∧ RS k env σ G2 x v := by
  obtain ⟨m, d⟩ := v
  cases m with
  | s => exact ⟨G, Le.refl _, r, h⟩
  | o =>
    obtain ⟨a, rfl, h1, h2⟩ := h
    obtain ⟨o, _, r2, l2, p2⟩ := r.show h1 h2
    exact ⟨_, l2, r2, p2⟩
  | v i => exact ⟨G, Le.refl _, r, h⟩
theorem SE.run (h : SE k E te f) (r : Rl k R dr env σ G H n) {P : Dr → Nat → Vl → Prop} {X : Dr → Nat → Ex → Prop} (w : wp dr n (f env) P X) (he : ∀ d n x, X d n x → XP k R G E d n x) (hq : ∀ dr n' v x G2 H2, P dr n' v → Le G G2 → Rl k R dr env σ G2 H2 n' → RS k env σ G2 x v → Q x H2) : te σ H Q := by
  refine h R dr env σ G H n Q r (wp_mono w (fun dr n' v p x G2 H2 l r2 q => ?_) he)
  obtain ⟨G3, l3, r3, s3⟩ := settle r2 q
  exact hq dr n' v x G3 H2 p (l.trans l3) r3 s3
theorem Rl.reveal (r : Rl k R dr env σ G H n) : ∃ G', Le G G' ∧ In G' H ∧ NoT G' ∧ Rl k R dr [] [] G' H n ∧ ∀ x v, RS k env σ G x v → Rp k G' x v.2 := by
  have cl : ∀ a, Decidable (Apart env σ a) := fun a => Classical.propDecidable _
  let G' : Hp := fun a => if Apart env σ a then G a else H a
  have e1 : ∀ a, Apart env σ a → G' a = G a := fun a h => if_pos h
  have e2 : ∀ a, ¬ Apart env σ a → G' a = H a := fun a h => if_neg h
  have nap : ∀ a, ¬ Apart env σ a → ∃ (i : Nat) (d : D), env[i]? = some (some (true, d)) ∧ σ[i]? = some (some (.ref a)) := fun a h => by
    apply Classical.byContradiction
    intro q
    exact h fun i d e1 e2 => q ⟨i, d, e1, e2⟩
  have ow : ∀ a, ¬ Apart env σ a → ∃ d, Ow k R dr G H a d := fun a h => by
    obtain ⟨i, d, f1, f2⟩ := nap a h
    obtain ⟨b, g1, g2⟩ := r.ow i d f1
    rw [f2] at g1; cases g1
    exact ⟨d, g2⟩
  have lg : Le G G' := fun a o h => by
    by_cases ha : Apart env σ a
    · rw [e1 a ha]; exact h
    · obtain ⟨d, u, f1, f2, f3⟩ := ow a ha
      rw [f3.g] at h; cases h
  have ig : In G' H := fun a o h => by
    by_cases ha : Apart env σ a
    · rw [e1 a ha] at h; exact r.i a o h
    · rw [e2 a ha] at h; exact .inl h
  have ng : NoT G' := fun a ps h => by
    by_cases ha : Apart env σ a
    · rw [e1 a ha] at h; exact r.nt a ps h
    · rw [e2 a ha] at h
      obtain ⟨d, u, f1, f2, f3⟩ := ow a ha
      rw [h] at f1; cases f1; exact f2.nt ps rfl
  refine ⟨G', lg, ig, ng, ⟨ig, ng, r.tb, r.dd, fun a h => ?_, r.dj, fun a o h => ?_, fun i d h => by simp at h, fun i d h => by simp at h, fun i j a d d' h => by simp at h, Nat.le_refl _, r.nb, r.so.mono lg⟩, fun x v h => ?_⟩
  · have ha : Apart env σ a := Classical.byContradiction fun z => by
      obtain ⟨d, u, f1, f2, f3⟩ := ow a z
      exact f3.d h
    rw [e1 a ha]; exact r.dh a h
  · have ha : Apart env σ a := Classical.byContradiction fun z => by
      obtain ⟨d, u, f1, f2, f3⟩ := ow a z
      rw [f3.r] at h; cases h
    obtain ⟨q1, q2, q3, q4⟩ := r.rs a o h
    exact ⟨q1, fun z => by rw [e1 a ha]; exact q2 z, q3, q4⟩
  · obtain ⟨m, d⟩ := v
    cases m with
    | s => exact Rp.mono lg h
    | o => exact Rp.mono lg h
    | v i =>
      obtain ⟨h1, h2⟩ := h
      obtain ⟨a, f1, o, f2, f3, f4⟩ := r.ow i d h2
      rw [h1] at f1
      cases f1
      have na : ¬ Apart env σ a := fun z => z i d h2 h1
      exact (f3.mono lg).rp (by rw [e2 a na]; exact f2)
theorem Rl.revealA (r : Rl k R dr env σ G H n) : ∃ G', Le G G' ∧ In G' H ∧ Rl k R dr [] [] G' H n ∧ (∀ x v, RS k env σ G x v → Rp k G' x v.2) ∧ ∀ xs vs, RSs k env σ G xs vs → RpA k G' xs (vs.map (·.2)) := by
  obtain ⟨G', h1, h2, h3, h4, h5⟩ := r.reveal
  refine ⟨G', h1, h2, h4, h5, fun xs vs h => ?_⟩
  induction h with
  | nil => exact .nil
  | cons a _ ih => exact .cons (h5 _ _ a) ih
theorem rs_s {x : V} {v : Vl} (h : isV v = false) (r : RS k env σ G x v) : Rp k G x v.2 := by
  obtain ⟨m, d⟩ := v
  cases m with
  | s => exact r
  | o => exact r
  | v i => cases h
theorem rss_s : ∀ {xs : List V} {vs : List Vl}, vs.any isV = false → RSs k env σ G xs vs → RpA k G xs (vs.map (·.2))
  | _, _, _, .nil => .nil
  | _, _, h, .cons a b => by
    simp only [List.any_cons, Bool.or_eq_false_iff] at h
    exact .cons (rs_s h.1 a) (rss_s h.2 b)
theorem RSs.len : ∀ {xs : List V} {vs : List Vl}, RSs k env σ G xs vs → xs.length = vs.length
  | _, _, .nil => rfl
  | _, _, .cons a b => by rw [List.length_cons, List.length_cons, RSs.len b]
def eVar (i : Nat) : Env → M Vl := fun env => match env[i]? with
  | some (some (false, d)) => .ok (.s, d)
  | some (some (true, d)) => .ok (.v i, d)
  | _ => .bad
theorem se_var {i : Nat} : SE k E (tVar i) (eVar i) := fun R dr env σ G H n Q r w => by
  unfold eVar at w
  split at w
  · rename_i d h
    obtain ⟨v, h1, h2⟩ := r.sh i d h
    exact ⟨v, h1, w v G H (Le.refl _) r h2⟩
  · rename_i d h
    obtain ⟨a, h1, h2⟩ := r.ow i d h
    exact ⟨_, h1, w _ G H (Le.refl _) r ⟨h1, h⟩⟩
  · exact w.elim
def eC (d : D) : Env → M Vl := fun _ => .ok (.s, d)
theorem se_c {v : V} {d : D} (h : ∀ G, Rp k G v d) : SE k E (tC v) (eC d) := fun R dr env σ G H n Q r w => w v G H (Le.refl _) r (h G)
theorem se_int {i : Int} : SE k E (tC (.int i)) (eC (.int i)) := se_c fun _ => .int i
theorem se_bl {i : Bool} : SE k E (tC (.bl i)) (eC (.bl i)) := se_c fun _ => .bl i
theorem se_non : SE k E (tC .non) (eC .non) := se_c fun _ => .non
theorem se_str {z : Str} {l : List Nat} (h : z = S l) : SE k E (tC (.str z)) (eC (.str l)) := by subst h; exact se_c fun _ => .str l
theorem se_ty {x : String} : SE k E (tC (.ty x)) (eC (.ty x)) := se_c fun _ => .ty x
theorem se_glo {x : Str} {a : Addr} (h : a = k.ca x) : SE k E (tC (.ref a)) (eC (.glo x)) := by subst h; exact se_c fun _ => .glo x
def OpS (k : Kx) (r : R2) (g : D → D → Option D) : Prop := ∀ G H x y a b d, In G H → Rp k G x a → Rp k G y b → g a b = some d → ∀ Q : VK, (∀ v G2 H2, Up G H G2 H2 → Rp k G2 v d → Q v H2) → r x y H Q
def UnS (k : Kx) (r : V → Hp → VK → Prop) (g : D → Option D) : Prop := ∀ G H x a d, In G H → Rp k G x a → g a = some d → ∀ Q : VK, (∀ v G2 H2, Up G H G2 H2 → Rp k G2 v d → Q v H2) → r x H Q
def CaS (k : Kx) (r : List V → Hp → VK → Prop) (g : List D → Option D) : Prop := ∀ G H xs ds d, In G H → RpA k G xs ds → g ds = some d → ∀ Q : VK, (∀ v G2 H2, Up G H G2 H2 → Rp k G2 v d → Q v H2) → r xs H Q
def CaO (k : Kx) (r : List V → Hp → VK → Prop) (g : List D → Option D) : Prop := ∀ G H xs ds d, In G H → RpA k G xs ds → g ds = some d → ∀ Q : VK, (∀ p o, H p = none → RpO k G o d → Q (.ref p) (upd H p o)) → r xs H Q
def fin (vb : Bool) (d : D) : M Vl := if vb then (if scal d then .ok (.s, d) else .bad) else .ok (.s, d)
@[simp] theorem fin_f (d : D) : fin false d = .ok (.s, d) := rfl
def eOp (g : D → D → Option D) (fa fb : Env → M Vl) : Env → M Vl := fun env => (fa env).bind fun x => (fb env).bind fun y => (M.of (g x.2 y.2)).bind fun d => fin (isV x || isV y) d
def eUn (g : D → Option D) (fa : Env → M Vl) : Env → M Vl := fun env => (fa env).bind fun x => (M.of (g x.2)).bind fun d => fin (isV x) d
theorem op_end {vb : Bool} {d : D} {P : Prop} (r : Rl k R dr env σ G H n) {X : Dr → Nat → Ex → Prop} (w : wp dr n (fin vb d) (fun dr n' r => ∀ x G2 H2, Le G G2 → Rl k R dr env σ G2 H2 n' → RV k R dr env σ G2 H2 x r → Q x H2) X)
    (h : ∀ G', Le G G' → In G' H → (vb = false → G' = G) → (∀ x v, (vb = false → isV v = false) → RS k env σ G x v → Rp k G' x v.2) → (∀ xs vs, (vb = false → vs.any isV = false) → RSs k env σ G xs vs → RpA k G' xs (vs.map (·.2))) → (∀ v G2 H2, Up G' H G2 H2 → Rp k G2 v d → Q v H2) → P) : P := by
  cases vb with
  | false =>
    refine h G (Le.refl _) r.i (fun _ => rfl) (fun x v hv hs => rs_s (hv rfl) hs) (fun x v hv hs => rss_s (hv rfl) hs) fun v G2 H2 u p => ?_
    obtain ⟨r2, l2⟩ := r.up u
    exact w v _ H2 l2 r2 p.clean
  | true =>
    unfold fin at w
    rw [if_pos rfl] at w
    by_cases hs : scal d = true
    · rw [if_pos hs] at w
      obtain ⟨G', l, i, _, q1, q2⟩ := r.revealA
      refine h G' l i (fun z => by cases z) (fun x v _ hs => q1 x v hs) (fun x v _ hs => q2 x v hs) fun v G2 H2 u p => ?_
      exact w v G H2 (Le.refl _) (r.keep (extN_le u.h) (tabs_le r.tb u.h)) (rp_scal hs p)
    · rw [if_neg hs] at w; exact w.elim
theorem wp_bind' {α β : Type} {m : M α} {f : α → M β} {P : Dr → Nat → β → Prop} {X : Dr → Nat → Ex → Prop} (w : wp dr n (m.bind f) P X) : wp dr n m (fun dr n a => wp dr n (f a) P X) X := wp_bind.mp w
theorem se_op {r : R2} {g : D → D → Option D} (ho : OpS k r g) (ha : SE k E ta fa) (hb : SE k E tb fb) : SE k E (tOp r ta tb) (eOp g fa fb) := fun R dr env σ G H n Q rl w => by
  refine ha.run rl (wp_bind' w) (fun _ _ _ h => h) fun dr n1 v x G1 H1 w1 l1 r1 s1 => ?_
  refine hb.run r1 (wp_bind' w1) (fun _ _ _ h => h.mono l1) fun dr n2 v2 y G2 H2 w2 l2 r2 s2 => ?_
  obtain ⟨d, hd, w3⟩ := wp_of.mp (wp_bind' w2)
  refine op_end (P := r x y H2 Q) r2 (wp_mono w3 (fun dr n' r q x G3 H3 l3 => q x G3 H3 ((l1.trans l2).trans l3)) (fun _ _ _ h => h)) fun G' l' i' _ q1 q2 fin => ?_
  refine ho G' H2 x y v.2 v2.2 d i' (q1 x v (fun z => by revert z; cases isV v <;> simp) (s1.mono l2)) (q1 y v2 (fun z => by revert z; cases isV v2 <;> simp) s2) hd Q fin
theorem se_un {r : V → Hp → VK → Prop} {g : D → Option D} (ho : UnS k r g) (ha : SE k E ta fa) : SE k E (tUn r ta) (eUn g fa) := fun R dr env σ G H n Q rl w => by
  refine ha.run rl (wp_bind' w) (fun _ _ _ h => h) fun dr n1 v x G1 H1 w1 l1 r1 s1 => ?_
  obtain ⟨d, hd, w3⟩ := wp_of.mp (wp_bind' w1)
  refine op_end (P := r x H1 Q) r1 (wp_mono w3 (fun dr n' r q x G3 H3 l3 => q x G3 H3 (l1.trans l3)) (fun _ _ _ h => h)) fun G' l' i' _ q1 q2 fin => ?_
  exact ho G' H1 x v.2 d i' (q1 x v (fun z => z) s1) hd Q fin
def eNil : Env → M (List Vl) := fun _ => .ok []
def eCons (fa : Env → M Vl) (fr : Env → M (List Vl)) : Env → M (List Vl) := fun env => (fa env).bind fun x => (fr env).bind fun xs => .ok (x :: xs)
theorem sa_nil : SA k E tNil eNil := fun R dr env σ G H n Q r w => w [] G H (Le.refl _) r .nil
theorem sa_cons {tr : TA} {fr : Env → M (List Vl)} (ha : SE k E ta fa) (hr : SA k E tr fr) : SA k E (tCons ta tr) (eCons fa fr) := fun R dr env σ G H n Q rl w => by
  refine ha.run rl (wp_bind' w) (fun _ _ _ h => h) fun dr n1 v x G1 H1 w1 l1 r1 s1 => ?_
  refine hr R dr env σ G1 H1 n1 _ r1 (wp_mono (wp_bind' w1) (fun dr n' vs q xs G2 H2 l2 r2 s2 => ?_) fun _ _ _ h => h.mono l1)
  exact q (x :: xs) G2 H2 (l1.trans l2) r2 (.cons (s1.mono l2) s2)
def dats (vs : List Vl) : List D := vs.map (·.2)
@[simp] theorem dats_nil : dats [] = [] := rfl
@[simp] theorem dats_cons (v : Vl) (vs : List Vl) : dats (v :: vs) = v.2 :: dats vs := rfl
def eCB (g : List D → Option D) (fa : Env → M (List Vl)) : Env → M Vl := fun env => (fa env).bind fun xs => (M.of (g (dats xs))).bind fun d => fin (xs.any isV) d
def eCO (g : List D → Option D) (fa : Env → M (List Vl)) : Env → M Vl := fun env => (fa env).bind fun xs => if xs.any isV then .bad else (M.of (g (dats xs))).bind fun d => .ok (.o, d)
theorem se_cb {r : List V → Hp → VK → Prop} {g : List D → Option D} {tr : TA} {fr : Env → M (List Vl)} (ho : CaS k r g) (hr : SA k E tr fr) : SE k E (tCB r tr) (eCB g fr) := fun R dr env σ G H n Q rl w => by
  refine hr R dr env σ G H n _ rl (wp_mono (wp_bind' w) (fun dr n1 vs w1 xs G1 H1 l1 r1 s1 => ?_) fun _ _ _ h => h)
  obtain ⟨d, hd, w3⟩ := wp_of.mp (wp_bind' w1)
  refine op_end (P := r xs H1 Q) r1 (wp_mono w3 (fun dr n' r q x G3 H3 l3 => q x G3 H3 (l1.trans l3)) (fun _ _ _ h => h)) fun G' l' i' _ q1 q2 fin => ?_
  exact ho G' H1 xs _ d i' (q2 xs vs (fun z => z) s1) hd Q fin
theorem se_co {r : List V → Hp → VK → Prop} {g : List D → Option D} {tr : TA} {fr : Env → M (List Vl)} (ho : CaO k r g) (hr : SA k E tr fr) : SE k E (tCB r tr) (eCO g fr) := fun R dr env σ G H n Q rl w => by
  refine hr R dr env σ G H n _ rl (wp_mono (wp_bind' w) (fun dr n1 vs w1 xs G1 H1 l1 r1 s1 => ?_) fun _ _ _ h => h)
  by_cases hv : vs.any isV = true
  · rw [if_pos hv] at w1; exact w1.elim
  rw [if_neg hv] at w1
  obtain ⟨d, hd, w3⟩ := wp_of.mp (wp_bind' w1)
  refine ho G1 H1 xs _ d r1.i (rss_s (by simpa using hv) s1) hd Q fun p o hp ro => ?_
  exact w3 _ G1 _ l1 (r1.new hp) ⟨p, rfl, (r1.newO hp ro).1, (r1.newO hp ro).2⟩
def eLst (fa : Env → M (List Vl)) : Env → M Vl := eCO (fun ds => if ds.length ≤ 100000 then some (.lst ds) else none) fa
def eTup (fa : Env → M (List Vl)) : Env → M Vl := fun env => (fa env).bind fun xs => if xs.any isV then .bad else if (dats xs).length ≤ 100000 then .ok (.s, .tup (dats xs)) else .bad
theorem RpA.le {xs : List V} {ds : List D} (h : RpA k G xs ds) (hl : ds.length ≤ 100000) : xs.length ≤ sizeLine := by
  rw [h.len]; exact Nat.le_trans hl (by decide)
theorem se_lst {tr : TA} {fr : Env → M (List Vl)} (hr : SA k E tr fr) : SE k E (tLst tr) (eLst fr) := by
  refine se_co (r := fun xs H Q => xs.length ≤ sizeLine ∧ ∀ p, H p = none → Q (.ref p) (upd H p (.lst xs))) (fun G H xs ds d hi hx hg Q q => ?_) hr
  split at hg
  · rename_i hl
    cases hg
    exact ⟨hx.le hl, fun p hp => q p _ hp (.lst hx)⟩
  · cases hg
theorem se_tup {tr : TA} {fr : Env → M (List Vl)} (hr : SA k E tr fr) : SE k E (tTup tr) (eTup fr) := fun R dr env σ G H n Q rl w => by
  refine hr R dr env σ G H n _ rl (wp_mono (wp_bind' w) (fun dr n1 vs w1 xs G1 H1 l1 r1 s1 => ?_) fun _ _ _ h => h)
  by_cases hv : vs.any isV = true
  · rw [if_pos hv] at w1; exact w1.elim
  rw [if_neg hv] at w1
  by_cases hl : (dats vs).length ≤ 100000
  · rw [if_pos hl] at w1
    have rx := rss_s (by simpa using hv) s1
    refine ⟨rx.le hl, fun p hp => ?_⟩
    have u := Up.new (o := .tup xs) r1.i hp
    obtain ⟨r2, l2⟩ := r1.up u
    exact w1 _ _ _ (l1.trans l2) r2 (.tup (.inl (.inl (clean_some upd_same (by intro ps z; cases z)))) (rx.mono l2))
  · rw [if_neg hl] at w1; exact w1.elim
def eB (fe : Env → M Vl) : Env → M Bool := fun env => (fe env).bind fun x => match x.2 with
  | .bl b => .ok b
  | _ => .bad
theorem eb_in {v : Vl} {P : Dr → Nat → Bool → Prop} {X : Dr → Nat → Ex → Prop} (w : wp dr n (match v.2 with | .bl b => M.ok b | _ => .bad) P X) : ∃ b, v.2 = .bl b ∧ P dr n b := by
  obtain ⟨m, d⟩ := v
  cases d <;> first
    | exact ⟨_, rfl, w⟩
    | exact w.elim
theorem rs_bl {x : V} {v : Vl} {b : Bool} (r : Rl k R dr env σ G H n) (e : v.2 = .bl b) (h : RS k env σ G x v) : x = .bl b := by
  obtain ⟨m, d⟩ := v
  have e : d = .bl b := e
  subst e
  cases m with
  | s => exact rp_bl h
  | o => exact rp_bl h
  | v i =>
    obtain ⟨h1, h2⟩ := h
    obtain ⟨a, f1, o, f2, f3, f4⟩ := r.ow i _ h2
    cases f3
theorem st_b (he : SE k E te f) : ST k E (tB te) (eB f) := fun R dr env σ G H n Q rl w => by
  refine he.run rl (wp_bind' w) (fun _ _ _ h => h) fun dr n1 v x G1 H1 w1 l1 r1 s1 => ?_
  obtain ⟨b, e, w2⟩ := eb_in w1
  exact ⟨b, rs_bl r1 e s1, w2 G1 H1 l1 r1⟩
theorem st_test (he : SE k E te f) : ST k E (tTest te) (eB f) := st_b he
def eAnd (ft fu : Env → M Bool) : Env → M Bool := fun env => (ft env).bind fun b => if b then fu env else .ok false
def eOr (ft fu : Env → M Bool) : Env → M Bool := fun env => (ft env).bind fun b => if b then .ok true else fu env
def eNot (ft : Env → M Bool) : Env → M Bool := fun env => (ft env).bind fun b => .ok (!b)
theorem ST.run (h : ST k E t ft) (r : Rl k R dr env σ G H n) {Q : Bool → Hp → Prop} {P : Dr → Nat → Bool → Prop} {X : Dr → Nat → Ex → Prop} (w : wp dr n (ft env) P X) (he : ∀ d n x, X d n x → XP k R G E d n x) (hq : ∀ dr n' b G2 H2, P dr n' b → Le G G2 → Rl k R dr env σ G2 H2 n' → Q b H2) : t σ H Q :=
  h R dr env σ G H n Q r (wp_mono w (fun dr n' b p G2 H2 l r2 => hq dr n' b G2 H2 p l r2) he)
theorem st_and (h1 : ST k E t ft) (h2 : ST k E u fu) : ST k E (tAnd t u) (eAnd ft fu) := fun R dr env σ G H n Q rl w => by
  refine h1.run rl (wp_bind' w) (fun _ _ _ h => h) fun dr n1 b G1 H1 w1 l1 r1 => ?_
  cases b with
  | true => exact h2.run r1 w1 (fun _ _ _ h => h.mono l1) fun dr n2 b G2 H2 w2 l2 r2 => w2 G2 H2 (l1.trans l2) r2
  | false => exact w1 G1 H1 l1 r1
theorem st_or (h1 : ST k E t ft) (h2 : ST k E u fu) : ST k E (tOr t u) (eOr ft fu) := fun R dr env σ G H n Q rl w => by
  refine h1.run rl (wp_bind' w) (fun _ _ _ h => h) fun dr n1 b G1 H1 w1 l1 r1 => ?_
  cases b with
  | false => exact h2.run r1 w1 (fun _ _ _ h => h.mono l1) fun dr n2 b G2 H2 w2 l2 r2 => w2 G2 H2 (l1.trans l2) r2
  | true => exact w1 G1 H1 l1 r1
theorem st_not (h1 : ST k E t ft) : ST k E (tNot t) (eNot ft) := fun R dr env σ G H n Q rl w => by
  refine h1.run rl (wp_bind' w) (fun _ _ _ h => h) fun dr n1 b G1 H1 w1 l1 r1 => w1 G1 H1 l1 r1
def eBv (b : Bool) : Vl := (.s, .bl b)
def eAndV (fa fb : Env → M Vl) : Env → M Vl := fun env => (eB fa env).bind fun b => if b then fb env else .ok (eBv false)
def eOrV (fa fb : Env → M Vl) : Env → M Vl := fun env => (eB fa env).bind fun b => if b then .ok (eBv true) else fb env
def eNotV (fa : Env → M Vl) : Env → M Vl := fun env => (eB fa env).bind fun b => .ok (eBv (!b))
theorem se_andV (ha : SE k E ta fa) (hb : SE k E tb fb) : SE k E (tAndV ta tb) (eAndV fa fb) := fun R dr env σ G H n Q rl w => by
  refine st_b ha R dr env σ G H n (fun b H1 => if b = true then tb σ H1 Q else Q (.bl false) H1) rl (wp_mono (wp_bind' w) (fun dr n1 b w1 G1 H1 l1 r1 => ?_) fun _ _ _ h => h)
  cases b with
  | true => exact hb R dr env σ G1 H1 n1 Q r1 (wp_mono w1 (fun dr n2 v q x G2 H2 l2 => q x G2 H2 (l1.trans l2)) fun _ _ _ h => h.mono l1)
  | false => exact w1 _ G1 H1 l1 r1 (Rp.bl _)
theorem se_notV (ha : SE k E ta fa) : SE k E (tNotV ta) (eNotV fa) := fun R dr env σ G H n Q rl w =>
  st_b ha R dr env σ G H n (fun b H1 => Q (.bl (!b)) H1) rl (wp_mono (wp_bind' w) (fun dr n1 b w1 G1 H1 l1 r1 => w1 _ G1 H1 l1 r1 (Rp.bl _)) fun _ _ _ h => h)
def eIf (ft : Env → M Bool) (fa fb : Env → M Vl) : Env → M Vl := fun env => (ft env).bind fun b => if b then fa env else fb env
theorem se_if (ht : ST k E t ft) (ha : SE k E ta fa) (hb : SE k E tb fb) : SE k E (tIf t ta tb) (eIf ft fa fb) := fun R dr env σ G H n Q rl w => by
  refine ht.run rl (wp_bind' w) (fun _ _ _ h => h) fun dr n1 b G1 H1 w1 l1 r1 => ?_
  cases b with
  | true => exact ha R dr env σ G1 H1 n1 Q r1 (wp_mono w1 (fun dr n2 v q x G2 H2 l2 => q x G2 H2 (l1.trans l2)) fun _ _ _ h => h.mono l1)
  | false => exact hb R dr env σ G1 H1 n1 Q r1 (wp_mono w1 (fun dr n2 v q x G2 H2 l2 => q x G2 H2 (l1.trans l2)) fun _ _ _ h => h.mono l1)
def eChain (g g' : D → D → Option D) (fa fb fc : Env → M Vl) : Env → M Vl := fun env => (fa env).bind fun x => (fb env).bind fun y => (M.of (g x.2 y.2)).bind fun d => match d with
  | .bl false => .ok (eBv false)
  | .bl true => (fc env).bind fun z => (M.of (g' y.2 z.2)).bind fun d => fin (isV y || isV z) d
  | _ => .bad
theorem se_chain {r r' : R2} {g g' : D → D → Option D} (ho : OpS k r g) (ho' : OpS k r' g') (ha : SE k E ta fa) (hb : SE k E tb fb) (hc : SE k E tc fc) : SE k E (tChain r r' ta tb tc) (eChain g g' fa fb fc) := fun R dr env σ G H n Q rl w => by
  refine ha.run rl (wp_bind' w) (fun _ _ _ h => h) fun dr n1 v x G1 H1 w1 l1 r1 s1 => ?_
  refine hb.run r1 (wp_bind' w1) (fun _ _ _ h => h.mono l1) fun dr n2 v2 y G2 H2 w2 l2 r2 s2 => ?_
  obtain ⟨d, hd, w3⟩ := wp_of.mp (wp_bind' w2)
  obtain ⟨G', lg, ig, _, q1, _⟩ := r2.revealA
  refine ho G' H2 x y v.2 v2.2 d ig (q1 x v (s1.mono l2)) (q1 y v2 s2) hd _ fun z G3 H3 u3 p3 => ?_
  have r3 : Rl k R dr env σ G2 H3 n2 := r2.keep (extN_le u3.h) (tabs_le r2.tb u3.h)
  cases d <;> first
    | exact w3.elim
    | skip
  rename_i b
  cases b with
  | false =>
    refine ⟨false, rp_bl p3, ?_⟩
    rw [if_neg (by simp)]
    exact w3 _ G2 H3 (l1.trans l2) r3 (Rp.bl _)
  | true =>
    refine ⟨true, rp_bl p3, ?_⟩
    rw [if_pos rfl]
    refine hc.run r3 (wp_bind' w3) (fun _ _ _ h => h.mono (l1.trans l2)) fun dr n4 v4 z G4 H4 w4 l4 r4 s4 => ?_
    obtain ⟨d', hd', w5⟩ := wp_of.mp (wp_bind' w4)
    refine op_end (P := r' y z H4 Q) r4 (wp_mono w5 (fun dr n' r q x G3 H3 l3 => q x G3 H3 (((l1.trans l2).trans l4).trans l3)) (fun _ _ _ h => h)) fun G5 l' i' _ q1 q2 fin => ?_
    exact ho' G5 H4 y z v2.2 v4.2 d' i' (q1 y v2 (fun z => by revert z; cases isV v2 <;> simp) (s2.mono l4)) (q1 z v4 (fun z => by revert z; cases isV v4 <;> simp) s4) hd' Q fin
end
end Y

namespace Y
open PySem PySem.Spec PyProof.Rows L2 Z
def spM (k : Kx) (m : List D → M Vl) : Sp := fun vs H Q E => ∃ R dr G n ds, Rl k R dr [] [] G H n ∧ RpA k G vs ds ∧
  wp dr n (m ds) (fun dr n' r => ∀ x G2 H2, Le G G2 → Rl k R dr [] [] G2 H2 n' → RV k R dr [] [] G2 H2 x r → Q x H2) (XP k R G E)
def okA (xs : List Vl) : Bool := xs.all fun r => !isV r
def eCall (m : List D → M Vl) (fa : Env → M (List Vl)) : Env → M Vl := fun env => (fa env).bind fun xs => if okA xs then m (dats xs) else .bad
section
variable {k : Kx} {E : XK} {R : Hp} {dr : Dr} {env : Env} {σ : L2.St} {G G2 H H2 : Hp} {n n' : Nat} {Q : VK} {te ta tb tc : TE} {f fa fb fc : Env → M Vl} {t u : TT} {ft fu : Env → M Bool}
theorem okA_any {vs : List Vl} (h : okA vs = true) : vs.any isV = false := by
  unfold okA at h
  rw [List.all_eq_true] at h
  rw [Bool.eq_false_iff]
  intro z
  obtain ⟨v, hv, h2⟩ := List.any_eq_true.mp z
  have := h v hv
  rw [h2] at this
  cases this
theorem call_end {m : List D → M Vl} {vs : List Vl} {xs : List V} (r : Rl k R dr env σ G H n) (s : RSs k env σ G xs vs)
    (w : wp dr n (if okA vs then m (dats vs) else .bad) (fun dr n' r => ∀ x G2 H2, Le G G2 → Rl k R dr env σ G2 H2 n' → RV k R dr env σ G2 H2 x r → Q x H2) (XP k R G E)) : spM k m xs H Q E := by
  have ho : okA vs = true := Classical.byContradiction fun z => by rw [if_neg z] at w; exact w
  rw [if_pos ho] at w
  have hv := okA_any ho
  obtain ⟨R1, rk, ap1, bk⟩ := r.out
  refine ⟨R1, dr, G, n, dats vs, rk, rss_s hv s, wp_mono w (fun dr' n' v w2 x G2 H2 l2 rr rv => ?_) fun dr' n' x hx dd G2 H2 l2 rr hd => hx dd G2 H2 l2 (bk dr' G2 H2 n' l2 rr).bare hd⟩
  refine w2 x G2 H2 l2 (bk dr' G2 H2 n' l2 rr) ?_
  obtain ⟨m', d⟩ := v
  cases m' with
  | s => exact rv
  | o =>
    obtain ⟨a, e, ⟨o, f2, f3, f4⟩, _⟩ := rv
    obtain ⟨g1, g2⟩ := ap1 a f4.r
    exact ⟨a, e, ⟨o, f2, f3, f4.g, g1, f4.d⟩, g2⟩
  | v j => obtain ⟨h1, _⟩ := rv; simp at h1
theorem se_call {m : List D → M Vl} {tr : TA} {fr : Env → M (List Vl)} (hr : SA k E tr fr) : SE k E (tCall (spM k m) [] E tr) (eCall m fr) := fun R dr env σ G H n Q rl w => by
  refine hr R dr env σ G H n _ rl (wp_mono (wp_bind' w) (fun dr n1 vs w1 xs G1 H1 l1 r1 s1 => ?_) fun _ _ _ h => h)
  rw [List.append_nil]
  exact call_end r1 s1 (wp_mono w1 (fun dr n' r q x G3 H3 l3 => q x G3 H3 (l1.trans l3)) fun _ _ _ h => h.mono l1)
theorem RSs.get : ∀ {xs : List V} {vs : List Vl} (i : Nat), RSs k env σ G xs vs → (xs[i]? = none ∧ vs[i]? = none) ∨ ∃ x v, xs[i]? = some x ∧ vs[i]? = some v ∧ RS k env σ G x v
  | _, _, _, .nil => .inl ⟨rfl, rfl⟩
  | _, _, 0, .cons a _ => .inr ⟨_, _, rfl, rfl, a⟩
  | _, _, i + 1, .cons _ b => by simpa using RSs.get i b
theorem RSs.app : ∀ {xs ys : List V} {vs ws : List Vl}, RSs k env σ G xs vs → RSs k env σ G ys ws → RSs k env σ G (xs ++ ys) (vs ++ ws)
  | _, _, _, _, .nil, h => h
  | _, _, _, _, .cons a b, h => .cons a (RSs.app b h)
theorem RSs.perm {xs ys : List V} {vs ws : List Vl} (is : List Nat) (a : RSs k env σ G xs vs) (b : RSs k env σ G ys ws) : RSs k env σ G (Z.perm is xs ys) (Z.perm is vs ws) := by
  unfold Z.perm
  have h := a.app b
  induction is with
  | nil => exact .nil
  | cons i is ih =>
    rcases h.get i with ⟨e1, e2⟩ | ⟨x, v, e1, e2, e3⟩
    · simp only [List.filterMap_cons, e1, e2]; exact ih
    · simp only [List.filterMap_cons, e1, e2]; exact .cons e3 ih
end
end Y

namespace Y
open PySem PySem.Spec PyProof.Rows L2 Z
def TgS (k : Kx) (vs : List Nat) (g : TG) (tg : D → Env → Option Env) : Prop := ∀ R dr env σ G H n x d env1 (Q : L2.St → Hp → Prop), Rl k R dr env σ G H n → Rp k G x d → tg d env = some env1 →
  (∀ σ1, Rl k R dr env1 σ1 G H n → (∀ j, j ∉ vs → σ1[j]? = σ[j]? ∧ env1[j]? = env[j]?) → σ1.length = σ.length → Q σ1 H) → g x σ H Q
def eTgN (i : Nat) : D → Env → Option Env := fun d env => some (env.set i (some (false, d)))
def eTgNil : List D → Env → Option Env := fun ds env => match ds with
  | [] => some env
  | _ => none
def eTgCons (t : D → Env → Option Env) (ts : List D → Env → Option Env) : List D → Env → Option Env := fun ds env => match ds with
  | d :: ds => (t d env).bind fun env1 => ts ds env1
  | [] => none
def eTgT (n : Nat) (ts : List D → Env → Option Env) : D → Env → Option Env := fun d env => match d with
  | .tup ds => if ds.length = n then ts ds env else none
  | .lst ds => if ds.length = n then ts ds env else none
  | _ => none
def gTL (K : PySem.W.Frag) (n : Nat) (t : TGs) : TG := fun v σ H Q => gTup K n t v σ H Q ∨ gUnl K n t v σ H Q
section
variable {k : Kx}
theorem tg_name {i : Nat} : TgS k [i] (gName i) (eTgN i) := fun R dr env σ G H n x d env1 Q r p e q => by
  cases e
  refine q _ (r.set p) (fun j hj => ?_) (by simp)
  have : i ≠ j := fun z => hj (by simp [z])
  exact ⟨List.getElem?_set_ne this, List.getElem?_set_ne this⟩
end
def Wk (k : Kx) (Rx : Hp) (J : It) (G : Hp) (ds : List D) : Prop := ∀ G' H', Le G G' → In G' H' → (∀ a o, Rx a = some o → H' a = some o) → J.stop ds.length H' ∧ ∀ (j : Nat) d, ds[j]? = some d → J.go j H' ∧ ∀ x H2, J.yld j H' x H2 → ∃ G2, Up G' H' G2 H2 ∧ Rp k G2 x d
def SI (k : Kx) (E : XK) (t : TI) (f : Env → M (List D)) : Prop := ∀ R dr env σ G H n (P : It → Hp → Prop), Rl k R dr env σ G H n →
  wp dr n (f env) (fun dr n' ds => ∀ J Rx G2 H2, Le R Rx → Le G G2 → Rl k Rx dr env σ G2 H2 n' → Wk k Rx J G2 ds → P J H2) (XP k R G E) → t σ H P
def chars (w : List Nat) : List D := w.map fun c => .str [c]
def itD : D → Option (List D)
  | .lst ds => some ds
  | .tup ds => some ds
  | .str w => some (chars w)
  | _ => none
section
variable {k : Kx} {E : XK} {R : Hp} {dr : Dr} {env : Env} {σ : L2.St} {G G2 H H2 : Hp} {n n' : Nat} {te : TE} {f : Env → M Vl}
theorem wk_lst {a : Addr} {xs : List V} {ds : List D} (h : G a = some (.lst xs)) (r : RpA k G xs ds) : Wk k R (Itl k.K a) G ds := fun G' H' l i _ => by
  have e : SqL k.K H' a xs := .inl (.inl (i.ex (l _ _ h) rfl))
  refine ⟨⟨xs, e, Nat.le_of_eq r.len⟩, fun j d hd => ?_⟩
  obtain ⟨v, g1, g2⟩ := r.get hd
  refine ⟨⟨xs, v, e, g1⟩, fun x H2 y => ?_⟩
  obtain ⟨e1, y⟩ := y
  subst e1
  have := y xs e
  rw [g1] at this; cases this
  exact ⟨G', Up.refl i, g2.mono l⟩
theorem wk_tup {a : Addr} {xs : List V} {ds : List D} (h : SqT k.K G a xs) (r : RpA k G xs ds) : Wk k R (Itt k.K a) G ds := fun G' H' l i _ => by
  have e : SqT k.K H' a xs := in_t i (le_t l h)
  refine ⟨⟨xs, e, Nat.le_of_eq r.len⟩, fun j d hd => ?_⟩
  obtain ⟨v, g1, g2⟩ := r.get hd
  refine ⟨⟨xs, v, e, g1⟩, fun x H2 y => ?_⟩
  obtain ⟨e1, y⟩ := y
  subst e1
  have := y xs e
  rw [g1] at this; cases this
  exact ⟨G', Up.refl i, g2.mono l⟩
theorem wk_of {J : It} {K : PySem.W.Frag} {ps : List PyData} {ds : List D} (hk : K = k.K) (h : pys ds = some ps) (w : WkD K J G ps) : Wk k R J G ds := fun G' H' l i _ => by
  subst hk
  obtain ⟨h1, h2⟩ := w G' H' l i
  have key : ∀ (ds : List D) (ps : List PyData), pys ds = some ps → ds.length = ps.length ∧ ∀ (j : Nat) d, ds[j]? = some d → ∃ p, ps[j]? = some p ∧ py d = some p := by
    intro ds
    induction ds with
    | nil => intro ps h; simp only [pys, Option.some.injEq] at h; subst h; exact ⟨rfl, fun j d e => by simp at e⟩
    | cons d ds ih =>
      intro ps h
      obtain ⟨p, qs, e1, e2, rfl⟩ := pys_cons h
      obtain ⟨i1, i2⟩ := ih qs e2
      refine ⟨by simp [i1], fun j d' e => ?_⟩
      cases j with
      | zero => simp at e; subst e; exact ⟨p, rfl, e1⟩
      | succ j => simpa using i2 j d' (by simpa using e)
  obtain ⟨k1, k2⟩ := key ds ps h
  refine ⟨by rw [k1]; exact h1, fun j d hd => ?_⟩
  obtain ⟨p, e1, e2⟩ := k2 j d hd
  obtain ⟨g1, g2⟩ := h2 j p e1
  refine ⟨g1, fun x H2 y => ?_⟩
  obtain ⟨G2, u, rp⟩ := g2 x H2 y
  exact ⟨G2, u, of_z d e2 rp⟩
theorem pys_chars : ∀ w : List Nat, pys (chars w) = some (w.map fun c => .str (S [c]))
  | [] => by simp [chars, pys]
  | c :: w => by
    have := pys_chars w
    simp only [chars, List.map_cons] at this ⊢
    rw [pys, this]
    simp [py]
def dInts (l : List Int) : List D := l.map .int
theorem pys_dInts : ∀ l : List Int, pys (dInts l) = some (l.map .int)
  | [] => by simp [dInts, pys]
  | c :: w => by
    have := pys_dInts w
    simp only [dInts, List.map_cons] at this ⊢
    rw [pys, this]
    simp [py]
def rngD1 : List D → Option (List D)
  | [.int j] => if -1000000 ≤ j ∧ j ≤ 1000000 then some (dInts (rng 0 j.toNat)) else none
  | _ => none
def eRng (g : List D → Option (List D)) (fa : Env → M (List Vl)) : Env → M (List D) := fun env => (fa env).bind fun xs => if xs.any isV then .bad else M.of (g (dats xs))
theorem rpa_int1 {xs : List V} {i : Int} (h : RpA k G xs [.int i]) : xs = [.int i] := by
  obtain ⟨v, rfl, p⟩ := rpa_one h
  rw [rp_int p]
theorem si_rng1 {tr : TA} {fr : Env → M (List Vl)} (hr : SA k E tr fr) : SI k E (iRng1 tr) (eRng rngD1 fr) := fun R dr env σ G H n P rl w => by
  refine hr R dr env σ G H n _ rl (wp_mono (wp_bind' w) (fun dr n1 vs w1 xs G1 H1 l1 r1 s1 => ?_) fun _ _ _ h => h)
  cases hv : vs.any isV with
  | true => rw [hv, if_pos rfl] at w1; exact w1.elim
  | false =>
    rw [hv, if_neg (by simp)] at w1
    have p : RpA k G1 xs (dats vs) := rss_s hv s1
    obtain ⟨ds, e, w2⟩ := wp_of.mp w1
    unfold rngD1 at e
    split at e
    · rename_i j heq
      split at e
      · rename_i hb
        cases e
        rw [heq] at p
        rw [rpa_int1 p]
        exact ⟨j, rfl, by omega, by omega, w2 _ R G1 H1 (Le.refl _) l1 r1 (wk_of rfl (pys_dInts _) wk_range)⟩
      · cases e
    · cases e
end
end Y

namespace Y
open PySem PySem.Spec PyProof.Rows L2 Z
def wipeE (env : Env) : List Nat → Env
  | [] => env
  | v :: vs => (wipeE env vs).set v none
def lcGo (tg : D → Env → Option Env) (ft : Env → M Bool) (fe : Env → M Vl) (env : Env) : List D → M (List D)
  | [] => .ok []
  | d :: ds => (M.of (tg d env)).bind fun env1 => (ft env1).bind fun b => if b then (fe env1).bind fun r => if isV r then .bad else (lcGo tg ft fe env ds).bind fun rs => .ok (r.2 :: rs) else lcGo tg ft fe env ds
def noOwn (env : Env) (vs : List Nat) : Bool := vs.all fun i => match env[i]? with
  | some (some (true, _)) => false
  | _ => true
def eLc (fi : Env → M (List D)) (tg : D → Env → Option Env) (ft : Env → M Bool) (fe : Env → M Vl) (vs : List Nat) : Env → M Vl := fun env => (fi env).bind fun ds => if ds.length ≤ 100000 ∧ noOwn env vs = true then ((lcGo tg ft fe (wipeE env vs) ds).nox).bind fun rs => .ok (.o, .lst rs) else .bad
def eYes : Env → M Bool := fun _ => .ok true
def E0 : XK := fun _ _ _ => False
section
variable {k : Kx} {E : XK} {R : Hp} {dr : Dr} {env : Env} {σ : L2.St} {G G2 H H2 : Hp} {n n' : Nat} {te : TE} {f : Env → M Vl}
theorem st_yes : ST k E tYes eYes := fun R dr env σ G H n Q rl w => w G H (Le.refl _) rl
theorem Rl.wipe (r : Rl k R dr env σ G H n) : ∀ vs : List Nat, Rl k R dr (wipeE env vs) (wipe σ vs) G H n
  | [] => r
  | v :: vs => (Rl.wipe r vs).drop
theorem wipe_get (σ : L2.St) (j : Nat) : ∀ vs : List Nat, j ∉ vs → (wipe σ vs)[j]? = σ[j]?
  | [], _ => rfl
  | v :: vs, h => by
    simp only [List.mem_cons, not_or] at h
    unfold wipe
    rw [List.getElem?_set_ne (fun z => h.1 z.symm), wipe_get σ j vs h.2]
theorem wipeE_get (σ : Env) (j : Nat) : ∀ vs : List Nat, j ∉ vs → (wipeE σ vs)[j]? = σ[j]?
  | [], _ => rfl
  | v :: vs, h => by
    simp only [List.mem_cons, not_or] at h
    unfold wipeE
    rw [List.getElem?_set_ne (fun z => h.1 z.symm), wipeE_get σ j vs h.2]
theorem wipe_in (σ : L2.St) (j : Nat) (hj : j < σ.length) : ∀ vs : List Nat, j ∈ vs → (wipe σ vs)[j]? = some none
  | [], h => by cases h
  | v :: vs, h => by
    unfold wipe
    by_cases e : v = j
    · subst e
      rw [List.getElem?_set_self (by rw [wipe_length]; exact hj)]
    · rw [List.getElem?_set_ne e]
      exact wipe_in σ j hj vs (by simpa [Ne.symm e] using h)
theorem wipe_same {σ σ1 : L2.St} {vs : List Nat} (hl : σ1.length = σ.length) (h : ∀ j, j ∉ vs → σ1[j]? = σ[j]?) : wipe σ1 vs = wipe σ vs := by
  apply List.ext_getElem?
  intro j
  by_cases hj : j ∈ vs
  · by_cases hb : j < σ.length
    · rw [wipe_in σ j hb vs hj, wipe_in σ1 j (by omega) vs hj]
    · rw [List.getElem?_eq_none (by rw [wipe_length]; omega), List.getElem?_eq_none (by rw [wipe_length]; omega)]
  · rw [wipe_get σ j vs hj, wipe_get σ1 j vs hj, h j hj]
theorem Rl.rput {a : Addr} {o o' : HO} (r : Rl k (upd R a o) dr env σ G H n) (hn : R a = none) (hd : isFrz o = false) (nt : ∀ ps, o' ≠ .tbl ps) (nc : ∀ c q, o ≠ LamX.CodeO c q) : Rl k (upd R a o') dr env σ G (upd H a o') n := by
  obtain ⟨h1, h2, h3, h4⟩ := r.rs a o upd_same
  obtain ⟨_, _, hh, ap⟩ := r.unres hn hd
  have h2 := h2 hd
  refine ⟨r.i.mut h2, r.nt, fun p hp => ?_, fun q hq => (r.dd q hq).ext fun b hb u hu => ?_, r.dh, r.dj, fun b u e => ?_, r.sh, fun i d e => ?_, r.inj, r.len, r.nb, r.so.upd h3⟩
  · obtain ⟨ps, t1, t2, t3⟩ := r.tb p hp
    have n1 : p.1 ≠ a := fun z => by rw [z, h1] at t1; cases t1; exact h4 ps rfl
    refine ⟨ps, by rw [upd_ne n1]; exact t1, t2, fun pos cv hc => ?_⟩
    obtain ⟨c, a1, a2⟩ := t3 pos cv hc
    have n2 : c ≠ a := fun z => by rw [z, h1] at a2; cases a2; exact nc _ _ rfl
    exact ⟨c, a1, by rw [upd_ne n2]; exact a2⟩
  · rw [upd_ne (fun (z : b = a) => h3 ⟨q, hq, by rw [← z]; exact hb⟩)]; exact hu
  · by_cases hb : b = a
    · subst hb; rw [upd_same] at e; cases e; exact ⟨upd_same, fun _ => h2, h3, nt⟩
    · rw [upd_ne hb] at e
      obtain ⟨e1, e2, e3, e4⟩ := r.rs b u (by rw [upd_ne hb]; exact e)
      exact ⟨by rw [upd_ne hb]; exact e1, e2, e3, e4⟩
  · obtain ⟨b, e1, u, e2, e3, e4⟩ := r.ow i d e
    have nb : b ≠ a := fun z => ap i d e (by rw [← z]; exact e1)
    have : upd R a o' b = none := by rw [upd_ne nb]; have := e4.r; rw [upd_ne nb] at this; exact this
    exact ⟨b, e1, u, by rw [upd_ne nb]; exact e2, e3, e4.g, this, e4.d⟩
theorem noOwn_in {vs : List Nat} (h : noOwn env vs = true) {i : Nat} {d : D} (e : env[i]? = some (some (true, d))) : i ∉ vs := fun hi => by
  have := List.all_eq_true.mp h i hi
  simp only [e] at this
  cases this
theorem not_code {o : HO} (h : (∃ xs, o = .lst xs) ∨ ∃ kvs, o = .dK kvs) : ∀ c q, o ≠ LamX.CodeO c q := by
  rcases h with ⟨xs, rfl⟩ | ⟨kvs, rfl⟩ <;> intro c q z <;> (unfold LamX.CodeO at z; cases z)
theorem se_lc {ti : TI} {fi : Env → M (List D)} {vs : List Nat} {g : TG} {tg : D → Env → Option Env} {tt : TT} {ft : Env → M Bool} {te : TE} {fe : Env → M Vl} (hi : SI k E ti fi) (hg : TgS k vs g tg) (ht : ST k E0 tt ft) (he : SE k E0 te fe) : SE k E (tLc ti g tt te vs) (eLc fi tg ft fe vs) := fun R dr env σ G H n Q rl w => by
  refine hi R dr env σ G H n _ rl (wp_mono (wp_bind' w) (fun dr n1 ds w1 J Rx G1 H1 lx l1 r1 wk => ?_) fun _ _ _ h => h)
  by_cases hc : ds.length ≤ 100000 ∧ noOwn env vs = true
  · rw [if_pos hc] at w1
    have w2 := wp_nox.mp (wp_bind' w1)
    intro A hA
    obtain ⟨hidA, apA⟩ := r1.no hA
    have rA : Rl k (upd Rx A (.lst [])) dr env σ G1 (upd H1 A (.lst [])) n1 := (r1.new hA).res upd_same (by intro ps z; cases z) hidA apA
    refine ⟨fun i mm H' => mm = ds.length - i ∧ i ≤ ds.length ∧ ∃ G' dr n' acc rs, Rl k (upd Rx A (.lst acc)) dr env σ G' H' n' ∧ Le G1 G' ∧ RpA k G' acc rs ∧ rs.length ≤ i ∧
      wp dr n' (lcGo tg ft fe (wipeE env vs) (ds.drop i)) (fun dr n'' rs' => ∀ x G3 H3, Le G G3 → Rl k R dr env σ G3 H3 n'' → RV k R dr env σ G3 H3 x (.o, .lst (rs ++ rs')) → Q x H3) (fun _ _ _ => False),
      ⟨ds.length, by simp, Nat.zero_le _, G1, dr, n1, [], [], rA, Le.refl _, .nil, Nat.zero_le _, w2⟩, ?_⟩
    rintro i mm H' ⟨rfl, hi, G', dr, n', acc, rs, r', l', ra, hrs, w3⟩
    obtain ⟨stop, turn⟩ := wk G' H' l' r'.i fun a o e => ((r'.unres hidA.r rfl).1.rs a o e).1
    by_cases hlt : i < ds.length
    · obtain ⟨go, yl⟩ := turn i ds[i] (List.getElem?_eq_getElem hlt)
      refine .inr ⟨go, fun H' => i + 1 ≤ ds.length ∧ ∃ G' dr n' acc rs, Rl k (upd Rx A (.lst acc)) dr env σ G' H' n' ∧ Le G1 G' ∧ RpA k G' acc rs ∧ rs.length ≤ i + 1 ∧
        wp dr n' (lcGo tg ft fe (wipeE env vs) (ds.drop (i + 1))) (fun dr n'' rs' => ∀ x G3 H3, Le G G3 → Rl k R dr env σ G3 H3 n'' → RV k R dr env σ G3 H3 x (.o, .lst (rs ++ rs')) → Q x H3) (fun _ _ _ => False), fun H' h => ⟨ds.length - (i + 1), by omega, rfl, h⟩, fun x H4 y => ?_⟩
      obtain ⟨G4, u4, p4⟩ := yl x H4 y
      obtain ⟨r4, l4⟩ := r'.up u4
      rw [List.drop_eq_getElem_cons hlt, lcGo] at w3
      obtain ⟨env1, e1, w4⟩ := wp_of.mp (wp_bind' w3)
      have rw4 := r4.wipe vs
      refine hg _ dr _ _ _ H4 n' x ds[i] env1 _ rw4 p4.clean e1 fun σ1 r5 ag len1 => ?_
      have ag2 : ∀ (j : Nat) d, env[j]? = some (some (true, d)) → env1[j]? = some (some (true, d)) ∧ σ1[j]? = σ[j]? := fun j d hj => by
        have nj := noOwn_in hc.2 hj
        obtain ⟨a1, a2⟩ := ag j nj
        exact ⟨by rw [a2, wipeE_get env j vs nj]; exact hj, by rw [a1, wipe_get σ j vs nj]⟩
      have hw : wipe σ1 vs = wipe σ vs := wipe_same (by rw [len1, wipe_length]) fun j hj => by rw [(ag j hj).1, wipe_get σ j vs hj]
      refine ⟨hw, ?_⟩
      refine ht.run r5 (wp_bind' w4) (fun _ _ _ h => h.elim) fun dr n6 b G6 H6 w6 l6 r6 => ?_
      have l46 : Le G' G6 := l4.trans l6
      cases b with
      | false =>
        rw [if_neg (by simp)] at w6
        rw [if_neg (by simp)]
        exact ⟨hlt, G6, dr, n6, acc, rs, r4.back r6 l6 ag2, l'.trans l46, ra.mono l46, by omega, w6⟩
      | true =>
        rw [if_pos rfl] at w6
        rw [if_pos rfl]
        refine he.run r6 (wp_bind' w6) (fun _ _ _ h => h.elim) fun dr n7 v y G7 H7 w7 l7 r7 s7 => ?_
        cases hv : isV v with
        | true => rw [hv, if_pos rfl] at w7; exact w7.elim
        | false =>
          rw [hv, if_neg (by simp)] at w7
          have p7 := rs_s hv s7
          have l47 : Le G' G7 := l46.trans l7
          have r8 := r4.back r7 (l6.trans l7) ag2
          obtain ⟨hA7, _, _, _⟩ := r8.rs A _ upd_same
          have hl8 : acc.length ≤ 100000 := by rw [ra.len]; omega
          refine ⟨acc, hA7, Nat.lt_of_le_of_lt hl8 (by decide), hlt, G7, dr, n7, acc ++ [y], rs ++ [v.2], r8.rput hidA.r rfl (by intro ps z; cases z) (not_code (.inl ⟨_, rfl⟩)), l'.trans l47, (ra.mono l47).app (.cons p7 .nil), by simp; omega, ?_⟩
          refine wp_mono (wp_bind' w7) (fun dr n8 rs' q x G3 H3 l3 r3 rv => ?_) fun _ _ _ h => h
          exact q x G3 H3 l3 r3 (by simpa using rv)
    · have e : i = ds.length := by omega
      subst e
      rw [List.drop_length, lcGo] at w3
      refine .inl ⟨stop, ?_⟩
      obtain ⟨r9, hA9, hh, ap⟩ := r'.unres hidA.r rfl
      refine w3 _ G' H' (l1.trans l') (r9.sub lx) (RV.sub lx ⟨A, rfl, ⟨_, hA9, ?_, hh⟩, ap⟩)
      rw [List.append_nil]
      exact .lst ra
  · rw [if_neg hc] at w1; exact w1.elim
def putD (es : List (Ky × D)) (q : Ky) (d : D) : List (Ky × D) := if es.any (fun e => decide (e.1 = q)) then es.map (fun e => if e.1 = q then (e.1, d) else e) else es ++ [(q, d)]
def getD (es : List (Ky × D)) (q : Ky) : Option D := (es.find? fun e => decide (e.1 = q)).map (·.2)
theorem RpD.any {q : Ky} : ∀ {kvs : List (Key × V)} {es : List (Ky × D)}, RpD k G kvs es → kvs.any (fun e => decide (e.1 = kk q)) = es.any (fun e => decide (e.1 = q))
  | _, _, .nil => rfl
  | _, _, .cons (q := q') _ a => by
    simp only [List.any_cons]
    rw [RpD.any a]
    congr 1
    by_cases h : q' = q
    · subst h; simp
    · have : ¬ kk q' = kk q := fun z => h (kk_inj z)
      simp [h, this]
theorem RpD.mapP {q : Ky} {v : V} {d : D} (p : Rp k G v d) : ∀ {kvs : List (Key × V)} {es : List (Ky × D)}, RpD k G kvs es → RpD k G (kvs.map fun e => if e.1 = kk q then (e.1, v) else e) (es.map fun e => if e.1 = q then (e.1, d) else e)
  | _, _, .nil => .nil
  | _, _, .cons (q := q') h a => by
    simp only [List.map_cons]
    by_cases e : q' = q
    · subst e; rw [if_pos rfl, if_pos rfl]; exact .cons p (RpD.mapP p a)
    · rw [if_neg (fun z => e (kk_inj z)), if_neg e]; exact .cons h (RpD.mapP p a)
theorem RpD.snoc {q : Ky} {v : V} {d : D} (p : Rp k G v d) : ∀ {kvs : List (Key × V)} {es : List (Ky × D)}, RpD k G kvs es → RpD k G (kvs ++ [(kk q, v)]) (es ++ [(q, d)])
  | _, _, .nil => .cons p .nil
  | _, _, .cons h a => .cons h (RpD.snoc p a)
theorem RpD.put {q : Ky} {v : V} {d : D} {kvs : List (Key × V)} {es : List (Ky × D)} (r : RpD k G kvs es) (p : Rp k G v d) : RpD k G (putK kvs (kk q) v) (putD es q d) := by
  rw [putK_putE]
  unfold putE putD
  rw [r.any]
  split
  · exact r.mapP p
  · exact r.snoc p
theorem RpD.val {q : Ky} : ∀ {kvs : List (Key × V)} {es : List (Ky × D)}, RpD k G kvs es → (valV kvs (kk q) = none ∧ getD es q = none) ∨ ∃ v d, valV kvs (kk q) = some v ∧ getD es q = some d ∧ Rp k G v d
  | _, _, .nil => .inl ⟨rfl, rfl⟩
  | (_, v) :: kvs, (q', d) :: es, .cons h a => by
    by_cases e : q' = q
    · subst e
      exact .inr ⟨v, d, by simp [valV], by simp [getD], h⟩
    · have e2 : ¬ kk q' = kk q := fun z => e (kk_inj z)
      rcases RpD.val (q := q) a with ⟨h1, h2⟩ | ⟨v', d', h1, h2, h3⟩
      · exact .inl ⟨by simpa [valV, e2] using h1, by simpa [getD, e] using h2⟩
      · exact .inr ⟨v', d', by simpa [valV, e2] using h1, by simpa [getD, e] using h2, h3⟩
def keyD : D → Option Ky
  | .int i => some (.inl i)
  | .str w => some (.inr w)
  | _ => none
theorem key_kV {v : V} {d : D} {q : Ky} (e : keyD d = some q) (h : Rp k G v d) : v = kV (kk q) := by
  cases d <;> simp only [keyD, Option.some.injEq] at e <;> first
    | (cases e; done)
    | skip
  · subst e; exact rp_int h
  · subst e; exact rp_str h
def dcGo (tg : D → Env → Option Env) (ft : Env → M Bool) (fk fe : Env → M Vl) (env : Env) : List (Ky × D) → List D → M (List (Ky × D))
  | es, [] => .ok es
  | es, d :: ds => (M.of (tg d env)).bind fun env1 => (ft env1).bind fun b => if b then (fk env1).bind fun kr => (M.of (keyD kr.2)).bind fun q => (fe env1).bind fun r => if isV r || isV kr then .bad else dcGo tg ft fk fe env (putD es q r.2) ds else dcGo tg ft fk fe env es ds
def eDc (fi : Env → M (List D)) (tg : D → Env → Option Env) (ft : Env → M Bool) (fk fe : Env → M Vl) (vs : List Nat) : Env → M Vl := fun env => (fi env).bind fun ds => if ds.length ≤ 100000 ∧ noOwn env vs = true then ((dcGo tg ft fk fe (wipeE env vs) [] ds).nox).bind fun rs => .ok (.o, .dic rs) else .bad
end
end Y

namespace Y
open PySem PySem.Spec PyProof.Rows L2 Z
inductive Out where
  | nx (env : Env) | rt (v : Vl) | bk (env : Env) | ct (env : Env)
def OP (k : Kx) (R : Hp) (G : Hp) (D : Ends) : Dr → Nat → Out → Prop
  | dr, n, .nx e => ∀ σ2 G2 H2, Le G G2 → Rl k R dr e σ2 G2 H2 n → D.nx σ2 H2
  | dr, n, .bk e => ∀ σ2 G2 H2, Le G G2 → Rl k R dr e σ2 G2 H2 n → D.bk σ2 H2
  | dr, n, .ct e => ∀ σ2 G2 H2, Le G G2 → Rl k R dr e σ2 G2 H2 n → D.ct σ2 H2
  | dr, n, .rt v => ∀ x G2 H2, Le G G2 → Rl k R dr [] [] G2 H2 n → RV k R dr [] [] G2 H2 x v → D.rt x H2
def SS (k : Kx) (E : XK) (t : TS) (f : Env → M Out) : Prop := ∀ R dr env σ G H n (D : Ends), Rl k R dr env σ G H n → wp dr n (f env) (OP k R G D) (XP k R G E) → t D σ H
theorem OP.mono {k : Kx} {R G G2 : Hp} {D : Ends} {dr : Dr} {n : Nat} {o : Out} (l : Le G G2) (h : OP k R G D dr n o) : OP k R G2 D dr n o := by
  cases o with
  | nx e => exact fun σ2 G3 H3 l3 r => h σ2 G3 H3 (l.trans l3) r
  | bk e => exact fun σ2 G3 H3 l3 r => h σ2 G3 H3 (l.trans l3) r
  | ct e => exact fun σ2 G3 H3 l3 r => h σ2 G3 H3 (l.trans l3) r
  | rt v => exact fun x G3 H3 l3 r q => h x G3 H3 (l.trans l3) r q
def bNext : Env → M Out := fun env => .ok (.nx env)
def bSeq (f g : Env → M Out) : Env → M Out := fun env => (f env).bind fun o => match o with
  | .nx e => g e
  | o => .ok o
def bRet (fe : Env → M Vl) : Env → M Out := fun env => (fe env).bind fun r => .ok (.rt (match r.1 with | .v _ => (.o, r.2) | _ => r))
def bSet (i : Nat) (fe : Env → M Vl) : Env → M Out := fun env => (fe env).bind fun r => match r.1 with
  | .s => .ok (.nx (env.set i (some (false, r.2))))
  | .o => .ok (.nx (env.set i (some (true, r.2))))
  | .v _ => .bad
def bAsg (tg : D → Env → Option Env) (fe : Env → M Vl) : Env → M Out := fun env => (fe env).bind fun r => if isV r then .bad else (M.of (tg r.2 env)).bind fun e => .ok (.nx e)
def bDrop (fe : Env → M Vl) : Env → M Out := fun env => (fe env).bind fun _ => .ok (.nx env)
def bIf (ft : Env → M Bool) (f g : Env → M Out) : Env → M Out := fun env => (ft env).bind fun b => if b then f env else g env
def bRaise (C : Str) : Env → M Out := fun _ => .raise ⟨C, []⟩
def forGo (tg : D → Env → Option Env) (fb : Env → M Out) : List D → Env → M Out
  | [], env => .ok (.nx env)
  | d :: ds, env => (M.of (tg d env)).bind fun e1 => (fb e1).bind fun o => match o with
    | .nx e => forGo tg fb ds e
    | .ct e => forGo tg fb ds e
    | .bk e => .ok (.nx e)
    | .rt v => .ok (.rt v)
def bFor (fi : Env → M (List D)) (tg : D → Env → Option Env) (fb : Env → M Out) : Env → M Out := fun env => (fi env).bind fun ds => forGo tg fb ds env
def whileGo (ft : Env → M Bool) (fb : Env → M Out) : Nat → Env → M Out
  | 0, _ => .bad
  | f + 1, env => (ft env).bind fun b => if b then (fb env).bind fun o => match o with
    | .nx e => whileGo ft fb f e
    | .ct e => whileGo ft fb f e
    | .bk e => .ok (.nx e)
    | .rt v => .ok (.rt v)
    else .ok (.nx env)
def bWhile (fuel : Nat) (ft : Env → M Bool) (fb : Env → M Out) : Env → M Out := fun env => whileGo ft fb fuel env
def frzE (env : Env) : List Nat → Env
  | [] => env
  | i :: is => match env[i]? with
    | some (some (true, d)) => frzE (env.set i (some (false, d))) is
    | _ => frzE env is
def bFrz (is : List Nat) (f : Env → M Out) : Env → M Out := fun env => f (frzE env is)
section
variable {k : Kx} {E : XK} {R : Hp} {dr : Dr} {env : Env} {σ : L2.St} {G G2 H H2 : Hp} {n n' : Nat} {te : TE} {fe : Env → M Vl} {t u tb : TS} {f g fb : Env → M Out} {tt : TT} {ft : Env → M Bool}
theorem ss_next : SS k E tNext bNext := fun R dr env σ G H n D r w => w σ G H (Le.refl _) r
theorem ss_seq (h1 : SS k E t f) (h2 : SS k E u g) : SS k E (tSeq t u) (bSeq f g) := fun R dr env σ G H n D r w => by
  refine h1 R dr env σ G H n _ r (wp_mono (wp_bind' w) (fun dr n o q => ?_) fun _ _ _ h => h)
  cases o with
  | nx e => exact fun σ2 G2 H2 l r2 => h2 R dr e σ2 G2 H2 n D r2 (wp_mono q (fun _ _ _ z => z.mono l) fun _ _ _ z => z.mono l)
  | bk e => exact q
  | ct e => exact q
  | rt v => exact q
theorem ss_ret (he : SE k E te fe) : SS k E (tRet te) (bRet fe) := fun R dr env σ G H n D r w => by
  refine he R dr env σ G H n _ r (wp_mono (wp_bind' w) (fun dr n v q x G2 H2 l r2 rv => ?_) fun _ _ _ h => h)
  obtain ⟨m, d⟩ := v
  cases m with
  | s => exact q x G2 H2 l r2.bare rv
  | o =>
    obtain ⟨a, e, h1, _⟩ := rv
    exact q x G2 H2 l r2.bare ⟨a, e, h1, fun i d h => by simp at h⟩
  | v i =>
    obtain ⟨h1, h2⟩ := rv
    obtain ⟨a, f1, f2⟩ := r2.ow i d h2
    rw [h1] at f1; cases f1
    exact q _ G2 H2 l r2.bare ⟨a, rfl, f2, fun i d h => by simp at h⟩
theorem ss_set {i : Nat} (he : SE k E te fe) : SS k E (tAsg te (gName i)) (bSet i fe) := fun R dr env σ G H n D r w => by
  refine he R dr env σ G H n _ r (wp_mono (wp_bind' w) (fun dr n v q x G2 H2 l r2 rv => ?_) fun _ _ _ h => h)
  obtain ⟨m, d⟩ := v
  cases m with
  | s => exact q _ G2 H2 l (r2.set rv)
  | o =>
    obtain ⟨a, rfl, h1, h2⟩ := rv
    exact q _ G2 H2 l (r2.setO h1 h2)
  | v i => exact q.elim
theorem ss_drop (he : SE k E te fe) : SS k E (tDrop te) (bDrop fe) := fun R dr env σ G H n D r w => by
  exact he R dr env σ G H n _ r (wp_mono (wp_bind' w) (fun dr n v q x G2 H2 l r2 rv => q σ G2 H2 l r2) fun _ _ _ h => h)
theorem ss_if (ht : ST k E tt ft) (h1 : SS k E t f) (h2 : SS k E u g) : SS k E (tIfS tt t u) (bIf ft f g) := fun R dr env σ G H n D r w => by
  refine ht.run r (wp_bind' w) (fun _ _ _ h => h) fun dr n1 b G1 H1 w1 l1 r1 => ?_
  cases b with
  | true => exact h1 R dr env σ G1 H1 n1 D r1 (wp_mono w1 (fun _ _ _ z => z.mono l1) fun _ _ _ z => z.mono l1)
  | false => exact h2 R dr env σ G1 H1 n1 D r1 (wp_mono w1 (fun _ _ _ z => z.mono l1) fun _ _ _ z => z.mono l1)
theorem ss_raise {C : Str} : SS k E (tRaise (fun cls d _ H => E cls d H) (fun _ H Q => Q (.ref (k.ca C)) none H)) (bRaise C) := fun R dr env σ G H n D r w => w none G H (Le.refl _) r.bare rfl
theorem frz_ok : ∀ (is : List Nat) {env : Env} {G : Hp}, Rl k R dr env σ G H n → ∃ G2, Le G G2 ∧ Rl k R dr (frzE env is) σ G2 H n
  | [], env, G, r => ⟨G, Le.refl _, r⟩
  | i :: is, env, G, r => by
    unfold frzE
    split
    · rename_i d h
      obtain ⟨G2, l2, r2⟩ := r.freeze h
      obtain ⟨G3, l3, r3⟩ := frz_ok is r2
      exact ⟨G3, l2.trans l3, r3⟩
    · exact frz_ok is r
theorem ss_frz {is : List Nat} (h : SS k E t f) : SS k E t (bFrz is f) := fun R dr env σ G H n D r w => by
  obtain ⟨G2, l2, r2⟩ := frz_ok is r
  exact h R dr _ σ G2 H n D r2 (wp_mono w (fun _ _ _ z => z.mono l2) fun _ _ _ z => z.mono l2)
theorem ss_for {ti : TI} {fi : Env → M (List D)} {vs : List Nat} {gg : TG} {tg : D → Env → Option Env} (hi : SI k E ti fi) (hg : TgS k vs gg tg) (hb : SS k E tb fb) : SS k E (tFor ti gg tb) (bFor fi tg fb) := fun R dr env σ G H n D rl w => by
  refine hi R dr env σ G H n _ rl (wp_mono (wp_bind' w) (fun dr n1 ds w1 J Rx G1 H1 lx l1 r1 wk => ?_) fun _ _ _ h => h)
  refine ⟨fun i mm σ' H' => mm = ds.length - i ∧ i ≤ ds.length ∧ ∃ G' dr' n' env', Rl k Rx dr' env' σ' G' H' n' ∧ Le G1 G' ∧ wp dr' n' (forGo tg fb (ds.drop i) env') (OP k R G D) (XP k R G E), ⟨ds.length, by simp, Nat.zero_le _, G1, dr, n1, env, r1, Le.refl _, w1⟩, ?_⟩
  rintro i mm σ' H' ⟨rfl, hi, G', dr', n', env', r', l', w2⟩
  obtain ⟨stop, turn⟩ := wk G' H' l' r'.i fun a o e => (r'.rs a o e).1
  by_cases hlt : i < ds.length
  · obtain ⟨go, yl⟩ := turn i ds[i] (List.getElem?_eq_getElem hlt)
    refine .inr ⟨go, fun σ' H' => i + 1 ≤ ds.length ∧ ∃ G' dr' n' env', Rl k Rx dr' env' σ' G' H' n' ∧ Le G1 G' ∧ wp dr' n' (forGo tg fb (ds.drop (i + 1)) env') (OP k R G D) (XP k R G E), fun σ' H' h => ⟨ds.length - (i + 1), by omega, rfl, h⟩, fun x H4 y => ?_⟩
    obtain ⟨G4, u4, p4⟩ := yl x H4 y
    obtain ⟨r4, l4⟩ := r'.up u4
    rw [List.drop_eq_getElem_cons hlt, forGo] at w2
    obtain ⟨e1, h1, w3⟩ := wp_of.mp (wp_bind' w2)
    refine hg Rx dr' env' σ' (clean G4) H4 n' x ds[i] e1 _ r4 p4.clean h1 fun σ1 r5 _ _ => ?_
    have lg : Le G (clean G4) := l1.trans (l'.trans l4)
    refine hb Rx dr' e1 σ1 (clean G4) H4 n' _ r5 (wp_mono (wp_bind' w3) (fun dr n o q => ?_) fun _ _ _ z => XP.sub lx (z.mono lg))
    cases o with
    | nx e => exact fun σ2 G5 H5 l5 r6 => ⟨hlt, G5, dr, n, e, r6, (l'.trans l4).trans l5, q⟩
    | ct e => exact fun σ2 G5 H5 l5 r6 => ⟨hlt, G5, dr, n, e, r6, (l'.trans l4).trans l5, q⟩
    | bk e => exact fun σ2 G5 H5 l5 r6 => q σ2 G5 H5 (lg.trans l5) (r6.sub lx)
    | rt v => exact fun x G5 H5 l5 r6 rv => q x G5 H5 (lg.trans l5) (r6.sub lx) (RV.sub lx rv)
  · have e : i = ds.length := by omega
    subst e
    rw [List.drop_length, forGo] at w2
    exact .inl ⟨stop, w2 σ' G' H' (l1.trans l') (r'.sub lx)⟩
theorem ss_while {fuel : Nat} (ht : ST k E tt ft) (hb : SS k E tb fb) : SS k E (tWhile tt tb) (bWhile fuel ft fb) := fun R dr env σ G H n D rl w => by
  refine ⟨fun mm σ' H' => ∃ G' dr' n' env', Rl k R dr' env' σ' G' H' n' ∧ Le G G' ∧ wp dr' n' (whileGo ft fb mm env') (OP k R G D) (XP k R G E), ⟨fuel, G, dr, n, env, rl, Le.refl _, w⟩, ?_⟩
  rintro mm σ' H' ⟨G', dr', n', env', r', l', w2⟩
  cases mm with
  | zero => exact (by exact w2 : False).elim
  | succ f =>
    rw [whileGo] at w2
    refine ht.run r' (wp_bind' w2) (fun _ _ _ h => h.mono l') fun dr n1 b G1 H1 w3 l1 r1 => ?_
    have lg := l'.trans l1
    cases b with
    | false =>
      rw [if_neg (by simp)] at w3 ⊢
      exact w3 σ' G1 H1 lg r1
    | true =>
      rw [if_pos rfl] at w3 ⊢
      refine ⟨fun σ' H' => ∃ G' dr' n' env', Rl k R dr' env' σ' G' H' n' ∧ Le G G' ∧ wp dr' n' (whileGo ft fb f env') (OP k R G D) (XP k R G E), fun σ' H' h => ⟨f, Nat.lt_succ_self _, h⟩, ?_⟩
      refine hb R dr env' σ' G1 H1 n1 _ r1 (wp_mono (wp_bind' w3) (fun dr n o q => ?_) fun _ _ _ z => z.mono lg)
      cases o with
      | nx e => exact fun σ2 G5 H5 l5 r6 => ⟨G5, dr, n, e, r6, lg.trans l5, q⟩
      | ct e => exact fun σ2 G5 H5 l5 r6 => ⟨G5, dr, n, e, r6, lg.trans l5, q⟩
      | bk e => exact fun σ2 G5 H5 l5 r6 => q σ2 G5 H5 (lg.trans l5) r6
      | rt v => exact fun x G5 H5 l5 r6 rv => q x G5 H5 (lg.trans l5) r6 rv
def RVs (k : Kx) (R : Hp) (dr : Dr) (env : Env) (σ : L2.St) (G H : Hp) : List V → List Vl → Prop
  | [], [] => True
  | x :: xs, r :: rs => RV k R dr env σ G H x r ∧ (∀ a, r.1 = .o → x = .ref a → ∃ o, H a = some o ∧ RVs k (upd R a o) dr env σ G H xs rs) ∧ (r.1 ≠ .o → RVs k R dr env σ G H xs rs)
  | _, _ => False
def SAo (k : Kx) (E : XK) (t : TA) (f : Env → M (List Vl)) : Prop := ∀ R dr env σ G H n Q, Rl k R dr env σ G H n →
  wp dr n (f env) (fun dr n' r => ∀ xs G2 H2, Le G G2 → Rl k R dr env σ G2 H2 n' → RVs k R dr env σ G2 H2 xs r → Q xs H2) (XP k R G E) → t σ H Q
theorem sao_nil : SAo k E tNil eNil := fun R dr env σ G H n Q r w => w [] G H (Le.refl _) r trivial
theorem sao_cons {ta : TE} {fa : Env → M Vl} {tr : TA} {fr : Env → M (List Vl)} (ha : SE k E ta fa) (hr : SAo k E tr fr) : SAo k E (tCons ta tr) (eCons fa fr) := fun R dr env σ G H n Q rl w => by
  refine ha R dr env σ G H n _ rl (wp_mono (wp_bind' w) (fun dr n1 v w1 x G1 H1 l1 r1 rv => ?_) fun _ _ _ h => h)
  obtain ⟨m, d⟩ := v
  cases m with
  | o =>
    obtain ⟨a, rfl, ⟨o, h1, h2, h3⟩, h4⟩ := rv
    refine hr (upd R a o) dr env σ G1 H1 n1 _ (r1.res h1 h2.nt h3 h4) (wp_mono (wp_bind' w1) (fun dr n2 vs q xs G2 H2 l2 r2 rs => ?_) fun dr n2 x z dd G2 H2 l2 r2 hd => z dd G2 H2 (l1.trans l2) (r2.unres h3.r h2.nf).1 hd)
    obtain ⟨r3, g1, g2, g3⟩ := r2.unres h3.r h2.nf
    exact q _ G2 H2 (l1.trans l2) r3 ⟨⟨a, rfl, ⟨o, g1, h2.mono l2, g2⟩, g3⟩, fun b _ e => by cases e; exact ⟨o, g1, rs⟩, fun z => absurd rfl z⟩
  | s =>
    refine hr R dr env σ G1 H1 n1 _ r1 (wp_mono (wp_bind' w1) (fun dr n2 vs q xs G2 H2 l2 r2 rs => ?_) fun _ _ _ z => z.mono l1)
    exact q _ G2 H2 (l1.trans l2) r2 ⟨Rp.mono l2 rv, fun _ z => (by cases z), fun _ => rs⟩
  | v i =>
    refine hr R dr env σ G1 H1 n1 _ r1 (wp_mono (wp_bind' w1) (fun dr n2 vs q xs G2 H2 l2 r2 rs => ?_) fun _ _ _ z => z.mono l1)
    exact q _ G2 H2 (l1.trans l2) r2 ⟨rv, fun _ z => (by cases z), fun _ => rs⟩
def setsE (env : Env) : List Nat → List Vl → Option Env
  | [], [] => some env
  | i :: is, (.s, d) :: rs => setsE (env.set i (some (false, d))) is rs
  | i :: is, (.o, d) :: rs => setsE (env.set i (some (true, d))) is rs
  | _, _ => none
def bSets (is : List Nat) (fa : Env → M (List Vl)) : Env → M Out := fun env => (fa env).bind fun rs => (M.of (setsE env is rs)).bind fun e => .ok (.nx e)
def setsV (σ : L2.St) : List Nat → List V → L2.St
  | i :: is, x :: xs => setsV (σ.set i (some x)) is xs
  | _, _ => σ
theorem sets_ok : ∀ (is : List Nat) (xs : List V) (rs : List Vl) {R : Hp} {env env1 : Env} {σ : L2.St}, Rl k R dr env σ G H n → setsE env is rs = some env1 → (∃ (R1 : Hp) (env0 : Env) (σ0 : L2.St), RVs k R1 dr env0 σ0 G H xs rs ∧ (∀ a, R1 a = none → Apart env0 σ0 a → R a = none ∧ Apart env σ a)) → xs.length = rs.length ∧ Rl k R dr env1 (setsV σ is xs) G H n
  | [], xs, rs, R, env, env1, σ, r, e, ⟨R1, env0, σ0, h, _⟩ => by
    cases rs with
    | nil =>
      cases e
      cases xs with
      | nil => exact ⟨rfl, r⟩
      | cons _ _ => exact h.elim
    | cons _ _ => cases e
  | i :: is, xs, rs, R, env, env1, σ, r, e, ⟨R1, env0, σ0, h, hap⟩ => by
    cases rs with
    | nil => cases e
    | cons v rs =>
      cases xs with
      | nil => exact h.elim
      | cons x xs =>
        obtain ⟨m, d⟩ := v
        obtain ⟨h1, h2, h3⟩ := h
        cases m with
        | v j => cases e
        | s =>
          obtain ⟨e1, e2⟩ := sets_ok is xs rs (r.set (i := i) h1) e ⟨R1, env0, σ0, h3 (by intro z; cases z), fun a f1 f2 => ⟨(hap a f1 f2).1, fun j d' g1 g2 => by
            rcases set_get g1 with ⟨z1, z2, z3⟩ | ⟨z1, z2⟩
            · cases z2
            · rw [List.getElem?_set_ne z1] at g2
              exact (hap a f1 f2).2 j d' z2 g2⟩⟩
          exact ⟨by simp [e1], e2⟩
        | o =>
          obtain ⟨a, rfl, ⟨o, g1, g2, g3⟩, g4⟩ := h1
          obtain ⟨z1, z2⟩ := hap a g3.r g4
          obtain ⟨o', f1, f2⟩ := h2 a rfl rfl
          obtain ⟨e1, e2⟩ := sets_ok is xs rs (r.setO (i := i) ⟨o, g1, g2, g3.g, z1, g3.d⟩ z2) e ⟨upd R1 a o', env0, σ0, f2, fun b y1 y2 => by
            have nb : b ≠ a := fun z => by rw [z, upd_same] at y1; cases y1
            rw [upd_ne nb] at y1
            obtain ⟨w1, w2⟩ := hap b y1 y2
            refine ⟨w1, fun j d' p1 p2 => ?_⟩
            rcases set_get p1 with ⟨k1, k2, k3⟩ | ⟨k1, k2⟩
            · subst k1
              rw [List.getElem?_set_self (Nat.lt_of_lt_of_le k3 r.len)] at p2
              cases p2; exact nb rfl
            · rw [List.getElem?_set_ne k1] at p2
              exact w2 j d' k2 p2⟩
          exact ⟨by simp [e1], e2⟩
theorem sets_run {is : List Nat} {ta : TA} {fa : Env → M (List Vl)} {D : Ends} {Q : List V → Hp → Prop} (ha : SAo k E ta fa) (rl : Rl k R dr env σ G H n) (w : wp dr n (bSets is fa env) (OP k R G D) (XP k R G E)) (hq : ∀ vs H1, vs.length = is.length → D.nx (setsV σ is vs) H1 → Q vs H1) : ta σ H Q := by
  refine ha R dr env σ G H n _ rl (wp_mono (wp_bind' w) (fun dr n1 vs w1 xs G1 H1 l1 r1 rs => ?_) fun _ _ _ h => h)
  obtain ⟨e, h1, w2⟩ := wp_of.mp (wp_bind' w1)
  obtain ⟨h2, r2⟩ := sets_ok is xs vs r1 h1 ⟨R, env, σ, rs, fun a f1 f2 => ⟨f1, f2⟩⟩
  have hl : ∀ (is : List Nat) (rs : List Vl) (env : Env), setsE env is rs = some e → rs.length = is.length := by
    intro is
    induction is with
    | nil => intro rs env h; cases rs with | nil => rfl | cons _ _ => cases h
    | cons i is ih =>
      intro rs env h
      cases rs with
      | nil => cases h
      | cons v rs =>
        obtain ⟨m, d⟩ := v
        cases m with
        | s => simp [ih rs _ h]
        | o => simp [ih rs _ h]
        | v j => cases h
  exact hq _ _ (h2.trans (hl _ _ _ h1)) (w2 _ G1 H1 l1 r2)
end
end Y

namespace Y
open PySem PySem.Spec PyProof.Rows L2 Z
section
variable {k : Kx} {E : XK} {R : Hp} {dr : Dr} {env : Env} {σ : L2.St} {G G2 H H2 : Hp} {n n' : Nat} {te ta tb td tk tx : TE} {fe fa fb fd fk fx : Env → M Vl}
theorem ss_par {i j : Nat} {ta : TA} {fa : Env → M (List Vl)} (ha : SAo k E ta fa) : SS k E (tPar i j ta) (bSets [i, j] fa) := fun R dr env σ G H n D rl w =>
  sets_run ha rl w fun vs H1 hl q => match vs, hl, q with
    | [v, w], _, q => ⟨v, w, rfl, q⟩
theorem lst_view (r : Rl k R dr env σ G H n) {x : V} {v : Vl} {ds : List D} (e : v.2 = .lst ds) (h : RS k env σ G x v) : ∃ a vs, x = .ref a ∧ SqL k.K H a vs ∧ RpA k G vs ds := by
  obtain ⟨m, d⟩ := v
  have e : d = .lst ds := e
  subst e
  have key : Rp k G x (.lst ds) → ∃ a vs, x = .ref a ∧ SqL k.K H a vs ∧ RpA k G vs ds := fun p => by
    obtain ⟨a, vs, rfl, h1, h2⟩ := rp_lst p
    exact ⟨a, vs, rfl, .inl (.inl (r.i.ex h1 rfl)), h2⟩
  cases m with
  | s => exact key h
  | o => exact key h
  | v i =>
    obtain ⟨h1, h2⟩ := h
    obtain ⟨a, f1, o, f2, f3, _⟩ := r.ow i _ h2
    rw [h1] at f1; cases f1
    cases f3 with | lst f3 => exact ⟨a, _, rfl, .inl (.inl f2), f3⟩
theorem dic_view (r : Rl k R dr env σ G H n) {x : V} {v : Vl} {ds : List (Ky × D)} (e : v.2 = .dic ds) (h : RS k env σ G x v) : ∃ a vs, x = .ref a ∧ Rd H a (.dK vs) ∧ RpD k G vs ds := by
  obtain ⟨m, d⟩ := v
  have e : d = .dic ds := e
  subst e
  have key : Rp k G x (.dic ds) → ∃ a vs, x = .ref a ∧ Rd H a (.dK vs) ∧ RpD k G vs ds := fun p => by
    obtain ⟨a, vs, rfl, h1, h2⟩ := rp_dic p
    exact ⟨a, vs, rfl, r.i.rd h1, h2⟩
  cases m with
  | s => exact key h
  | o => exact key h
  | v i =>
    obtain ⟨h1, h2⟩ := h
    obtain ⟨a, f1, o, f2, f3, _⟩ := r.ow i _ h2
    rw [h1] at f1; cases f1
    cases f3 with | dic f3 => exact ⟨a, _, rfl, .inl f2, f3⟩
theorem rs_key (r : Rl k R dr env σ G H n) {x : V} {v : Vl} {q : Ky} (e : keyD v.2 = some q) (h : RS k env σ G x v) : x = kV (kk q) := by
  obtain ⟨m, d⟩ := v
  cases m with
  | s => exact key_kV e h
  | o => exact key_kV e h
  | v i =>
    obtain ⟨h1, h2⟩ := h
    obtain ⟨a, f1, o, f2, f3, _⟩ := r.ow i _ h2
    cases f3 <;> cases e
def isDic : D → Option (List (Ky × D))
  | .dic es => some es
  | _ => none
def eDGet2 (fd fk fx : Env → M Vl) : Env → M Vl := fun env => (fd env).bind fun x => (M.of (isDic x.2)).bind fun es => (fk env).bind fun y => (fx env).bind fun z => (M.of (keyD y.2)).bind fun q => if isV z then .bad else .ok (.s, (getD es q).getD z.2)
theorem RpD.isSome {q : Ky} {kvs : List (Key × V)} {es : List (Ky × D)} (r : RpD k G kvs es) : (valV kvs (kk q)).isSome = (getD es q).isSome := by
  rcases r.val (q := q) with ⟨z1, z2⟩ | ⟨v', d', z1, z2, z3⟩ <;> rw [z1, z2] <;> rfl
def ixD : D → D → Option D
  | .lst ds, .int i => atI ds i
  | .tup ds, .int i => atI ds i
  | .str w, .int i => if w.length ≤ 10000000 then (atI w i).map fun c => .str [c] else none
  | _, _ => none
theorem RpA.at {vs : List V} {ds : List D} {i : Int} {d : D} (r : RpA k G vs ds) (h : atI ds i = some d) : ∃ v, atI vs i = some v ∧ Rp k G v d := by
  unfold atI at h ⊢
  rw [r.len]
  cases e : ixN ds.length i with
  | none => rw [e] at h; cases h
  | some j =>
    rw [e] at h
    exact r.get h
theorem rs_int (r : Rl k R dr env σ G H n) {x : V} {v : Vl} {i : Int} (e : v.2 = .int i) (h : RS k env σ G x v) : x = .int i := by
  obtain ⟨m, d⟩ := v
  have e : d = .int i := e
  subst e
  cases m with
  | s => exact rp_int h
  | o => exact rp_int h
  | v i =>
    obtain ⟨h1, h2⟩ := h
    obtain ⟨a, f1, o, f2, f3, f4⟩ := r.ow i _ h2
    cases f3
def ownL (env : Env) (i : Nat) : Option (List D) := match env[i]? with
  | some (some (true, .lst ds)) => some ds
  | _ => none
def ownD (env : Env) (i : Nat) : Option (List (Ky × D)) := match env[i]? with
  | some (some (true, .dic ds)) => some ds
  | _ => none
theorem ownL_some {i : Nat} {ds : List D} (h : ownL env i = some ds) : env[i]? = some (some (true, .lst ds)) := by
  unfold ownL at h
  split at h
  · rename_i e; cases h; exact e
  · cases h
theorem ownD_some {i : Nat} {ds : List (Ky × D)} (h : ownD env i = some ds) : env[i]? = some (some (true, .dic ds)) := by
  unfold ownD at h
  split at h
  · rename_i e; cases h; exact e
  · cases h
theorem own_lst (r : Rl k R dr env σ G H n) {i : Nat} {ds : List D} (h : env[i]? = some (some (true, .lst ds))) : ∃ a vs, σ[i]? = some (some (.ref a)) ∧ H a = some (.lst vs) ∧ RpA k G vs ds := by
  obtain ⟨a, f1, o, f2, f3, _⟩ := r.ow i _ h
  cases f3 with | lst f3 => exact ⟨a, _, f1, f2, f3⟩
theorem own_dic (r : Rl k R dr env σ G H n) {i : Nat} {ds : List (Ky × D)} (h : env[i]? = some (some (true, .dic ds))) : ∃ a vs, σ[i]? = some (some (.ref a)) ∧ H a = some (.dK vs) ∧ RpD k G vs ds := by
  obtain ⟨a, f1, o, f2, f3, _⟩ := r.ow i _ h
  cases f3 with | dic f3 => exact ⟨a, _, f1, f2, f3⟩
def bApp (i : Nat) (fe : Env → M Vl) : Env → M Out := fun env => (M.of (ownL env i)).bind fun ds => (fe env).bind fun r => if isV r || decide (1000000 ≤ ds.length) then .bad else .ok (.nx (env.set i (some (true, .lst (ds ++ [r.2])))))
def bDPut (i : Nat) (fk fe : Env → M Vl) : Env → M Out := fun env => (fe env).bind fun r => (M.of (ownD env i)).bind fun es => (fk env).bind fun kr => (M.of (keyD kr.2)).bind fun q => if isV r || decide (1000000 ≤ es.length) then .bad else .ok (.nx (env.set i (some (true, .dic (putD es q r.2)))))
theorem ss_dput {i : Nat} (hk : SE k E tk fk) (he : SE k E te fe) : SS k E (sDPut (tVar i) tk te) (bDPut i fk fe) := fun R dr env σ G H n D rl w => by
  refine he.run rl (wp_bind' w) (fun _ _ _ h => h) fun dr n1 v y G1 H1 w1 l1 r1 s1 => ?_
  obtain ⟨es, h0, w1⟩ := wp_of.mp (wp_bind' w1)
  have h0 := ownD_some h0
  obtain ⟨a, vs, f1, f2, f3⟩ := own_dic r1 h0
  refine ⟨.ref a, f1, ?_⟩
  refine hk.run r1 (wp_bind' w1) (fun _ _ _ h => h.mono l1) fun dr n2 v2 z G2 H2 w2 l2 r2 s2 => ?_
  obtain ⟨q, hq, w2⟩ := wp_of.mp (wp_bind' w2)
  cases hv : (isV v || decide (1000000 ≤ es.length)) with
  | true => rw [hv, if_pos rfl] at w2; exact w2.elim
  | false =>
    rw [hv, if_neg (by simp)] at w2
    simp only [Bool.or_eq_false_iff, decide_eq_false_iff_not] at hv
    obtain ⟨a', vs', g1, g2, g3⟩ := own_dic r2 h0
    rw [f1] at g1; cases g1
    have hl : vs'.length < sizeLine := by rw [g3.len]; exact Nat.lt_of_lt_of_le (Nat.lt_of_not_le hv.2) (by decide)
    exact ⟨a, _, rfl, .inl ⟨vs', kk q, g2, rs_key r2 hq s2, hl, rfl⟩, w2 σ G2 _ (l1.trans l2) (r2.chg h0 f1 (.dic (g3.put (rs_s hv.1 (s1.mono l2)))))⟩
def bodyM (ar N : Nat) (b : Env → M Out) : List D → M Vl := fun ds => if ds.length = ar then (b (ds.map (fun d => some (false, d)) ++ List.replicate (N - ar) none)).bind fun o => match o with
  | .nx _ => .ok (.s, .non)
  | .rt v => .ok v
  | _ => .bad
  else .bad
theorem body_ok {t : XK → TS} {b : Env → M Out} {ar : Nat} {N : List Str} {vs : List V} {H : Hp} {Q : VK} {E : XK} (h : ∀ E, SS k E (t E) b) (q : spM k (bodyM ar N.length b) vs H Q E) (hN : ar ≤ N.length) : vs.length = ar ∧ t E { nx := fun _ H2 => Q .non H2, rt := Q } (start N vs) H := by
  obtain ⟨R, dr, G, n, ds, r, p, w⟩ := q
  by_cases hl : ds.length = ar
  · unfold bodyM at w
    rw [if_pos hl] at w
    have hv : vs.length = ar := by rw [p.len, hl]
    refine ⟨hv, ?_⟩
    have r0 : Rl k R dr (ds.map (fun d => some (false, d)) ++ List.replicate (N.length - ar) none) (start N vs) G H n := by
      have key : ∀ (i : Nat) (b : Bool) d, (ds.map (fun d => some (false, d)) ++ List.replicate (N.length - ar) (none : Option (Bool × D)))[i]? = some (some (b, d)) → b = false ∧ ds[i]? = some d := by
        intro i b d e
        by_cases hi : i < ds.length
        · rw [List.getElem?_append_left (by simpa using hi), List.getElem?_map, List.getElem?_eq_getElem hi] at e
          simp only [Option.map_some, Option.some.injEq, Prod.mk.injEq] at e
          obtain ⟨rfl, rfl⟩ := e
          exact ⟨rfl, List.getElem?_eq_getElem hi⟩
        · rw [List.getElem?_append_right (by simpa using hi)] at e
          rw [List.getElem?_replicate] at e
          split at e <;> cases e
      refine ⟨r.i, r.nt, r.tb, r.dd, r.dh, r.dj, r.rs, fun i d e => ?_, fun i d e => ?_, fun i j a d d' e => ?_, ?_, r.nb, r.so⟩
      · obtain ⟨_, e2⟩ := key i false d e
        obtain ⟨v, g1, g2⟩ := p.get e2
        refine ⟨v, ?_, g2⟩
        unfold L2.start
        have hi : i < vs.length := (List.getElem?_eq_some_iff.mp g1).1
        rw [List.getElem?_append_left (by simpa using hi), List.getElem?_map, g1]; rfl
      · cases (key i true d e).1
      · cases (key i true d e).1
      · unfold L2.start
        simp only [List.length_append, List.length_map, List.length_replicate]
        omega
    refine h E R dr _ _ G H n _ r0 (wp_mono (wp_bind' w) (fun dr n o q => ?_) fun _ _ _ z => z)
    cases o with
    | nx e => exact fun σ2 G2 H2 l r2 => q .non G2 H2 l r2.bare Rp.non
    | rt v => exact fun x G2 H2 l r2 rv => q x G2 H2 l r2 rv
    | bk e => exact q.elim
    | ct e => exact q.elim
  · unfold bodyM at w
    rw [if_neg hl] at w; exact w.elim
end
end Y

namespace Y
open PySem PySem.Spec PyProof.Rows L2 Z
def sp_takeC : Sp := fun vs H Q E => ∃ (m w c : Addr) (n : Nat) (tot : Int) (ws cs : List Int) (r t : Int), vs = [.ref m, .int tot] ∧ H m = some (.dK (dkv w c r t)) ∧ H w = some (.lst (ws.map .int)) ∧ H c = some (.lst (cs.map .int)) ∧ c ≠ w ∧ (∀ x ∈ cs, 0 ≤ x ∧ x < 2147483648) ∧ 0 ≤ t ∧ t + (n + 1 : Nat) ≤ 1000000000000 ∧ 0 < tot ∧ tot < 1000000000 ∧
  ∀ v H2, 0 ≤ v → v < tot → (∀ a, a ≠ m → a ≠ w → ∀ o, H a = some o → H2 a = some o) → (∃ (ws' : List Int) (r' t' : Int), H2 m = some (.dK (dkv w c r' t')) ∧ H2 w = some (.lst (ws'.map .int)) ∧ 0 ≤ t' ∧ t' ≤ t + 1) → Q (.int v) H2
theorem pure_takeC {K : PySem.W.Frag} {ca : Str → Addr} (vs : List V) (H : Hp) (Q : VK) (E : XK) (h : sp_takeC vs H Q E) : vs.length = 2 ∧ t__law_take K ca E { nx := fun _ H2 => Q .non H2, rt := Q } (start ["_law_draw", "_law_total", "_law_found"] vs) H := by
  obtain ⟨m, w, c, n, tot, ws, cs, r, t, rfl, hm, hw, hc, hcw, hcs, ht, htn, h0, h1, k⟩ := h
  refine ⟨rfl, ?_⟩
  have nmw : m ≠ w := fun e => by rw [e, hw] at hm; cases hm
  have ncm : c ≠ m := fun e => by rw [e, hm] at hc; cases hc
  -- what follows the first statement
  have tail : ∀ (H' : Hp) (ws' : List Int) (r' t' : Int), H' m = some (.dK (dkv w c r' t')) → H' w = some (.lst (ws'.map .int)) → (∀ a, a ≠ m → a ≠ w → ∀ o, H a = some o → H' a = some o) → 0 ≤ t' → t' ≤ t + 1 →
      tSeq (tAsg (tOp (rI (fun _ j => j ≠ 0) fun i j => .int (i.fmod j)) (tCB rInt1 (tCons (tDGet (tVar 0) (tC (.str "rest"))) tNil)) (tVar 1)) (gName 2)) (tSeq (sDPut (tVar 0) (tC (.str "rest")) (tOp (rI CDivN fun i j => .int (i.fdiv j)) (tDGet (tVar 0) (tC (.str "rest"))) (tVar 1))) (tRet (tVar 2)))
        { nx := fun _ H2 => Q .non H2, rt := Q } (start ["_law_draw", "_law_total", "_law_found"] [.ref m, .int tot]) H' := by
    intro H' ws' r' t' hm' hw' hk ht' htn'
    refine ⟨.ref m, rfl, m, .int r', rfl, dget_of hm' (g_rest w c r' t'), .inl ⟨r', rfl, .int tot, rfl, r', tot, rfl, rfl, by omega, ?_⟩⟩
    refine ⟨.ref m, rfl, m, .int r', rfl, dget_of hm' (g_rest w c r' t'), .int tot, rfl, r', tot, rfl, rfl, ⟨by omega, by omega⟩, .ref m, rfl, m, upd H' m (.dK (dkv w c (r'.fdiv tot) t')), rfl, .inl ⟨_, kq "rest", hm', rfl, by show 4 < sizeLine; decide, by rw [p_rest]⟩, ?_⟩
    have hf := fmod_bd r' tot h0
    have hc' : H' c = some (.lst (cs.map .int)) := hk c ncm hcw _ hc
    refine ⟨.int (r'.fmod tot), rfl, k _ _ hf.1 hf.2 (fun a h1 h2 o e => by rw [upd_ne h1]; exact hk a h1 h2 o e) ⟨ws', r'.fdiv tot, t', upd_same, by rw [upd_ne nmw.symm]; exact hw', ht', htn'⟩⟩
  refine ⟨.ref m, rfl, m, .int r, rfl, dget_of hm (g_rest w c r t), rfl, _, rfl, ?_⟩
  by_cases hr : V.int r = V.int 0
  · dsimp only
    rw [if_pos (decide_eq_true hr)]
    refine ⟨.ref m, rfl, m, .ref w, rfl, dget_of hm (g_wide w c r t), Nat.zero_le _, fun p hp => ?_⟩
    have npm : p ≠ m := fun e => by rw [e, hm] at hp; cases hp
    have npw : p ≠ w := fun e => by rw [e, hw] at hp; cases hp
    have npc : p ≠ c := fun e => by rw [e, hc] at hp; cases hp
    have hm1 : upd H p (.lst []) m = some (.dK (dkv w c r t)) := by rw [upd_ne npm.symm]; exact hm
    have hw1 : upd H p (.lst []) w = some (.lst (ws.map .int)) := by rw [upd_ne npw.symm]; exact hw
    have hc1 : upd H p (.lst []) c = some (.lst (cs.map .int)) := by rw [upd_ne npc.symm]; exact hc
    have dws : ∀ xs : List Int, DpAll K (upd H p (.lst [])) (xs.map V.int) (xs.map .int) := by
      intro xs
      induction xs with
      | nil => exact .nil
      | cons x xs ih => exact .cons (.int x) ih
    refine ⟨dL dI ws, dL dI [], .lst (.inl (.inl hw1)) (dws ws), .lst (.inl (.inl upd_same)) .nil, (eqt_L eqt_I).shaped (by decide) (fun _ _ => trivial), (eqt_L eqt_I).shaped (by decide) (fun _ _ => trivial), _, rfl, ?_⟩
    dsimp only
    rw [(eqt_L eqt_I).eq]
    cases ws with
    | nil =>
      rw [if_neg (by simp)]
      refine ⟨.ref m, rfl, m, w, c, n, [], cs, r, t, rfl, hm1, hw1, hc1, hcs, ht, by omega, fun v H2 k2 e2 => ?_⟩
      refine ⟨.ref m, rfl, m, upd H2 m (.dK (dkv w c v (t + 1))), rfl, .inl ⟨_, kq "rest", e2, rfl, by show 4 < sizeLine; decide, by rw [p_rest]⟩, ?_⟩
      refine tail _ [] v (t + 1) upd_same (by rw [upd_ne nmw.symm]; exact k2 w nmw.symm _ hw1) (fun a n1 n2 o e => ?_) (by omega) (by omega)
      have nap : a ≠ p := fun z => by rw [z, hp] at e; cases e
      rw [upd_ne n1]
      exact k2 a n1 o (by rw [upd_ne nap]; exact e)
    | cons x ws =>
      rw [if_pos (by simp)]
      refine ⟨.ref m, rfl, m, .ref w, rfl, dget_of hm1 (g_wide w c r t), .inl ⟨rfl, _, .inl (.inl hw1)⟩, w, _, 0, 0, .int x, rfl, rfl, hw1, by decide, by decide, ?_, rfl, ?_⟩
      · show seqIndex? 0 ((x :: ws).map V.int).length = some 0
        rw [List.length_map, List.length_cons]
        unfold seqIndex?
        simp
      · have hm2 : upd (upd H p (.lst [])) w (.lst (((x :: ws).map V.int).eraseIdx 0)) m = some (.dK (dkv w c r t)) := by rw [upd_ne nmw]; exact hm1
        refine ⟨.ref m, rfl, m, upd (upd (upd H p (.lst [])) w (.lst (((x :: ws).map V.int).eraseIdx 0))) m (.dK (dkv w c x t)), rfl, .inl ⟨_, kq "rest", hm2, rfl, by show 4 < sizeLine; decide, by rw [p_rest]⟩, ?_⟩
        refine tail _ ws x t upd_same (by rw [upd_ne nmw.symm, upd_same]; rfl) (fun a n1 n2 o e => ?_) ht (by omega)
        have nap : a ≠ p := fun z => by rw [z, hp] at e; cases e
        rw [upd_ne n1, upd_ne n2, upd_ne nap]
        exact e
  · dsimp only
    rw [if_neg (by simpa using hr)]
    exact tail H ws r t hm hw (fun _ _ _ _ e => e) ht (by omega)
def sp_begunC (K : PySem.W.Frag) : Sp := fun vs H Q E => ∃ (G : Hp) (a : Addr) (ns : List Int), vs = [.ref a] ∧ In G H ∧ SqL K G a (ns.map .int) ∧ ns.length ≤ 1000 ∧
  ∀ m w c (ws cs : List Int) H2, H m = none → H w = none → H c = none → c ≠ w → Le H H2 → H2 m = some (.dK (dkv w c 0 0)) → H2 w = some (.lst (ws.map .int)) → H2 c = some (.lst (cs.map .int)) → (∀ x ∈ cs, 0 ≤ x ∧ x < 2147483648) → Q (.ref m) H2
theorem pure_begunC {K : PySem.W.Frag} {ca : Str → Addr} (vs : List V) (H : Hp) (Q : VK) (E : XK) (h : sp_begunC K vs H Q E) : vs.length = 1 ∧ t__law_begun K ca E { nx := fun _ H2 => Q .non H2, rt := Q } (start ["_law_script", "_law_wide", "_law_cell"] vs) H := by
  obtain ⟨G, a, ns, rfl, hin, hs, hl, k⟩ := h
  refine ⟨rfl, ?_⟩
  unfold t__law_begun tSeq tAsg tRet tDisp
  refine lc_new (D := dI) (xs := ns) (p := fun c => decide ((10 : Int) ^ (18 : Int).toNat ≤ (c.natAbs : Int))) (f := fun c => dI ((c.natAbs : Int) - (10 : Int) ^ (18 : Int).toNat)) (B := fun z σ2 G => ∃ x, σ2 = (wipe (start ["_law_script", "_law_wide", "_law_cell"] [.ref a]) [2]).set 2 (some x) ∧ Z.Rp K G x (dI z)) (ei_scr (k := 0) rfl hs) (fun z _ => bnd_name) (fun z _ σ2 G ⟨x, e, _⟩ => by rw [e]; exact wipe1) (fun z _ G1 σ2 l1 ⟨x, e, r⟩ => ?_) (fun z _ _ G1 σ2 l1 ⟨x, e, r⟩ => ?_) (fun z σ2 G1 G2 l2 ⟨x, e, r⟩ => ⟨x, e, r.mono l2⟩) (by omega) (Le.refl _) hin ?_
  · subst e
    exact et_test (ev_op (ev_cb (ea_cons (ev_var rfl r) ea_nil) cav_abs) (ev_op ev_int ev_int (opv_pow ⟨by decide, by decide, by decide⟩)) opv_ge)
  · subst e
    exact ev_op (ev_cb (ea_cons (ev_var rfl r) ea_nil) cav_abs) (ev_op ev_int ev_int (opv_pow ⟨by decide, by decide, by decide⟩)) opv_sub
  intro w G3 H3 acc hw gw u3 i3 e3 r3
  intro p hp
  unfold tPairs tC tPairs tVar
  refine ⟨.ref w, rfl, ?_⟩
  have i4 : In G3 (upd H3 p (.dK [])) := i3.mut (i3.no hp)
  refine lc_new (D := dI) (xs := ns) (p := fun _ => true) (f := fun c => dI ((c.natAbs : Int).fmod 2147483629)) (B := fun z σ2 G => ∃ x, σ2 = (wipe ((start ["_law_script", "_law_wide", "_law_cell"] [.ref a]).set 1 (some (.ref w))) [2]).set 2 (some x) ∧ Z.Rp K G x (dI z)) (ei_scr (k := 0) rfl (sql_le hs u3.g)) (fun z _ => bnd_name) (fun z _ σ2 G ⟨x, e, _⟩ => by rw [e]; exact wipe1) (fun z _ G1 σ2 l1 ⟨x, e, r⟩ => ?_) (fun z _ _ G1 σ2 l1 ⟨x, e, r⟩ => ?_) (fun z σ2 G1 G2 l2 ⟨x, e, r⟩ => ⟨x, e, r.mono l2⟩) (by omega) (Le.refl _) i4 ?_
  · exact fun G1 H1 l i Q q => q G1 H1 (Up.refl i)
  · subst e
    exact ev_op (ev_cb (ea_cons (ev_cb (ea_cons (ev_var rfl r) ea_nil) cav_abs) ea_nil) cav_int) ev_int (opv_mod (by decide))
  intro c G5 H5 acc2 hc gc u5 i5 e5 r5
  have nwp : w ≠ p := fun e => by rw [e, hp] at e3; cases e3
  have ncp : c ≠ p := fun e => by rw [e, upd_same] at hc; cases hc
  have ncw : c ≠ w := fun e => by rw [e, upd_ne nwp, e3] at hc; cases hc
  have up5 : ∀ b, b ≠ c → ∀ o, upd H3 p (.dK []) b = some o → H5 b = some o := fun b nb o e => by
    have := u5.h b o e
    simp only [if_neg nb] at this
    exact this
  have hp5 : H5 p = some (.dK []) := up5 p ncp.symm _ upd_same
  have hw5 : H5 w = some (.lst acc) := up5 w ncw.symm _ (by rw [upd_ne nwp]; exact e3)
  have hp0 : H p = none := by
    cases q : H p with
    | none => rfl
    | some o =>
      have := u3.h p o q
      simp only [if_neg nwp.symm] at this
      rw [hp] at this; cases this
  have le5 : Le H H5 := fun b o e => by
    have nw : b ≠ w := fun z => by rw [z, hw] at e; cases e
    have np : b ≠ p := fun z => by rw [z, hp0] at e; cases e
    have h3 := u3.h b o e
    simp only [if_neg nw] at h3
    have nc : b ≠ c := fun z => by rw [← z, upd_ne np, h3] at hc; cases hc
    exact up5 b nc o (by rw [upd_ne np]; exact h3)
  refine ⟨hp5, [(kq "wide", V.ref w), (kq "cells", .ref c), (kq "rest", .int 0), (kq "turn", .int 0)], rfl, by show 4 ≤ 15; decide, ?_⟩
  rw [merge4]
  have gw0 : G w = none := hin.no hw
  have gp0 : G p = none := hin.no hp0
  have hc0 : H c = none := by
    cases q : H c with
    | none => rfl
    | some o =>
      have := u3.h c o q
      simp only [if_neg ncw] at this
      rw [upd_ne ncp, this] at hc; cases hc
  have gc0 : G c = none := hin.no hc0
  have le6 : Le H (upd H5 p (.dK (dkv w c 0 0))) := fun b o e => by
    rw [upd_ne (fun z => by rw [z, hp0] at e; cases e)]; exact le5 b o e
  have ea := Z.rpa_ints (ns := (ns.filter fun c => decide ((10 : Int) ^ (18 : Int).toNat ≤ (c.natAbs : Int))).map fun c => (c.natAbs : Int) - (10 : Int) ^ (18 : Int).toNat) (by rw [List.map_map]; exact r3)
  have eb := Z.rpa_ints (ns := ns.map fun c => (c.natAbs : Int).fmod 2147483629) (by rw [List.map_map]; rw [List.filter_eq_self.mpr (fun _ _ => rfl)] at r5; exact r5)
  refine k p w c _ _ _ hp0 hw hc0 ncw le6 upd_same (by rw [upd_ne nwp, hw5, ea]) (by rw [upd_ne ncp, e5, eb]) fun x hx => ?_
  obtain ⟨y, _, rfl⟩ := List.mem_map.mp hx
  have := fmod_bd (y.natAbs : Int) 2147483629 (by decide)
  omega

def m_take : List D → M Vl
  | [.drw q, .int tot] => .take q tot fun i => .ok (.s, .int i)
  | _ => .bad
def m_begun : List D → M Vl
  | [.scr ns] => if ns.length ≤ 1000 then .beg fun q => .ok (.s, .drw q) else .bad
  | _ => .bad
section
variable {k : Kx} {vs : List V} {H : Hp} {Q : VK} {E : XK}
theorem take_ok (h : spM k m_take vs H Q E) : sp_takeC vs H Q E := by
  obtain ⟨R, dr, G, n, ds, r, p, w⟩ := h
  unfold m_take at w
  split at w
  · rename_i q tot
    obtain ⟨hq, h0, h1, n', rfl, w⟩ := w
    obtain ⟨x, y, rfl, p1, p2⟩ := rpa_two p
    cases p1
    rw [rp_int p2]
    obtain ⟨ws, cs, r0, t, e1, e2, e3, e4, e5, e6, e7⟩ := r.dd (.inl q) hq
    refine ⟨q.1, q.2.1, q.2.2, n', tot, ws, cs, r0, t, rfl, e1, e2, e3, e4, e5, e6, e7, h0, h1, fun v H2 v0 v1 hk hd => ?_⟩
    obtain ⟨ws', r', t', f1, f2, f3, f4⟩ := hd
    have hm : inDr dr q.1 := ⟨.inl q, hq, .inl rfl⟩
    have hw : inDr dr q.2.1 := ⟨.inl q, hq, .inr (.inl rfl)⟩
    have nmc : q.2.2 ≠ q.1 := fun z => by rw [z, e1] at e3; cases e3
    have keep : ∀ a o, ¬ isDr (.inl q) a → H a = some o → H2 a = some o := fun a o nd e => hk a (fun z => nd (.inl z)) (fun z => nd (.inr (.inl z))) o e
    have ng : ∀ a o, G a = some o → ¬ isDr (.inl q) a := fun a o e z => by rw [r.dh a ⟨.inl q, hq, z⟩] at e; cases e
    have nt : ∀ a ps, H a = some (.tbl ps) → ¬ isDr (.inl q) a := fun a ps e z => by
      obtain ⟨o, g1, g2⟩ := (r.dd (.inl q) hq).there z
      rw [e] at g1; cases g1; exact g2 ps rfl
    have dis : ∀ q', q' ∈ dr → q' ≠ .inl q → ∀ a, isDr q' a → ¬ isDr (.inl q) a := by
      intro q' hq' hqq
      obtain ⟨i, hi, ei⟩ := List.getElem_of_mem hq
      obtain ⟨j, hj, ej⟩ := List.getElem_of_mem hq'
      have pw := List.pairwise_iff_getElem.mp r.dj
      have nij : i ≠ j := fun z => by subst z; exact hqq (ej.symm.trans ei)
      intro a h1 h2
      rcases Nat.lt_or_gt_of_ne nij with z | z
      · exact pw i j hi hj z a (by rw [ei]; exact h2) (by rw [ej]; exact h1)
      · exact pw j i hj hi z a (by rw [ej]; exact h1) (by rw [ei]; exact h2)
    refine w v v0 v1 (.int v) G H2 (Le.refl _) ⟨fun a o e => ?_, r.nt, fun p hp => ?_, fun q' hq' => ?_, r.dh, r.dj, fun a o e => ?_, fun i d e => by simp at e, fun i d e => by simp at e, fun i j a d d' e => by simp at e, Nat.le_refl _, by have := r.nb; omega, fun b d hb => by
      obtain ⟨o, g1, g2⟩ := r.so b d hb
      exact ⟨o, keep b o (dis _ hb (fun z => nomatch z) b rfl) g1, g2⟩⟩ (Rp.int _)
    · rcases r.i a o e with z | ⟨z1, ob, z⟩
      · exact .inl (keep a o (ng a o e) z)
      · exact .inr ⟨z1, ob, keep a _ (ng a o e) z⟩
    · obtain ⟨ps, t1, t2, t3⟩ := r.tb p hp
      refine ⟨ps, keep _ _ (nt _ _ t1) t1, t2, fun pos cv hc => ?_⟩
      obtain ⟨c, a1, a2⟩ := t3 pos cv hc
      refine ⟨c, a1, keep _ _ (fun z => ?_) a2⟩
      rcases z with z | z | z
      · rw [z, e1] at a2; unfold LamX.CodeO at a2; cases a2
      · rw [z, e2] at a2; unfold LamX.CodeO at a2; cases a2
      · rw [z, e3] at a2; unfold LamX.CodeO at a2; cases a2
    · by_cases hqq : q' = .inl q
      · subst hqq
        exact ⟨ws', cs, r', t', f1, f2, hk _ nmc e4 _ e3, e4, e5, f3, by omega⟩
      · exact ((r.dd q' hq').ext fun a ha o e => keep a o (dis q' hq' hqq a ha) e).mono (by omega)
    · obtain ⟨g1, g2, g3, g4⟩ := r.rs a o e
      exact ⟨keep a o (fun z => g3 ⟨.inl q, hq, z⟩) g1, g2, g3, g4⟩
  · exact w.elim
theorem begun_ok (h : spM k m_begun vs H Q E) : ∃ (hn : True), sp_begunC k.K vs H Q E := by
  obtain ⟨R, dr, G, n, ds, r, p, w⟩ := h
  unfold m_begun at w
  split at w
  · rename_i ns
    split at w
    · rename_i hl
      obtain ⟨x, rfl, p1⟩ := rpa_one p
      cases p1 with
      | scr hs =>
      refine ⟨trivial, G, _, ns, rfl, r.i, hs, hl, fun m w' c ws cs H2 hm hw hc ncw le e1 e2 e3 hcs => ?_⟩
      have fr : ∀ a, isDr (.inl (m, w', c)) a → H a = none := fun a z => by
        rcases z with rfl | rfl | rfl
        · exact hm
        · exact hw
        · exact hc
      have nd : ∀ q ∈ dr, ∀ a, isDr (.inl (m, w', c)) a → ¬ isDr q a := fun q hq a h1 h2 => by
        obtain ⟨o, g1, _⟩ := (r.dd q hq).there h2
        rw [fr a h1] at g1; cases g1
      have r2 := r.keep (extN_le le) (tabs_le r.tb le)
      refine w (m, w', c) (.ref m) G H2 (Le.refl _) ⟨r2.i, r2.nt, r2.tb, fun q hq => ?_, fun a ha => ?_, List.pairwise_cons.mpr ⟨fun q hq a h1 => nd q hq a h1, r.dj⟩, fun a o e => ?_, fun i d e => by simp at e, fun i d e => by simp at e, fun i j a d d' e => by simp at e, Nat.le_refl _, r.nb, fun b d hb => by
        rcases List.mem_cons.mp hb with z | z
        · cases z
        · exact r2.so b d z⟩ (Rp.drw (m, w', c))
      · rcases List.mem_cons.mp hq with rfl | hq
        · exact ⟨ws, cs, 0, 0, e1, e2, e3, ncw, hcs, by decide, by have := r.nb; omega⟩
        · exact r2.dd q hq
      · obtain ⟨q, hq, hd⟩ := ha
        rcases List.mem_cons.mp hq with rfl | hq
        · exact r.i.no (fr a hd)
        · exact r.dh a ⟨q, hq, hd⟩
      · obtain ⟨g1, g2, g3, g4⟩ := r2.rs a o e
        refine ⟨g1, g2, fun z => ?_, g4⟩
        obtain ⟨q, hq, hd⟩ := z
        rcases List.mem_cons.mp hq with rfl | hq
        · have := (r.rs a o e).1
          rw [fr a hd] at this; cases this
        · exact g3 ⟨q, hq, hd⟩
    · exact w.elim
  · exact w.elim
end
end Y

namespace Z
open PySem PySem.Spec PyProof.Rows L2
section
variable {K : PySem.W.Frag} {σ : L2.St} {G : Hp} {te : TE}
end
end Z

namespace Y
open PySem PySem.Spec PyProof.Rows L2 Z
section
variable {X : Cx}
theorem CallR.or {f : Value} {r r' : List V → Hp → VK → Prop} (h : CallR X f r) (h' : CallR X f r') : CallR X f (fun xs H Q => r xs H Q ∨ r' xs H Q) := fun pins s σ H xs us Q I v q => q.elim (h pins s σ H xs us Q I v) (h' pins s σ H xs us Q I v)
end
section
variable {k : Kx} {G H : Hp}
def qAdd (K : PySem.W.Frag) : R2 := fun x y H Q => (rI0 fun i j => .int (i + j)) x y H Q ∨ (rAddS x y H Q ∨ (rCat x y H Q ∨ rCatA K x y H Q))
theorem or_add {X : Cx} : OpR X (binaryOp .Add) (qAdd X.K) := op_add.or (OpR.or (r := rAddS) op_add_str (op_cat.or op_catA))
def addD : D → D → Option D
  | .int i, .int j => some (.int (i + j))
  | .str a, .str b => if a.length + b.length ≤ 10000000 then some (.str (a ++ b)) else none
  | .lst a, .lst b => if a.length + b.length ≤ 1000000 then some (.lst (a ++ b)) else none
  | _, _ => none
theorem os_add : OpS k (qAdd k.K) addD := fun G H x y a b d hi px py hd Q q => by
  unfold addD at hd
  split at hd
  · cases hd
    rw [rp_int px, rp_int py]
    exact .inl ⟨_, _, rfl, rfl, q _ G H (Up.refl hi) (.int _)⟩
  · split at hd
    · rename_i hl
      cases hd
      rw [rp_str px, rp_str py]
      refine .inr (.inl ?_)
      exact opv_addS (K := k.K) hl G H _ _ hi (.str _) (.str _) Q fun v G2 H2 u p => q v G2 H2 u (of_z (.str _) (by simp [Y.py]) p)
    · cases hd
  · split at hd
    · rename_i hl
      cases hd
      obtain ⟨p, xs, rfl, h1, h2⟩ := rp_lst px
      obtain ⟨p', ys, rfl, h3, h4⟩ := rp_lst py
      refine .inr (.inr (.inl ⟨p, p', xs, ys, rfl, rfl, hi.ex h1 rfl, hi.ex h3 rfl, by rw [h2.len, h4.len]; exact Nat.le_trans hl (by decide), fun r hr => ?_⟩))
      have u := Up.new (o := .lst (xs ++ ys)) hi hr
      exact q _ _ _ u (.lst upd_same ((h2.app h4).mono u.g))
    · cases hd
  · cases hd
def iop (C : Int → Int → Prop) [∀ i j, Decidable (C i j)] (f : Int → Int → Int) : D → D → Option D
  | .int i, .int j => if C i j then some (.int (f i j)) else none
  | _, _ => none
def subD (a b : D) : Option D := iop (fun _ _ => True) (fun i j => i - j) a b
instance (i j : Int) : Decidable (CMul i j) := by unfold CMul; infer_instance
instance (i j : Int) : Decidable (CDivN i j) := by unfold CDivN; infer_instance
instance (i j : Int) : Decidable (CPow i j) := by unfold CPow; infer_instance
theorem os_sub : OpS k (rI0 fun i j => .int (i - j)) subD := fun G H x y a b d hi px py hd Q q => by
  unfold subD iop at hd
  split at hd
  · rw [if_pos trivial] at hd
    cases hd
    rw [rp_int px, rp_int py]
    exact ⟨_, _, rfl, rfl, q _ G H (Up.refl hi) (.int _)⟩
  · cases hd
theorem os_I {C : Int → Int → Prop} [∀ i j, Decidable (C i j)] {f : Int → Int → Int} : OpS k (rI C fun i j => .int (f i j)) (iop C f) := fun G H x y a b d hi px py hd Q q => by
  unfold iop at hd
  split at hd
  · split at hd
    · rename_i hc
      cases hd
      rw [rp_int px, rp_int py]
      exact ⟨_, _, rfl, rfl, hc, q _ G H (Up.refl hi) (.int _)⟩
    · cases hd
  · cases hd
def fdivD (a b : D) : Option D := iop CDivN (fun i j => i.fdiv j) a b
def modD (a b : D) : Option D := iop (fun _ j => j ≠ 0) (fun i j => i.fmod j) a b
def powD (a b : D) : Option D := iop CPow (fun i j => i ^ j.toNat) a b
theorem os_pow : OpS k (rI CPow fun i j => .int (i ^ j.toNat)) powD := os_I
def negD : D → Option D
  | .int i => some (.int (-i))
  | _ => none
theorem us_neg : UnS k (rU fun i => .int (-i)) negD := fun G H x a d hi px hd Q q => by
  unfold negD at hd
  split at hd
  · cases hd
    rw [rp_int px]
    exact ⟨_, rfl, q _ G H (Up.refl hi) (.int _)⟩
  · cases hd
def flatEq : D → D → Bool
  | .int i, .int j => i == j
  | .str a, .str b => a == b
  | .bl a, .bl b => a == b
  | .non, .non => true
  | _, _ => false
def sameD (es fs : List (Ky × D)) : Bool := es.length == fs.length && es.all fun e => match getD fs e.1 with
  | some d => flatEq e.2 d
  | none => false
def eqD (a b : D) : Option Bool := match a, b with
  | .int i, .int j => some (decide (i = j))
  | .str i, .str j => some (decide (i = j))
  | .bl i, .bl j => some (decide (i = j))
  | .dic es, .dic fs => if sameD es fs then some true else if es.length = fs.length then none else some false
  | _, _ => match py a, py b with
    | some p, some q => if SeqAt.shaped p && SeqAt.shaped q then some (PyData.eqv p q) else none
    | _, _ => none
def DicLen (H : Hp) (x y : V) : Prop := ∃ a b ks ls, x = .ref a ∧ y = .ref b ∧ Rd H a (.dK ks) ∧ Rd H b (.dK ls) ∧ ks.length ≠ ls.length
def rEqLen : R2 := fun x y H Q => DicLen H x y ∧ Q (.bl false) H
def rNeLen : R2 := fun x y H Q => DicLen H x y ∧ Q (.bl true) H
theorem op_eqLen {X : Cx} (hu : X.A.units + 1 < cLine) : OpR X (compareOp .Eq) rEqLen := fun pins s σ H x y v u Q I rx ry ⟨⟨a, b, ks, ls, ex, ey, ea, eb, hlen⟩, q⟩ => by
  subst ex ey
  cases rx; cases ry
  obtain ⟨_, na, va, ra, da⟩ := ea.ok I.hok
  obtain ⟨_, nb, vb, rb, db⟩ := eb.ok I.hok
  have hl : va.length ≠ vb.length := by rw [← ra.length, ← rb.length]; exact hlen
  exact PySem.W.keq_eq (knd := mixKind X.prog X.w) (r := true) na nb da db (Nat.lt_of_succ_lt hu) (fun h => absurd h hl) (fin_bl I q (by simp [hl]))
theorem op_neLen {X : Cx} (hu : X.A.units + 1 < cLine) : OpR X (compareOp .NotEq) rNeLen := fun pins s σ H x y v u Q I rx ry ⟨⟨a, b, ks, ls, ex, ey, ea, eb, hlen⟩, q⟩ => by
  subst ex ey
  cases rx; cases ry
  obtain ⟨_, na, va, ra, da⟩ := ea.ok I.hok
  obtain ⟨_, nb, vb, rb, db⟩ := eb.ok I.hok
  have hl : va.length ≠ vb.length := by rw [← ra.length, ← rb.length]; exact hlen
  exact PySem.W.keq_ne (knd := mixKind X.prog X.w) (r := true) na nb da db (Nat.lt_of_succ_lt hu) (fun h => absurd h hl) (fin_bl I q (by simp [hl]))
def qEq (K : PySem.W.Frag) : R2 := fun x y H Q => rEq x y H Q ∨ (rEqD K x y H Q ∨ (rEqDic x y H Q ∨ rEqLen x y H Q))
def qNe (K : PySem.W.Frag) : R2 := fun x y H Q => rNe x y H Q ∨ (rNeD K x y H Q ∨ (rNeDic x y H Q ∨ rNeLen x y H Q))
theorem or_eq {X : Cx} (hu : X.A.units + 100 < cLine) : OpR X (compareOp .Eq) (qEq X.K) := op_eq.or ((op_eqD (by omega)).or ((op_eqDic (by omega)).or (op_eqLen (by omega))))
theorem or_ne {X : Cx} (hu : X.A.units + 100 < cLine) : OpR X (compareOp .NotEq) (qNe X.K) := op_ne.or ((op_neD (by omega)).or ((op_neDic (by omega)).or (op_neLen (by omega))))
theorem flat_eq {a b : D} (h : flatEq a b = true) : a = b ∧ ∀ v, Rp k G v a → flatB v = true ∧ ∀ w, Rp k G w b → v = w := by
  cases a <;> cases b <;> simp only [flatEq] at h <;> first
    | (cases h; done)
    | skip
  · exact ⟨rfl, fun v r => ⟨by cases r; rfl, fun w s => by cases r; cases s; rfl⟩⟩
  · have := eq_of_beq h; subst this
    exact ⟨rfl, fun v r => ⟨by cases r; rfl, fun w s => by cases r; cases s; rfl⟩⟩
  · have := eq_of_beq h; subst this
    exact ⟨rfl, fun v r => ⟨by cases r; rfl, fun w s => by cases r; cases s; rfl⟩⟩
  · have := eq_of_beq h; subst this
    exact ⟨rfl, fun v r => ⟨by cases r; rfl, fun w s => by cases r; cases s; rfl⟩⟩
theorem RpD.mem : ∀ {kvs : List (Key × V)} {es : List (Ky × D)} {p : Key × V}, RpD k G kvs es → p ∈ kvs → ∃ q d, p.1 = kk q ∧ (q, d) ∈ es ∧ Rp k G p.2 d
  | _, _, _, .nil, h => by cases h
  | _, _, _, .cons r a, h => by
    rcases List.mem_cons.mp h with e | e
    · subst e; exact ⟨_, _, rfl, List.mem_cons_self, r⟩
    · obtain ⟨q, d, h1, h2, h3⟩ := RpD.mem a e
      exact ⟨q, d, h1, List.mem_cons_of_mem _ h2, h3⟩
theorem same_eq {es fs : List (Ky × D)} {x y : V} (hi : In G H) (h : sameD es fs = true) (px : Rp k G x (.dic es)) (py : Rp k G y (.dic fs)) : DicEq H x y := by
  obtain ⟨a, ks, rfl, h1, h2⟩ := rp_dic px
  obtain ⟨b, ls, rfl, h3, h4⟩ := rp_dic py
  simp only [sameD, Bool.and_eq_true, beq_iff_eq] at h
  refine ⟨a, b, ks, ls, rfl, rfl, hi.rd h1, hi.rd h3, by rw [h2.len, h4.len, h.1], fun p hp => ?_⟩
  obtain ⟨q, d, e1, e2, e3⟩ := h2.mem hp
  have := List.all_eq_true.mp h.2 _ e2
  cases hg : getD fs q with
  | none => simp only [hg] at this; cases this
  | some d' =>
    simp only [hg] at this
    obtain ⟨_, f1⟩ := flat_eq (k := k) (G := G) this
    obtain ⟨g1, g2⟩ := f1 _ e3
    rcases h4.val (q := q) with ⟨_, z⟩ | ⟨v', d'', z1, z2, z3⟩
    · rw [hg] at z; cases z
    · rw [hg] at z2; cases z2
      exact ⟨by rw [e1, z1, g2 _ z3], g1⟩
theorem len_eq {es fs : List (Ky × D)} {x y : V} (hi : In G H) (h : es.length ≠ fs.length) (px : Rp k G x (.dic es)) (py : Rp k G y (.dic fs)) : DicLen H x y := by
  obtain ⟨a, ks, rfl, h1, h2⟩ := rp_dic px
  obtain ⟨b, ls, rfl, h3, h4⟩ := rp_dic py
  exact ⟨a, b, ks, ls, rfl, rfl, hi.rd h1, hi.rd h3, by rw [h2.len, h4.len]; exact h⟩
theorem eqD_cases {a b : D} {r : Bool} (h : eqD a b = some r) : (∀ G (x y : V), Rp k G x a → Rp k G y b → L2.scal x y = true ∧ decide (x = y) = r) ∨ (∃ es fs, a = .dic es ∧ b = .dic fs ∧ (sameD es fs = true ∧ r = true ∨ es.length ≠ fs.length ∧ r = false)) ∨ ∃ p q, py a = some p ∧ py b = some q ∧ SeqAt.shaped p = true ∧ SeqAt.shaped q = true ∧ r = PyData.eqv p q := by
  unfold eqD at h
  split at h
  · cases h
    exact .inl fun G x y p q => by rw [rp_int p, rp_int q]; exact ⟨rfl, by simp⟩
  · cases h
    refine .inl fun G x y p q => ?_
    rename_i i j
    rw [rp_str p, rp_str q]
    refine ⟨rfl, ?_⟩
    by_cases e : i = j
    · subst e; simp
    · have : S i ≠ S j := fun z => e (S_inj z)
      simp [e, this]
  · cases h
    exact .inl fun G x y p q => by rw [rp_bl p, rp_bl q]; exact ⟨rfl, by simp⟩
  · split at h
    · rename_i hs; cases h; exact .inr (.inl ⟨_, _, rfl, rfl, .inl ⟨hs, rfl⟩⟩)
    · split at h
      · cases h
      · rename_i hl; cases h; exact .inr (.inl ⟨_, _, rfl, rfl, .inr ⟨hl, rfl⟩⟩)
  · split at h
    · rename_i p q e1 e2
      split at h
      · rename_i hs
        cases h
        rw [Bool.and_eq_true] at hs
        exact .inr (.inr ⟨p, q, e1, e2, hs.1, hs.2, rfl⟩)
      · cases h
    · cases h
def eqB (a b : D) : Option D := (eqD a b).map .bl
def neB (a b : D) : Option D := (eqD a b).map fun r => .bl (!r)
theorem os_eq : OpS k (qEq k.K) eqB := fun G H x y a b d hi px py' hd Q q => by
  unfold eqB at hd
  simp only [Option.map_eq_some_iff] at hd
  obtain ⟨r, hr, rfl⟩ := hd
  rcases eqD_cases (k := k) hr with h | ⟨es, fs, rfl, rfl, ⟨hs, rfl⟩ | ⟨hs, rfl⟩⟩ | ⟨p, p', e1, e2, s1, s2, rfl⟩
  · obtain ⟨h1, h2⟩ := h G x y px py'
    exact .inl ⟨h1, by rw [h2]; exact q _ G H (Up.refl hi) (.bl _)⟩
  · exact .inr (.inr (.inl ⟨same_eq hi hs px py', q _ G H (Up.refl hi) (.bl _)⟩))
  · exact .inr (.inr (.inr ⟨len_eq hi hs px py', q _ G H (Up.refl hi) (.bl _)⟩))
  · exact .inr (.inl (opv_eqD (K := k.K) s1 s2 G H x y hi (px.z e1) (py'.z e2) Q fun v G2 H2 u z => q v G2 H2 u (of_z (.bl _) (by simp [Y.py]) z)))
theorem os_ne : OpS k (qNe k.K) neB := fun G H x y a b d hi px py' hd Q q => by
  unfold neB at hd
  simp only [Option.map_eq_some_iff] at hd
  obtain ⟨r, hr, rfl⟩ := hd
  rcases eqD_cases (k := k) hr with h | ⟨es, fs, rfl, rfl, ⟨hs, rfl⟩ | ⟨hs, rfl⟩⟩ | ⟨p, p', e1, e2, s1, s2, rfl⟩
  · obtain ⟨h1, h2⟩ := h G x y px py'
    exact .inl ⟨h1, by rw [h2]; exact q _ G H (Up.refl hi) (.bl _)⟩
  · exact .inr (.inr (.inl ⟨same_eq hi hs px py', q _ G H (Up.refl hi) (.bl _)⟩))
  · exact .inr (.inr (.inr ⟨len_eq hi hs px py', q _ G H (Up.refl hi) (.bl _)⟩))
  · exact .inr (.inl (opv_neD (K := k.K) s1 s2 G H x y hi (px.z e1) (py'.z e2) Q fun v G2 H2 u z => q v G2 H2 u (of_z (.bl _) (by simp [Y.py]) z)))
def qLt : R2 := fun x y H Q => (rI0 fun i j => .bl (decide (i < j))) x y H Q ∨ rLtS x y H Q
theorem or_lt {X : Cx} : OpR X (compareOp .Lt) qLt := op_lt.or (r' := rLtS) op_lt_str
def ltD : D → D → Option D
  | .int i, .int j => some (.bl (decide (i < j)))
  | .str a, .str b => some (.bl (decide (a < b)))
  | _, _ => none
theorem os_lt : OpS k qLt ltD := fun G H x y a b d hi px py hd Q q => by
  unfold ltD at hd
  split at hd
  · cases hd
    rw [rp_int px, rp_int py]
    exact .inl ⟨_, _, rfl, rfl, q _ G H (Up.refl hi) (.bl _)⟩
  · cases hd
    rw [rp_str px, rp_str py]
    exact .inr (opv_ltS (K := k.K) G H _ _ hi (.str _) (.str _) Q fun v G2 H2 u p => q v G2 H2 u (of_z (.bl _) (by simp [Y.py]) p))
  · cases hd
def cop (f : Int → Int → Bool) : D → D → Option D
  | .int i, .int j => some (.bl (f i j))
  | _, _ => none
theorem os_C {f : Int → Int → Bool} : OpS k (rI0 fun i j => .bl (f i j)) (cop f) := fun G H x y a b d hi px py hd Q q => by
  unfold cop at hd
  split at hd
  · cases hd
    rw [rp_int px, rp_int py]
    exact ⟨_, _, rfl, rfl, q _ G H (Up.refl hi) (.bl _)⟩
  · cases hd
def leD (a b : D) : Option D := cop (fun i j => decide (i ≤ j)) a b
def gtD (a b : D) : Option D := cop (fun i j => decide (j < i)) a b
def geD (a b : D) : Option D := cop (fun i j => decide (j ≤ i)) a b
theorem os_le : OpS k (rI0 fun i j => .bl (decide (i ≤ j))) leD := os_C
theorem os_gt : OpS k (rI0 fun i j => .bl (decide (j < i))) gtD := os_C
theorem os_ge : OpS k (rI0 fun i j => .bl (decide (j ≤ i))) geD := os_C
def inS (a b : List Nat) : Bool := !(Builtin.Str.occurrences (S b) (S a) 0 (S b).length 1).isEmpty
theorem inS_one (c : Nat) (w : List Nat) : inS [c] w = decide (c ∈ w) := by
  have := PySem.StrLaws.found_one (S w) c
  rw [S_cps] at this
  exact this
def flE : D → D → Bool
  | .non, .non => true
  | .bl a, .bl b => a == b
  | .bl a, .int b => (if a then 1 else 0) == b
  | .int a, .bl b => a == (if b then 1 else 0)
  | .int a, .int b => a == b
  | .str a, .str b => a == b
  | _, _ => false
def flat : D → Bool
  | .non => true
  | .bl _ => true
  | .int _ => true
  | .str _ => true
  | _ => false
theorem rp_flat {v : V} {d : D} (h : flat d = true) (r : Rp k G v d) : flatV v = true := by
  cases r <;> first
    | rfl
    | (simp [flat] at h; done)
theorem S_beq (a b : List Nat) : (S a == S b) = (a == b) := by
  by_cases h : a = b
  · subst h; simp
  · have : S a ≠ S b := fun e => h (S_inj e)
    rw [beq_eq_false_iff_ne.mpr this, beq_eq_false_iff_ne.mpr h]
theorem rp_flE {v w : V} {d e : D} (r : Rp k G v d) (s : Rp k G w e) (h1 : flat d = true) (h2 : flat e = true) : eqV v w = flE d e := by
  cases d <;> simp [flat] at h1 <;> cases e <;> simp [flat] at h2 <;> cases r <;> cases s <;> first
    | rfl
    | exact S_beq _ _
theorem any_flE {v : V} {d : D} (r : Rp k G v d) (hd : flat d = true) : ∀ {vs : List V} {ds : List D}, RpA k G vs ds → ds.all flat = true → inV v vs = ds.any (fun y => flE y d) ∧ vs.all flatV = true
  | _, _, .nil, _ => ⟨rfl, rfl⟩
  | _, _, .cons h a, hf => by
    simp only [List.all_cons, Bool.and_eq_true] at hf
    obtain ⟨i1, i2⟩ := any_flE r hd a hf.2
    refine ⟨?_, by simp [rp_flat hf.1 h, i2]⟩
    rename_i v' vs' d' ds'
    have e : inV v (v' :: vs') = (eqV v' v || inV v vs') := rfl
    rw [e, i1, rp_flE h r hf.1 hd]
    rfl
def rNotS : R2 := fun x y H Q => ∃ i j, x = .str i ∧ y = .str j ∧ Q (.bl (!(!(Builtin.Str.occurrences j i 0 j.length 1).isEmpty))) H
def qIn (K : PySem.W.Frag) : R2 := fun x y H Q => rInS x y H Q ∨ rIn K false x y H Q
def qNotIn (K : PySem.W.Frag) : R2 := fun x y H Q => rNotS x y H Q ∨ rIn K true x y H Q
theorem or_in {X : Cx} : OpR X (compareOp .In) (qIn X.K) := OpR.or (r := rInS) op_in_str op_in_seq
theorem or_notin {X : Cx} : OpR X (compareOp .NotIn) (qNotIn X.K) := OpR.or (r := rNotS) op_notin_str op_notIn_seq
def inD : D → D → Option Bool
  | .str a, .str b => some (inS a b)
  | x, .lst ds => if flat x && ds.all flat then some (ds.any fun y => flE y x) else none
  | x, .tup ds => if flat x && ds.all flat then some (ds.any fun y => flE y x) else none
  | _, _ => none
def inB (a b : D) : Option D := (inD a b).map .bl
def notInB (a b : D) : Option D := (inD a b).map fun r => .bl (!r)
theorem in_core {x y : V} {a b : D} {r : Bool} (hi : In G H) (px : Rp k G x a) (py : Rp k G y b) (h : inD a b = some r) (neg : Bool) {Q : VK} (q : Q (.bl (neg ^^ r)) H) : (if neg then rNotS x y H Q ∨ rIn k.K true x y H Q else rInS x y H Q ∨ rIn k.K false x y H Q) := by
  unfold inD at h
  split at h
  · cases h
    rw [rp_str px, rp_str py]
    cases neg with
    | true => rw [if_pos rfl]; exact .inl ⟨_, _, rfl, rfl, by simpa [inS] using q⟩
    | false => rw [if_neg (by simp)]; exact .inl ⟨_, _, rfl, rfl, by simpa [inS] using q⟩
  · split at h
    · rename_i hf
      cases h
      rw [Bool.and_eq_true] at hf
      obtain ⟨p, xs, rfl, h1, h2⟩ := rp_lst py
      obtain ⟨e1, e2⟩ := any_flE px hf.1 h2 hf.2
      cases neg with
      | true => rw [if_pos rfl]; exact .inr ⟨p, xs, rfl, .inl (.inl (.inl (hi.ex h1 rfl))), rp_flat hf.1 px, e2, by rw [e1]; simpa using q⟩
      | false => rw [if_neg (by simp)]; exact .inr ⟨p, xs, rfl, .inl (.inl (.inl (hi.ex h1 rfl))), rp_flat hf.1 px, e2, by rw [e1]; simpa using q⟩
    · cases h
  · split at h
    · rename_i hf
      cases h
      rw [Bool.and_eq_true] at hf
      obtain ⟨p, xs, rfl, h1, h2⟩ := rp_tup py
      obtain ⟨e1, e2⟩ := any_flE px hf.1 h2 hf.2
      cases neg with
      | true => rw [if_pos rfl]; exact .inr ⟨p, xs, rfl, .inr (in_t hi h1), rp_flat hf.1 px, e2, by rw [e1]; simpa using q⟩
      | false => rw [if_neg (by simp)]; exact .inr ⟨p, xs, rfl, .inr (in_t hi h1), rp_flat hf.1 px, e2, by rw [e1]; simpa using q⟩
    · cases h
  · cases h
theorem os_in : OpS k (qIn k.K) inB := fun G H x y a b d hi px py hd Q q => by
  unfold inB at hd
  simp only [Option.map_eq_some_iff] at hd
  obtain ⟨r, hr, rfl⟩ := hd
  have := in_core hi px py hr false (Q := Q) (by simpa using q _ G H (Up.refl hi) (.bl _))
  simpa [qIn] using this
theorem os_notin : OpS k (qNotIn k.K) notInB := fun G H x y a b d hi px py hd Q q => by
  unfold notInB at hd
  simp only [Option.map_eq_some_iff] at hd
  obtain ⟨r, hr, rfl⟩ := hd
  have := in_core hi px py hr true (Q := Q) (by simpa using q _ G H (Up.refl hi) (.bl _))
  simpa [qNotIn] using this
def isNonD : D → Bool
  | .non => true
  | _ => false
theorem non_dec {v : V} {d : D} (r : Rp k G v d) : decide (v = .non) = isNonD d := by
  cases r <;> rfl
def eIsN (neg : Bool) (fa : Env → M Vl) : Env → M Vl := fun env => (fa env).bind fun x => .ok (.s, .bl (neg ^^ isNonD x.2))
theorem se_isN {E : XK} {ta : TE} {fa : Env → M Vl} (ha : SE k E ta fa) : SE k E (tIsN ta) (eIsN false fa) := fun R dr env σ G H n Q rl w => by
  refine ha.run rl (wp_bind' w) (fun _ _ _ h => h) fun dr n1 v x G1 H1 w1 l1 r1 s1 => ?_
  obtain ⟨G', l, i, _, q1, _⟩ := r1.revealA
  rw [non_dec (q1 x v s1)]
  exact w1 _ G1 H1 l1 r1 (by simpa [RV] using Rp.bl _)
theorem se_notN {E : XK} {ta : TE} {fa : Env → M Vl} (ha : SE k E ta fa) : SE k E (tNotN ta) (eIsN true fa) := fun R dr env σ G H n Q rl w => by
  refine ha.run rl (wp_bind' w) (fun _ _ _ h => h) fun dr n1 v x G1 H1 w1 l1 r1 s1 => ?_
  obtain ⟨G', l, i, _, q1, _⟩ := r1.revealA
  have := w1 (.bl (!isNonD v.2)) G1 H1 l1 r1 (by simpa [RV] using Rp.bl _)
  rw [← non_dec (q1 x v s1)] at this
  exact this
def isBlD : D → D → Option D
  | .bl a, .bl b => some (.bl (decide (a = b)))
  | _, _ => none
def notBlD : D → D → Option D
  | .bl a, .bl b => some (.bl (!decide (a = b)))
  | _, _ => none
def SO (k : Kx) (E : XK) (t : TO) (f : Env → M (Option Int)) : Prop := ∀ R dr env σ G H n (Q : Option Int → Hp → Prop), Rl k R dr env σ G H n →
  wp dr n (f env) (fun dr n' o => ∀ G2 H2, Le G G2 → Rl k R dr env σ G2 H2 n' → Q o H2) (XP k R G E) → t σ H Q
def eNo : Env → M (Option Int) := fun _ => .ok none
def ePart (fa : Env → M Vl) : Env → M (Option Int) := fun env => (fa env).bind fun x => match x.2 with
  | .int i => .ok (some i)
  | _ => .bad
theorem so_no {E : XK} : SO k E tNoPart eNo := fun R dr env σ G H n Q r w => w G H (Le.refl _) r
theorem so_part {E : XK} {ta : TE} {fa : Env → M Vl} (ha : SE k E ta fa) : SO k E (tPart ta) (ePart fa) := fun R dr env σ G H n Q rl w => by
  refine ha.run rl (wp_bind' w) (fun _ _ _ h => h) fun dr n1 v x G1 H1 w1 l1 r1 s1 => ?_
  split at w1
  · rename_i i e
    exact ⟨i, rs_int r1 e s1, w1 G1 H1 l1 r1⟩
  · exact w1.elim
def qSl (K : PySem.W.Frag) : V → Option Int → Option Int → Hp → VK → Prop := fun x lo hi H Q => rSlS x lo hi H Q ∨ (rSlL K x lo hi H Q ∨ rSlA K x lo hi H Q)
theorem or_sl {X : Cx} : L2.SlR X (qSl X.K) := sl_str.or (sl_list.or sl_tupA)
def slD (d : D) (lo hi : Option Int) : Option D := match d with
  | .str w => if w.length ≤ 10000000 then some (.str (cutL w lo hi)) else none
  | .lst ds => some (.lst (cutL ds lo hi))
  | _ => none
def eSl (fa : Env → M Vl) (fl fh : Env → M (Option Int)) : Env → M Vl := fun env => (fa env).bind fun x => (fl env).bind fun lo => (fh env).bind fun hi => (M.of (slD x.2 lo hi)).bind fun d => fin (isV x) d
theorem RpA.cut {vs : List V} {ds : List D} (h : RpA k G vs ds) (lo hi : Option Int) : RpA k G (cutL vs lo hi) (cutL ds lo hi) := by
  unfold cutL
  rw [h.len]
  exact h.drop.take
theorem se_sl {E : XK} {ta : TE} {fa : Env → M Vl} {tl th : TO} {fl fh : Env → M (Option Int)} (ha : SE k E ta fa) (hl : SO k E tl fl) (hh : SO k E th fh) : SE k E (L2.tSl (qSl k.K) ta tl th) (eSl fa fl fh) := fun R dr env σ G H n Q rl w => by
  refine ha.run rl (wp_bind' w) (fun _ _ _ h => h) fun dr n1 v x G1 H1 w1 l1 r1 s1 => ?_
  refine hl R dr env σ G1 H1 n1 _ r1 (wp_mono (wp_bind' w1) (fun dr n2 lo w2 G2 H2 l2 r2 => ?_) fun _ _ _ h => h.mono l1)
  refine hh R dr env σ G2 H2 n2 _ r2 (wp_mono (wp_bind' w2) (fun dr n3 hi w3 G3 H3 l3 r3 => ?_) fun _ _ _ h => h.mono (l1.trans l2))
  obtain ⟨d, hd, w4⟩ := wp_of.mp (wp_bind' w3)
  refine op_end (P := qSl k.K x lo hi H3 Q) r3 (wp_mono w4 (fun dr n' r q x G5 H5 l5 => q x G5 H5 ((l1.trans (l2.trans l3)).trans l5)) (fun _ _ _ h => h)) fun G' l' i' _ q1 q2 fin => ?_
  have p := q1 x v (fun z => z) (s1.mono (l2.trans l3))
  unfold slD at hd
  split at hd
  · rename_i w' e
    split at hd
    · rename_i hl
      cases hd
      rw [e] at p
      rw [rp_str p]
      refine .inl ⟨S w', rfl, by rw [S_len]; exact Nat.le_trans hl (by decide), ?_⟩
      rw [cutS_S]
      exact fin _ G' H3 (Up.refl i') (.str _)
    · cases hd
  · rename_i ds e
    cases hd
    rw [e] at p
    obtain ⟨a, vs, rfl, h1, h2⟩ := rp_lst p
    refine .inr (.inl ⟨a, vs, rfl, .inl (.inl (i'.ex h1 rfl)), fun r hr => ?_⟩)
    have u := Up.new (o := .lst (cutV vs lo hi)) i' hr
    exact fin _ _ _ u (.lst upd_same ((h2.cut lo hi).mono u.g))
  · cases hd
end
end Y

namespace Y
open PySem PySem.Spec PyProof.Rows L2 Z
section
variable {k : Kx} {G H : Hp}
def qLen (K : PySem.W.Frag) : List V → Hp → VK → Prop := fun xs H Q => rLenU K xs H Q ∨ rLenDc xs H Q
theorem cr_len {X : Cx} : CallR X (.builtin "len") (qLen X.K) := CallR.or (r := rLenU X.K) call_len cr_lenD
def lenD : List D → Option D
  | [.lst ds] => some (.int ds.length)
  | [.tup ds] => some (.int ds.length)
  | [.dic ds] => some (.int ds.length)
  | [.str w] => if w.length ≤ 10000000 then some (.int w.length) else none
  | [.scr ns] => some (.int ns.length)
  | _ => none
theorem cs_len : CaS k (qLen k.K) lenD := fun G H xs ds d hi px hd Q q => by
  unfold lenD at hd
  split at hd
  · cases hd
    obtain ⟨v, rfl, p⟩ := rpa_one px
    obtain ⟨a, vs, rfl, h1, h2⟩ := rp_lst p
    exact .inl ⟨.ref a, _, rfl, .inl ⟨vs, .inl (.inl (hi.ex h1 rfl)), h2.len.symm⟩, q _ G H (Up.refl hi) (.int _)⟩
  · cases hd
    obtain ⟨v, rfl, p⟩ := rpa_one px
    obtain ⟨a, vs, rfl, h1, h2⟩ := rp_tup p
    exact .inl ⟨.ref a, _, rfl, .inr ⟨vs, in_t hi h1, h2.len.symm⟩, q _ G H (Up.refl hi) (.int _)⟩
  · cases hd
    obtain ⟨v, rfl, p⟩ := rpa_one px
    obtain ⟨a, vs, rfl, h1, h2⟩ := rp_dic p
    exact .inr ⟨a, vs, rfl, hi.rd h1, by rw [h2.len]; exact q _ G H (Up.refl hi) (.int _)⟩
  · split at hd
    · rename_i hl
      cases hd
      obtain ⟨v, rfl, p⟩ := rpa_one px
      rw [rp_str p]
      exact .inl ⟨_, _, rfl, ⟨by rw [S_len]; exact Nat.le_trans hl (by decide), by rw [S_len]⟩, q _ G H (Up.refl hi) (.int _)⟩
    · cases hd
  · cases hd
    obtain ⟨v, rfl, p⟩ := rpa_one px
    cases p with
    | scr hs => exact .inl ⟨_, _, rfl, .inl ⟨_, sql_in hs hi, by rw [List.length_map]⟩, q _ G H (Up.refl hi) (.int _)⟩
  · cases hd
def minD2 : List D → Option D
  | [.int i, .int j] => some (.int (min i j))
  | _ => none
theorem cs_min2 : CaS k rMin2 minD2 := fun G H xs ds d hi px hd Q q => by
  unfold minD2 at hd
  split at hd
  · cases hd
    obtain ⟨v, w, rfl, p, p'⟩ := rpa_two px
    rw [rp_int p, rp_int p']
    exact cav_min2 (K := k.K) G H _ hi (.cons (.int _) (.cons (.int _) .nil)) Q fun v G2 H2 u p => q v G2 H2 u (of_z (.int _) (by simp [Y.py]) p)
  · cases hd
def blsOf : List D → Option (List Bool)
  | [] => some []
  | .bl b :: ds => (blsOf ds).map (b :: ·)
  | _ => none
def intsOf : List D → Option (List Int)
  | [] => some []
  | .int b :: ds => (intsOf ds).map (b :: ·)
  | _ => none
def strsOf : List D → Option (List (List Nat))
  | [] => some []
  | .str b :: ds => (strsOf ds).map (b :: ·)
  | _ => none
@[simp] theorem blsOf_map : ∀ xs : List Bool, blsOf (xs.map .bl) = some xs
  | [] => rfl
  | x :: xs => by simp [blsOf, blsOf_map xs]
@[simp] theorem intsOf_map : ∀ xs : List Int, intsOf (xs.map .int) = some xs
  | [] => rfl
  | x :: xs => by simp [intsOf, intsOf_map xs]
@[simp] theorem strsOf_map : ∀ xs : List (List Nat), strsOf (xs.map .str) = some xs
  | [] => rfl
  | x :: xs => by simp [strsOf, strsOf_map xs]
theorem of_bls : ∀ {ds : List D} {xs : List Bool}, blsOf ds = some xs → ds = xs.map .bl
  | [], xs, h => by cases h; rfl
  | d :: ds, xs, h => by
    cases d <;> simp only [blsOf, Option.map_eq_some_iff] at h <;> first
      | (cases h; done)
      | skip
    obtain ⟨ys, h1, rfl⟩ := h
    rw [of_bls h1]; rfl
theorem of_strs : ∀ {ds : List D} {xs : List (List Nat)}, strsOf ds = some xs → ds = xs.map .str
  | [], xs, h => by cases h; rfl
  | d :: ds, xs, h => by
    cases d <;> simp only [strsOf, Option.map_eq_some_iff] at h <;> first
      | (cases h; done)
      | skip
    obtain ⟨ys, h1, rfl⟩ := h
    rw [of_strs h1]; rfl
theorem rpa_bls : ∀ {vs : List V} {xs : List Bool}, RpA k G vs (xs.map .bl) → vs = xs.map .bl
  | vs, [], h => rpa_nil h
  | vs, x :: xs, h => by
    obtain ⟨v, ws, rfl, h1, h2⟩ := rpa_cons h
    rw [rp_bl h1, rpa_bls h2]; rfl
theorem rpa_strs : ∀ {vs : List V} {xs : List (List Nat)}, RpA k G vs (xs.map .str) → vs = xs.map fun w => .str (S w)
  | vs, [], h => rpa_nil h
  | vs, x :: xs, h => by
    obtain ⟨v, ws, rfl, h1, h2⟩ := rpa_cons h
    rw [rp_str h1, rpa_strs h2]; rfl
theorem ints_rpa' : ∀ xs : List Int, RpA k G (xs.map .int) (xs.map .int)
  | [] => .nil
  | x :: xs => .cons (.int x) (ints_rpa' xs)
def allD : List D → Option D
  | [.lst ds] => (blsOf ds).map fun bs => .bl (bs.all id)
  | _ => none
theorem cs_all : CaS k (rAll k.K) allD := fun G H xs ds d hi px hd Q q => by
  unfold allD at hd
  split at hd
  · simp only [Option.map_eq_some_iff] at hd
    obtain ⟨bs, h1, rfl⟩ := hd
    obtain ⟨v, rfl, p⟩ := rpa_one px
    rw [of_bls h1] at p
    obtain ⟨a, vs, rfl, h2, h3⟩ := rp_lst p
    rw [rpa_bls h3] at h2
    exact ⟨a, bs, rfl, .inl (.inl (hi.ex h2 rfl)), q _ G H (Up.refl hi) (.bl _)⟩
  · cases hd
def sortI (xs : List Int) : List Int := xs.mergeSort fun a b => decide (a ≤ b)
def listD : List D → Option D
  | [.lst ds] => some (.lst ds)
  | [.tup ds] => some (.lst ds)
  | [.str w] => if w.length ≤ 1000000 then some (.lst (chars w)) else none
  | _ => none
def qList (K : PySem.W.Frag) : List V → Hp → VK → Prop := fun xs H Q => rListOf K xs H Q ∨ rListS xs H Q
theorem cr_list {X : Cx} (hc : X.calm = true) : CallR X (.type "list") (qList X.K) := CallR.or (r := rListOf X.K) call_list_of (cr_listS hc)
theorem chars_rpa (w : List Nat) : RpA k G (w.map fun c => .str (S [c])) (chars w) := by
  induction w with
  | nil => exact .nil
  | cons c w ih => exact .cons (.str [c]) ih
theorem co_list : CaO k (qList k.K) listD := fun G H xs ds d hi px hd Q q => by
  unfold listD at hd
  split at hd
  · cases hd
    obtain ⟨v, rfl, p⟩ := rpa_one px
    obtain ⟨a, vs, rfl, h1, h2⟩ := rp_lst p
    exact .inl ⟨a, vs, rfl, .inl (.inl (.inl (hi.ex h1 rfl))), fun l hl => q l _ hl (.lst h2)⟩
  · cases hd
    obtain ⟨v, rfl, p⟩ := rpa_one px
    obtain ⟨a, vs, rfl, h1, h2⟩ := rp_tup p
    exact .inl ⟨a, vs, rfl, .inr (in_t hi h1), fun l hl => q l _ hl (.lst h2)⟩
  · split at hd
    · rename_i hl
      cases hd
      obtain ⟨v, rfl, p⟩ := rpa_one px
      rw [rp_str p]
      refine .inr ⟨_, rfl, by rw [S_len]; exact Nat.le_trans hl (by decide), fun l hl => ?_⟩
      rw [S_cps]
      exact q l _ hl (.lst (chars_rpa _))
    · cases hd
  · cases hd
def tupD : D → Option D
  | .lst ds => some (.tup ds)
  | .tup ds => some (.tup ds)
  | _ => none
def joinD : D → D → Option D
  | .str [], .lst ds => match strsOf ds with
    | some ws => if (ws.map List.length).sum ≤ 10000000 then some (.str ws.flatten) else none
    | none => none
  | _, _ => none
def eJoin (fa fb : Env → M Vl) : Env → M Vl := fun env => (fa env).bind fun x => match x.2 with
  | .str w => (fb env).bind fun y => (M.of (joinD (.str w) y.2)).bind fun d => fin (isV x || isV y) d
  | _ => .bad
theorem se_join {E : XK} {ta tb : TE} {fa fb : Env → M Vl} (ha : SE k E ta fa) (hb : SE k E tb fb) : SE k E (tM1 (rJoin k.K) ta tb) (eJoin fa fb) := fun R dr env σ G H n Q rl w => by
  refine ha.run rl (wp_bind' w) (fun _ _ _ h => h) fun dr n1 v x G1 H1 w1 l1 r1 s1 => ?_
  split at w1
  · rename_i w0 e0
    obtain ⟨G', lg, ig, _, qr, _⟩ := r1.revealA
    have px := qr x v s1
    rw [e0] at px
    refine ⟨⟨_, rp_str px⟩, ?_⟩
    refine hb.run r1 (wp_bind' w1) (fun _ _ _ h => h.mono l1) fun dr n2 v2 y G2 H2 w2 l2 r2 s2 => ?_
    obtain ⟨d, hd, w3⟩ := wp_of.mp (wp_bind' w2)
    refine op_end (P := rJoin k.K x [y] H2 Q) r2 (wp_mono w3 (fun dr n' r q x G3 H3 l3 => q x G3 H3 ((l1.trans l2).trans l3)) (fun _ _ _ h => h)) fun G' l' i' _ q1 q2 fin => ?_
    have py' := q1 y v2 (fun z => by revert z; cases isV v2 <;> simp) s2
    unfold joinD at hd
    split at hd
    · rename_i ds e1 e2
      cases e1
      split at hd
      · rename_i ws hw
        split at hd
        · rename_i hl
          cases hd
          rw [e2, of_strs hw] at py'
          obtain ⟨a, vs, rfl, h1, h2⟩ := rp_lst py'
          rw [rpa_strs h2] at h1
          rw [rp_str px]
          refine ⟨S [], a, ws.map S, rfl, rfl, .inl (.inl (.inl ?_)), ?_, ?_⟩
          · have := i'.ex h1 rfl
            rw [List.map_map]; exact this
          · have e1 : (ws.map S).map (·.length) = ws.map List.length := by
              rw [List.map_map]
              exact List.map_congr_left fun l _ => S_len l
            rw [e1, S_len]
            simp only [List.length_nil, Nat.mul_zero, Nat.add_zero]
            exact Nat.le_trans hl (by decide)
          · rw [Z.join_nil]
            exact fin _ G' H2 (Up.refl i') (.str _)
        · cases hd
      · cases hd
    · cases hd
  · exact w1.elim
end
end Y

namespace Y
open PySem PySem.Spec PyProof.Rows L2 Z
def tyName : D → Option String
  | .non => some "NoneType"
  | .bl _ => some "bool"
  | .int _ => some "int"
  | .str _ => some "str"
  | .lst _ => some "list"
  | .tup _ => some "tuple"
  | .dic _ => some "dict"
  | _ => none
def XTab (k : Kx) (tab : List (Str × Str × Bool)) : Prop := ∀ p ∈ tab, ExcC k.K (k.ca p.1) ∧ PySem.W.kitOne k.K (.ref (k.ca p.1)) (.ref (k.ca p.2.1)) = some p.2.2
def lookX (tab : List (Str × Str × Bool)) (a b : Str) : Option Bool := (tab.find? fun p => decide (p.1 = a ∧ p.2.1 = b)).map (·.2.2)
def isiD (tab : List (Str × Str × Bool)) : List D → Option D
  | [d, .ty c] => (tyName d).bind fun n => (kitB n c).map .bl
  | [.exc C [], .glo B] => (lookX tab C B).map .bl
  | [.exc C (_ :: _), .glo B] => if C = B then some (.bl true) else none
  | _ => none
section
variable {k : Kx} {G H : Hp}
theorem tyX_of {x : V} {d : D} {n : String} (hi : In G H) (p : Rp k G x d) (h : tyName d = some n) : TyX k.K H x (.type n) := by
  cases p with
  | non => cases h; exact .base .non
  | bl b => cases h; exact .base (.bl b)
  | int i => cases h; exact .base (.int i)
  | str s => cases h; exact .base (.str _)
  | lst g _ => cases h; exact .base (.lst (hi.ex g rfl))
  | tup g _ =>
    cases h
    rcases g with q | q
    · rcases q with q | ⟨o, q⟩
      · exact .base (.tup (hi.ex q rfl))
      · exact .fTuple (hi.ex q rfl)
    · obtain ⟨o, its, n, h1, h2, _⟩ := q
      exact .kTuple h1 h2
  | dic g _ =>
    cases h
    rcases hi _ _ g with q | ⟨_, o, q⟩
    · exact .base (.dK q)
    · exact .fDict q
  | _ => cases h
theorem cs_isi {tab : List (Str × Str × Bool)} (ht : XTab k tab) : CaS k (rIsA k.K) (isiD tab) := fun G H xs ds d hi px hd Q q => by
  unfold isiD at hd
  split at hd
  · rename_i d0 c
    simp only [Option.bind_eq_some_iff, Option.map_eq_some_iff] at hd
    obtain ⟨n, h1, b, h2, rfl⟩ := hd
    obtain ⟨v, w, rfl, p1, p2⟩ := rpa_two px
    cases p2
    exact .inl ⟨v, .ty c, .type n, .type c, b, rfl, by constructor, tyX_of hi p1 h1, kit_ty h2, q _ G H (Up.refl hi) (.bl _)⟩
  · rename_i C B
    simp only [Option.map_eq_some_iff] at hd
    obtain ⟨b, h1, rfl⟩ := hd
    obtain ⟨v, w, rfl, p1, p2⟩ := rpa_two px
    unfold lookX at h1
    simp only [Option.map_eq_some_iff] at h1
    obtain ⟨p, hp, rfl⟩ := h1
    have hm := List.mem_of_find?_eq_some hp
    have he := List.find?_some hp
    obtain ⟨e1, e2⟩ := of_decide_eq_true he
    obtain ⟨t1, t2⟩ := ht p hm
    cases p2
    cases p1 with
    | exc g =>
      rw [e1] at t1 t2
      rw [e2] at t2
      exact .inr (.inl ⟨_, k.ca C, .ref (k.ca B), .ref (k.ca B), p.2.2, rfl, hi.ex g rfl, t1, fun u r => r, t2, q _ G H (Up.refl hi) (.bl _)⟩)
    | excF _ _ _ h => exact absurd rfl h
  · split at hd
    · rename_i C f fs B e
      subst e
      cases hd
      obtain ⟨v, w, rfl, p1, p2⟩ := rpa_two px
      cases p2
      cases p1 with
      | excF g _ _ _ => exact .inr (.inr ⟨_, _, _, rfl, hi.ex g rfl, q _ G H (Up.refl hi) (.bl _)⟩)
    · cases hd
  · cases hd
def shw (p : PyData) : List Nat := p.shown.cps.toList
end
end Y

namespace Y
open PySem PySem.Spec PyProof.Rows L2 Z
def tLockP (te : TE) : TE := fun σ H Q => te σ H fun x H1 => (∃ d kvs, x = .ref d ∧ H1 d = some (.dK kvs) ∧ ∀ o, Q x (upd H1 d (.frz o (.dK kvs)))) ∨ Q x H1
theorem pe_lockP {X : Cx} {e : Expr} {te : TE} (he : PE X e te) : PE X e (tLockP te) := by
  refine ⟨fun pins s σ H Q I h => ?_⟩
  refine thn (he.run pins s σ H _ I h) fun u s1 ⟨x, H1, I1, rx, q⟩ => ?_
  rcases q with ⟨d, kvs, rfl, hd, q⟩ | q
  · obtain ⟨o, I2⟩ := I1.lock hd trivial
    exact ⟨_, _, I2, rx, q o⟩
  · exact ⟨x, H1, I1, rx, q⟩
def iAnyD (K : PySem.W.Frag) (te : TE) : TI := fun σ H P => tLockP te σ H fun x H1 => (∃ a, x = .ref a ∧ (∃ xs, SqL K H1 a xs) ∧ P (Itl K a) H1) ∨ (∃ a, x = .ref a ∧ (∃ xs, SqT K H1 a xs) ∧ P (Itt K a) H1) ∨ (∃ z, x = .str z ∧ P (Its z) H1) ∨ ∃ d o kvs, x = .ref d ∧ H1 d = some (.frz o (.dK kvs)) ∧ P (Itk d o kvs) H1
theorem pi_anyD {X : Cx} {tg e : Expr} {te : TE} (he : PE X e te) : PI X tg e (iAnyD X.K te) := by
  refine ⟨fun pins s σ H R I h => ?_⟩
  refine thn ((pe_lockP he).run pins s σ H _ I h) fun v s1 ⟨x, H1, I1, r1, q1⟩ => ?_
  rcases q1 with ⟨a, e, ⟨xs, hq⟩, q⟩ | ⟨a, e, ⟨xs, hq⟩, q⟩ | ⟨z, e, q⟩ | ⟨d, o, kvs, e, hd, q⟩
  · subst e
    cases r1
    obtain ⟨its, rv, p, hz⟩ := I1.list hq
    exact wpAny_pyIter_list p.isList (pi_one (tk := s1.toks) I1 _ (turn_list a _) ⟨_, Heap.get?_push_size _ rfl, rfl, rfl⟩ q)
  · subst e
    cases r1
    obtain ⟨its, rv, p, hz⟩ := I1.tuple hq
    exact wpAny_pyIter_tuple (show s1.heap.IsTuple a its.toArray from p) (pi_one (tk := s1.toks) I1 _ (turn_tuple a _) ⟨_, Heap.get?_push_size _ rfl, rfl, rfl⟩ q)
  · subst e
    obtain ⟨t, rfl⟩ := r1
    cases ha : z.cps.all (· < 128)
    · exact wpAny_pyIter_wide ha (pi_one (tk := s1.toks) I1 _ (turn_str _ z t "str_iterator" (.inr rfl)) ⟨_, Heap.get?_push_size _ rfl, rfl, rfl⟩ q)
    · exact wpAny_pyIter_ascii ha (pi_one (tk := s1.toks) I1 _ (turn_str _ z t "str_ascii_iterator" (.inl rfl)) ⟨_, Heap.get?_push_size _ rfl, rfl, rfl⟩ q)
  · subst e
    obtain rfl : v = Value.ref d := r1
    obtain ⟨hs, hgd, hx, es, ep, vs, hdt, hsz, kv, hm⟩ := I1.frzK hd
    refine iter_keys hs hgd hx hdt (pi_one (tk := s1.toks) I1 _ (turn_keys _ hdt) ⟨_, Heap.get?_push_size _ rfl, rfl, ?_⟩ q)
    rw [hsz] <;> rfl
section
variable {k : Kx} {E : XK} {R : Hp} {dr : Dr} {env : Env} {σ : L2.St} {G G2 H H2 : Hp} {n n' : Nat} {te td : TE} {fe fd : Env → M Vl}
theorem Rl.pin {d : Addr} {kvs : List (Key × V)} {ob : Obj} (r : Rl k R dr env σ G H n) (hg : G d = some (.dK kvs)) (hh : H d = some (.frz ob (.dK kvs))) : Rl k (upd R d (.frz ob (.dK kvs))) dr env σ G H n ∧ Le R (upd R d (.frz ob (.dK kvs))) := by
  have nd : ¬ inDr dr d := fun z => by rw [r.dh d z] at hg; cases hg
  refine ⟨⟨r.i, r.nt, r.tb, r.dd, r.dh, r.dj, fun b u e => ?_, r.sh, fun i d' e => ?_, r.inj, r.len, r.nb, r.so⟩, fun b u e => ?_⟩
  · by_cases hb : b = d
    · subst hb; rw [upd_same] at e; cases e
      exact ⟨hh, fun z => (by cases z), nd, fun ps z => (by cases z)⟩
    · rw [upd_ne hb] at e; exact r.rs b u e
  · obtain ⟨b, e1, u, e2, e3, e4⟩ := r.ow i d' e
    have nb : b ≠ d := fun z => by rw [z] at e4; rw [e4.g] at hg; cases hg
    exact ⟨b, e1, u, e2, e3, e4.g, by rw [upd_ne nb]; exact e4.r, e4.d⟩
  · by_cases hb : b = d
    · subst hb
      have := (r.rs b u e).1
      rw [hh] at this; cases this
      exact upd_same
    · rw [upd_ne hb]; exact e
def keyOf : Ky → D
  | .inl i => .int i
  | .inr w => .str w
theorem rp_key (q : Ky) : Rp k G (kV (kk q)) (keyOf q) := by
  cases q with
  | inl i => exact .int i
  | inr w => exact .str w
theorem RpD.at : ∀ {kvs : List (Key × V)} {es : List (Ky × D)} {i : Nat} {q : Ky} {d : D}, RpD k G kvs es → es[i]? = some (q, d) → ∃ v, kvs[i]? = some (kk q, v) ∧ Rp k G v d
  | _, _, _, _, _, .nil, e => by simp at e
  | _, _, 0, _, _, .cons h _, e => by simp at e; obtain ⟨rfl, rfl⟩ := e; exact ⟨_, rfl, h⟩
  | _, _, i + 1, _, _, .cons _ a, e => by
    obtain ⟨v, h1, h2⟩ := RpD.at (i := i) a (by simpa using e)
    exact ⟨v, by simpa using h1, h2⟩
theorem wk_keys {d : Addr} {o : Obj} {kvs : List (Key × V)} {es : List (Ky × D)} (hR : R d = some (.frz o (.dK kvs))) (r : RpD k G kvs es) : Wk k R (Itk d o kvs) G (es.map fun e => keyOf e.1) := fun G' H' l i pin => by
  have e := pin d _ hR
  refine ⟨⟨e, by rw [r.len, List.length_map]; exact Nat.le_refl _⟩, fun j x hx => ?_⟩
  rw [List.getElem?_map] at hx
  cases hz : es[j]? with
  | none => rw [hz] at hx; cases hx
  | some p =>
    rw [hz] at hx; cases hx
    obtain ⟨q, d'⟩ := p
    obtain ⟨v, g1, g2⟩ := r.at hz
    have hj : j < kvs.length := (List.getElem?_eq_some_iff.mp g1).1
    refine ⟨⟨e, hj⟩, fun x H2 y => ?_⟩
    obtain ⟨rfl, k', v', e1, rfl⟩ := y
    rw [g1] at e1; cases e1
    exact ⟨G', Up.refl i, rp_key q⟩
def itA : D → Option (List D)
  | .dic es => some (es.map fun e => keyOf e.1)
  | d => itD d
def eItA (fe : Env → M Vl) : Env → M (List D) := fun env => (fe env).bind fun x => if isV x then .bad else M.of (itA x.2)
theorem lock_at (r : Rl k R dr env σ G H n) {a : Addr} {kvs : List (Key × V)} (hg : G a = some (.dK kvs)) (P : VK) (h : ∀ o Rx H2, Le R Rx → Rx a = some (.frz o (.dK kvs)) → H2 a = some (.frz o (.dK kvs)) → Rl k Rx dr env σ G H2 n → P (.ref a) H2) : (∃ d kvs, V.ref a = .ref d ∧ H d = some (.dK kvs) ∧ ∀ o, P (.ref a) (upd H d (.frz o (.dK kvs)))) ∨ P (.ref a) H := by
  rcases r.i a _ hg with z | ⟨_, o, z⟩
  · refine .inl ⟨a, kvs, rfl, z, fun o => ?_⟩
    obtain ⟨r2, l2⟩ := r.lock (ob := o) hg z
    exact h o _ _ l2 upd_same upd_same r2
  · refine .inr ?_
    obtain ⟨r2, l2⟩ := r.pin hg z
    exact h o _ _ l2 upd_same z r2
theorem si_anyD (he : SE k E te fe) : SI k E (iAnyD k.K te) (eItA fe) := fun R dr env σ G H n P rl w => by
  refine he.run rl (wp_bind' w) (fun _ _ _ h => h) fun dr n1 v x G1 H1 w1 l1 r1 s1 => ?_
  cases hv : isV v with
  | true => rw [hv, if_pos rfl] at w1; exact w1.elim
  | false =>
    rw [hv, if_neg (by simp)] at w1
    have p := rs_s hv s1
    obtain ⟨ds, e, w2⟩ := wp_of.mp w1
    obtain ⟨m, d⟩ := v
    cases d <;> try (simp [itA, itD] at e; done)
    · simp only [itA, itD, Option.some.injEq] at e
      subst e
      exact .inr (.inr (.inr (.inl ⟨_, rp_str p, w2 _ R G1 H1 (Le.refl _) l1 r1 (wk_of rfl (pys_chars _) wk_str)⟩)))
    · simp only [itA, itD, Option.some.injEq] at e
      subst e
      obtain ⟨a, xs, rfl, h1, h2⟩ := rp_lst p
      exact .inr (.inl ⟨a, rfl, ⟨xs, .inl (.inl (r1.i.ex h1 rfl))⟩, w2 _ R G1 H1 (Le.refl _) l1 r1 (wk_lst h1 h2)⟩)
    · simp only [itA, itD, Option.some.injEq] at e
      subst e
      obtain ⟨a, xs, rfl, h1, h2⟩ := rp_tup p
      exact .inr (.inr (.inl ⟨a, rfl, ⟨xs, in_t r1.i h1⟩, w2 _ R G1 H1 (Le.refl _) l1 r1 (wk_tup h1 h2)⟩))
    · simp only [itA, Option.some.injEq] at e
      subst e
      obtain ⟨a, xs, rfl, h1, h2⟩ := rp_dic p
      exact lock_at r1 h1 (fun x H1 => (∃ a, x = .ref a ∧ (∃ xs, SqL k.K H1 a xs) ∧ P (Itl k.K a) H1) ∨ (∃ a, x = .ref a ∧ (∃ xs, SqT k.K H1 a xs) ∧ P (Itt k.K a) H1) ∨ (∃ z, x = .str z ∧ P (Its z) H1) ∨ ∃ d o kvs, x = .ref d ∧ H1 d = some (.frz o (.dK kvs)) ∧ P (Itk d o kvs) H1) fun o Rx H2 lx hR hH r2 => .inr (.inr (.inr ⟨a, o, xs, rfl, hH, w2 _ Rx G1 H2 lx l1 r2 (wk_keys hR h2)⟩))
def itemsD : D → Option (List D)
  | .dic es => some (es.map fun e => .tup [keyOf e.1, e.2])
  | _ => none
def rListD' : List V → Hp → VK → Prop := fun xs H Q => ∃ (a : Addr) (kvs : List (Key × V)), xs = [.ref a] ∧ Rd H a (.dK kvs) ∧ ∀ p, H p = none → Q (.ref p) (upd H p (.lst (kvs.map fun kv => kV kv.1)))
def qListA (K : PySem.W.Frag) : List V → Hp → VK → Prop := fun xs H Q => qList K xs H Q ∨ rListD' xs H Q
theorem cr_listA {X : Cx} (hc : X.calm = true) : CallR X (.type "list") (qListA X.K) := CallR.or (cr_list hc) (call_listD hc)
def listA : List D → Option D
  | [.dic es] => some (.lst (es.map fun e => keyOf e.1))
  | ds => listD ds
theorem keys_rpa : ∀ {kvs : List (Key × V)} {es : List (Ky × D)}, RpD k G kvs es → RpA k G (kvs.map fun kv => kV kv.1) (es.map fun e => keyOf e.1)
  | _, _, .nil => .nil
  | _, _, .cons _ a => .cons (rp_key _) (keys_rpa a)
theorem co_listA : CaO k (qListA k.K) listA := fun G H xs ds d hi px hd Q q => by
  unfold listA at hd
  split at hd
  · cases hd
    obtain ⟨v, rfl, p⟩ := rpa_one px
    obtain ⟨a, vs, rfl, h1, h2⟩ := rp_dic p
    exact .inr ⟨a, vs, rfl, hi.rd h1, fun l hl => q l _ hl (.lst (keys_rpa h2))⟩
  · exact .inl (co_list G H xs ds d hi px hd Q q)
def eDNew : Env → M Vl := fun _ => .ok (.o, .dic [])
theorem se_dnew : SE k E tDNewK eDNew := fun R dr env σ G H n Q r w p hp => w _ G _ (Le.refl _) (r.new hp) ⟨p, rfl, (r.newO hp (.dic .nil)).1, (r.newO hp (.dic .nil)).2⟩
def ePairs : List ((Env → M Vl) × (Env → M Vl)) → Env → M (List (Ky × D))
  | [], _ => .ok []
  | (fk, fv) :: fs, env => (fk env).bind fun x => (M.of (keyD x.2)).bind fun q => (fv env).bind fun y => if isV y then .bad else (ePairs fs env).bind fun es => .ok ((q, y.2) :: es)
inductive SPs (k : Kx) (E : XK) : List (TE × TE) → List ((Env → M Vl) × (Env → M Vl)) → Prop
  | nil : SPs k E [] []
  | cons {tk tv : TE} {fk fv : Env → M Vl} {ts : List (TE × TE)} {fs : List ((Env → M Vl) × (Env → M Vl))} : SE k E tk fk → SE k E tv fv → SPs k E ts fs → SPs k E ((tk, tv) :: ts) ((fk, fv) :: fs)
def mrgD (es : List (Ky × D)) : List (Ky × D) := es.foldl (fun acc e => putD acc e.1 e.2) []
theorem pairs_run {ts : List (TE × TE)} {fs : List ((Env → M Vl) × (Env → M Vl))} (h : SPs k E ts fs) : ∀ {R : Hp} {dr : Dr} {env : Env} {σ : L2.St} {G H : Hp} {n : Nat} {Q : List (V × V) → Hp → Prop}, Rl k R dr env σ G H n →
    wp dr n (ePairs fs env) (fun dr n es => ∀ kvs G2 H2, Le G G2 → Rl k R dr env σ G2 H2 n → RpD k G2 kvs es → Q (kvs.map fun e => (kV e.1, e.2)) H2) (XP k R G E) → tPairs ts σ H Q := by
  induction h with
  | nil => intro R dr env σ G H n Q r w; exact w [] G H (Le.refl _) r .nil
  | cons hk hv _ ih =>
    intro R dr env σ G H n Q r w
    refine hk.run r (wp_bind' w) (fun _ _ _ h => h) fun dr n1 v x G1 H1 w1 l1 r1 s1 => ?_
    obtain ⟨q, hq, w1⟩ := wp_of.mp (wp_bind' w1)
    refine hv.run r1 (wp_bind' w1) (fun _ _ _ h => h.mono l1) fun dr n2 v2 y G2 H2 w2 l2 r2 s2 => ?_
    cases hv2 : isV v2 with
    | true => rw [hv2, if_pos rfl] at w2; exact w2.elim
    | false =>
      rw [hv2, if_neg (by simp)] at w2
      refine ih r2 (wp_mono (wp_bind' w2) (fun dr n3 es w3 kvs G3 H3 l3 r3 p3 => ?_) fun _ _ _ h => h.mono (l1.trans l2))
      rw [rs_key r1 hq s1]
      exact w3 ((kk q, y) :: kvs) G3 H3 ((l1.trans l2).trans l3) r3 (.cons ((rs_s hv2 s2).mono l3) p3)
def eDisp (fs : List ((Env → M Vl) × (Env → M Vl))) : Env → M Vl := fun env => (ePairs fs env).bind fun es => if es.length ≤ 15 then .ok (.o, .dic (mrgD es)) else .bad
theorem RpD.merge : ∀ {kvs : List (Key × V)} {es : List (Ky × D)}, RpD k G kvs es → ∀ {k0 : List (Key × V)} {e0 : List (Ky × D)}, RpD k G k0 e0 → RpD k G (kvs.foldl (fun acc kv => putK acc kv.1 kv.2) k0) (es.foldl (fun acc e => putD acc e.1 e.2) e0)
  | _, _, .nil, _, _, h => h
  | _, _, .cons p a, _, _, h => RpD.merge a (h.put p)
theorem se_disp {ts : List (TE × TE)} {fs : List ((Env → M Vl) × (Env → M Vl))} (h : SPs k E ts fs) : SE k E (tDisp ts) (eDisp fs) := fun R dr env σ G H n Q r w p hp => by
  obtain ⟨hid, ap⟩ := r.no hp
  have r1 : Rl k (upd R p (.dK [])) dr env σ G (upd H p (.dK [])) n := (r.new hp).res upd_same (by intro ps z; cases z) hid ap
  refine pairs_run h r1 (wp_mono (wp_bind' w) (fun dr n1 es w1 kvs G1 H1 l1 r2 pe => ?_) fun _ _ _ z => XP.sub (le_upd hid.r) z)
  obtain ⟨hp2, _, _, _⟩ := r2.rs p _ upd_same
  by_cases hl : es.length ≤ 15
  · rw [if_pos hl] at w1
    refine ⟨hp2, kvs, rfl, by rw [pe.len]; exact hl, ?_⟩
    have r3 := r2.rput (o' := .dK (mergeK [] kvs)) hid.r rfl (by intro ps z; cases z) (not_code (.inr ⟨_, rfl⟩))
    obtain ⟨r4, h4, hid4, ap4⟩ := r3.unres hid.r rfl
    exact w1 _ G1 _ l1 r4 ⟨p, rfl, ⟨_, h4, .dic (pe.merge .nil), hid4⟩, ap4⟩
  · rw [if_neg hl] at w1; exact w1.elim
end
end Y

namespace Z
open PySem PySem.Spec PyProof.Rows L2
section
variable {prog : Program} {w : World} {A : Around} {E : Value → Shared → Prop} {s : Shared}
end
end Z

namespace Z
open PySem PySem.Spec PyProof.Rows L2 PySem.W
def isI (v : Value) (x : Int) : Prop := ∃ t, v = .int x t
section
variable {prog : Program} {w : World} {A : Around} {E : Value → Shared → Prop} {s : Shared} {r : Addr} {t u v : Tok} {n : Nat}
end
end Z

namespace Z
open PySem PySem.Spec PyProof.Rows L2
section
variable {P : Program} {w : World} {K : PySem.W.Frag} {mg : Str → Option Value} {base : Heap} {x qual : Str} {params : Arguments} {body : List Stmt} {scope : Scope} {dvs : List V} {kws : List (Str × V)} {f : Addr} {fd : FuncData} {C : CXT} {N ps : List Str} {k : Nat} {sp : Sp}
end
end Z

namespace Z
open PySem PySem.Spec PyProof.Rows L2
section
variable {K : PySem.W.Frag} {σ : L2.St} {G : Hp} {te : TE} {d : Addr}
end
end Z

namespace Y
open PySem PySem.Spec PyProof.Rows L2 Z
def rDIn : R2 := fun y x H Q => ∃ a o, x = .ref a ∧ DGet H a y o ∧ Q (.bl o.isSome) H
def rDNotIn : R2 := fun y x H Q => ∃ a o, x = .ref a ∧ DGet H a y o ∧ Q (.bl (!o.isSome)) H
def rDGet : R2 := fun x y H Q => ∃ a v, x = .ref a ∧ DGet H a y (some v) ∧ Q v H
section
variable {X : Cx}
theorem op_din (hu : X.A.units + 1 < cLine) : OpR X (compareOp .In) rDIn := fun pins s σ H y x u v Q I ry rx h => by
  obtain ⟨a, o, rfl, g, q⟩ := h
  obtain rfl : v = Value.ref a := rx
  exact d_in hu I g ry fun s3 I3 => ⟨.bl o.isSome, H, I3, rfl, q⟩
theorem op_dnotin (hu : X.A.units + 1 < cLine) : OpR X (compareOp .NotIn) rDNotIn := fun pins s σ H y x u v Q I ry rx h => by
  obtain ⟨a, o, rfl, g, q⟩ := h
  obtain rfl : v = Value.ref a := rx
  exact d_notIn hu I g ry fun s3 I3 => ⟨.bl (!o.isSome), H, I3, rfl, q⟩
theorem ix_dict (hu : X.A.units + 1 < cLine) : IxR X rDGet := by
  intro value slice pins s σ H x y v u Q I rx ry h hs
  obtain ⟨a, z, rfl, g, q⟩ := h
  obtain rfl : v = Value.ref a := rx
  have hT : s.TypeIs (.ref a) "dict" := dict_typeIs I g
  unfold subscriptTail
  refine wpAny_bind ?_
  rw [getitemInPython_of_ne hT.not_modules]
  refine wpAny_bind (wpAny_specialOf hT PySem.F.slot_dict_getitem.lookup ?_)
  have h2 : wpAny (model X.prog X.w) X.A (getItem (.ref a) u) (EP X pins σ Q) X.xe s := d_getItem hu I g ry fun w' s3 I3 rw' => ⟨z, H, I3, rw', q⟩
  have fin : wpAny (model X.prog X.w) X.A (subscripted slice false (.ref a) u) (fun r s₃ => wpAny (model X.prog X.w) X.A (letTemporaryGo value (.ref a) r >>= fun _ => pure r) (EP X pins σ Q) X.xe s₃) X.xe s := by
    rw [hs]
    exact wpAny_operating (wpAny_mono h2 (fun r s₃ h₃ => wpAny_bind (wpAny_letTemporaryGo (wpAny_pure h₃))) fun _ _ x => x)
  first
    | exact wpAny_pure (wpAny_bind fin)
    | exact wpAny_bind (wpAny_pure (wpAny_bind fin))
    | exact wpAny_bind fin
def qInA (K : PySem.W.Frag) : R2 := fun x y H Q => qIn K x y H Q ∨ rDIn x y H Q
def qNotInA (K : PySem.W.Frag) : R2 := fun x y H Q => qNotIn K x y H Q ∨ rDNotIn x y H Q
def qIxA (K : PySem.W.Frag) : R2 := fun x y H Q => rIx K x y H Q ∨ rDGet x y H Q
theorem or_inA (hu : X.A.units + 100 < cLine) : OpR X (compareOp .In) (qInA X.K) := or_in.or (op_din (by omega))
theorem or_notinA (hu : X.A.units + 100 < cLine) : OpR X (compareOp .NotIn) (qNotInA X.K) := or_notin.or (op_dnotin (by omega))
theorem ix_any (hu : X.A.units + 100 < cLine) : IxR X (qIxA X.K) := ix_seq.or (ix_dict (by omega))
end
section
variable {k : Kx} {E : XK} {R : Hp} {dr : Dr} {env : Env} {σ : L2.St} {G H : Hp} {n : Nat}
theorem sets_run2 {is : List Nat} {ta : TA} {fa : Env → M (List Vl)} {D : Ends} {Q : List V → Hp → Prop} (ha : SAo k E ta fa) (rl : Rl k R dr env σ G H n) (w : wp dr n (bSets is fa env) (OP k R G D) (XP k R G E)) (hq : ∀ vs H1, vs.length = is.length → (∀ p o, H1 p = none → D.nx (setsV σ is vs) (upd H1 p o)) → Q vs H1) : ta σ H Q := by
  refine ha R dr env σ G H n _ rl (wp_mono (wp_bind' w) (fun dr n1 vs w1 xs G1 H1 l1 r1 rs => ?_) fun _ _ _ h => h)
  obtain ⟨e, h1, w2⟩ := wp_of.mp (wp_bind' w1)
  obtain ⟨h2, r2⟩ := sets_ok is xs vs r1 h1 ⟨R, env, σ, rs, fun a f1 f2 => ⟨f1, f2⟩⟩
  have hl : ∀ (is : List Nat) (rs : List Vl) (env : Env), setsE env is rs = some e → rs.length = is.length := by
    intro is
    induction is with
    | nil => intro rs env h; cases rs with | nil => rfl | cons _ _ => cases h
    | cons i is ih =>
      intro rs env h
      cases rs with
      | nil => cases h
      | cons v rs =>
        obtain ⟨m, d⟩ := v
        cases m with
        | s => simp [ih rs _ h]
        | o => simp [ih rs _ h]
        | v j => cases h
  exact hq _ _ (h2.trans (hl _ _ _ h1)) fun p o hp => w2 _ G1 _ l1 (r2.new hp)
end
def inA : D → D → Option Bool
  | x, .dic es => (keyD x).map fun q => (getD es q).isSome
  | x, y => inD x y
def inAB (a b : D) : Option D := (inA a b).map .bl
def notInAB (a b : D) : Option D := (inA a b).map fun r => .bl (!r)
section
variable {k : Kx} {E : XK} {G H : Hp}
theorem os_inA : OpS k (qInA k.K) inAB := fun G H x y a b d hi px py hd Q q => by
  unfold inAB at hd
  simp only [Option.map_eq_some_iff] at hd
  obtain ⟨r, hr, rfl⟩ := hd
  cases b <;> first
    | exact .inl (os_in G H x y a _ _ hi px py (by unfold inB; rw [show inD a _ = some r from hr]; rfl) Q q)
    | skip
  rename_i es
  simp only [inA, Option.map_eq_some_iff] at hr
  obtain ⟨q0, e1, rfl⟩ := hr
  obtain ⟨p, kvs, rfl, h1, h2⟩ := rp_dic py
  refine .inr ⟨p, valV kvs (kk q0), rfl, .inl ⟨kvs, kk q0, hi.rd h1, key_kV e1 px, rfl⟩, ?_⟩
  rw [h2.isSome]
  exact q _ G H (Up.refl hi) (.bl _)
theorem os_notinA : OpS k (qNotInA k.K) notInAB := fun G H x y a b d hi px py hd Q q => by
  unfold notInAB at hd
  simp only [Option.map_eq_some_iff] at hd
  obtain ⟨r, hr, rfl⟩ := hd
  cases b <;> first
    | exact .inl (os_notin G H x y a _ _ hi px py (by unfold notInB; rw [show inD a _ = some r from hr]; rfl) Q q)
    | skip
  rename_i es
  simp only [inA, Option.map_eq_some_iff] at hr
  obtain ⟨q0, e1, rfl⟩ := hr
  obtain ⟨p, kvs, rfl, h1, h2⟩ := rp_dic py
  refine .inr ⟨p, valV kvs (kk q0), rfl, .inl ⟨kvs, kk q0, hi.rd h1, key_kV e1 px, rfl⟩, ?_⟩
  rw [h2.isSome]
  exact q _ G H (Up.refl hi) (.bl _)
theorem ix_core {R : Hp} {dr : Dr} {env : Env} {σ : L2.St} {n : Nat} {x y : V} {v v2 : Vl} {d : D} {Q : VK} (r2 : Rl k R dr env σ G H n) (s1 : RS k env σ G x v) (s2 : RS k env σ G y v2) (hd : ixD v.2 v2.2 = some d) (fin : ∀ v' G3 H3, Up G H G3 H3 → Rp k G3 v' d → Q v' H3) : rIx k.K x y H Q := by
  unfold ixD at hd
  split at hd
  · rename_i ds i e1 e2
    obtain ⟨a, vs, rfl, h1, h2⟩ := lst_view r2 e1 s1
    obtain ⟨v', g1, g2⟩ := h2.at hd
    exact .inl ⟨a, vs, i, v', rfl, rs_int r2 e2 s2, h1, g1, fin v' G H (Up.refl r2.i) g2⟩
  · rename_i ds i e1 e2
    obtain ⟨m, dd⟩ := v
    have e1 : dd = .tup ds := e1
    subst e1
    have key : Rp k G x (.tup ds) → rIx k.K x y H Q := fun p => by
      obtain ⟨a, vs, rfl, h1, h2⟩ := rp_tup p
      obtain ⟨v', g1, g2⟩ := h2.at hd
      exact .inr (.inl ⟨a, vs, i, v', rfl, rs_int r2 e2 s2, in_t r2.i h1, g1, fin v' G H (Up.refl r2.i) g2⟩)
    cases m with
    | s => exact key s1
    | o => exact key s1
    | v j =>
      obtain ⟨h1, h2⟩ := s1
      obtain ⟨a, f1, o, f2, f3, f4⟩ := r2.ow j _ h2
      cases f3
  · rename_i w' i e1 e2
    split at hd
    · rename_i hl
      simp only [Option.map_eq_some_iff] at hd
      obtain ⟨c, hc, rfl⟩ := hd
      obtain ⟨m, dd⟩ := v
      have e1 : dd = .str w' := e1
      subst e1
      have key : Rp k G x (.str w') → rIx k.K x y H Q := fun p =>
        opv_ixS (K := k.K) hl hc G H x y r2.i (by rw [rp_str p]; exact .str _) (by rw [rs_int r2 e2 s2]; exact .int _) Q fun v' G3 H3 u3 p3 => fin v' G3 H3 u3 (of_z (.str [c]) (by simp [py]) p3)
      cases m with
      | s => exact key s1
      | o => exact key s1
      | v j =>
        obtain ⟨h1, h2⟩ := s1
        obtain ⟨a, f1, o, f2, f3, f4⟩ := r2.ow j _ h2
        cases f3
    · cases hd
  · cases hd
def ixA : D → D → Option D
  | .dic es, x => (keyD x).bind fun q => getD es q
  | x, y => ixD x y
def eIxA (fa fb : Env → M Vl) : Env → M Vl := fun env => (fa env).bind fun x => (fb env).bind fun y => (M.of (ixA x.2 y.2)).bind fun d => .ok (.s, d)
theorem se_ixA {ta tb : TE} {fa fb : Env → M Vl} (ha : SE k E ta fa) (hb : SE k E tb fb) : SE k E (tOp (qIxA k.K) ta tb) (eIxA fa fb) := fun R dr env σ G H n Q rl w => by
  refine ha.run rl (wp_bind' w) (fun _ _ _ h => h) fun dr n1 v x G1 H1 w1 l1 r1 s1 => ?_
  refine hb.run r1 (wp_bind' w1) (fun _ _ _ h => h.mono l1) fun dr n2 v2 y G2 H2 w2 l2 r2 s2 => ?_
  obtain ⟨d, hd, w3⟩ := wp_of.mp (wp_bind' w2)
  by_cases hdic : ∃ es, v.2 = .dic es
  · obtain ⟨es, e1⟩ := hdic
    have hd' : (keyD v2.2).bind (fun q => getD es q) = some d := by rw [e1] at hd; exact hd
    simp only [Option.bind_eq_some_iff] at hd'
    obtain ⟨q, e2, e3⟩ := hd'
    obtain ⟨a, vs, rfl, h1, h2⟩ := dic_view r2 e1 (s1.mono l2)
    rcases h2.val (q := q) with ⟨_, z⟩ | ⟨v', d', z1, z2, z3⟩
    · rw [e3] at z; cases z
    · rw [e3] at z2; cases z2
      exact .inr ⟨a, v', rfl, .inl ⟨vs, kk q, h1, rs_key r2 e2 s2, z1.symm⟩, w3 v' G2 H2 (l1.trans l2) r2 z3⟩
  · have hd' : ixD v.2 v2.2 = some d := by
      cases hv : v.2 <;> rw [hv] at hd <;> first
        | exact hd
        | exact absurd ⟨_, hv⟩ hdic
    exact .inl (ix_core r2 (s1.mono l2) s2 hd' fun v' G3 H3 u p => by
      obtain ⟨r3, l3⟩ := r2.up u
      exact w3 v' _ H3 ((l1.trans l2).trans l3) r3 p.clean)
theorem ss_parT {i j : Nat} {ta : TA} {fa : Env → M (List Vl)} (ha : SAo k E ta fa) : SS k E (tAsg (tTup ta) (gTL k.K 2 (gCons (gName i) (gCons (gName j) gNil)))) (bSets [i, j] fa) := fun R dr env σ G H n D rl w =>
  sets_run2 ha rl w fun vs H1 hl q => match vs, hl, q with
    | [v, w], _, q => ⟨by show 2 ≤ sizeLine; decide, fun p hp => .inl ⟨p, _, rfl, .inl (.inl upd_same), rfl, _, _, rfl, _, _, rfl, rfl, q p _ hp⟩⟩
end
end Y

namespace Y
open PySem PySem.Spec PyProof.Rows L2 Z
section
variable {k : Kx} {E : XK} {G : Hp}
end
section
variable {X : Cx}
theorem pg_tl {tg : Expr} {g g' : TG} (h : PG X tg g) (h' : PG X tg g') : PG X tg (fun v σ H Q => g v σ H Q ∨ g' v σ H Q) := ⟨fun pins s σ H v u Q I r q => q.elim (h.run pins s σ H v u Q I r) (h'.run pins s σ H v u Q I r)⟩
end
end Y

namespace Y
open PySem PySem.Spec PyProof.Rows L2 Z
theorem law_sp {k : Kx} {m : List D → M Vl} {a : Addr} {ns : List Int} {H : Hp} (hT : LamX.Tabs k.T H) (hS : SqL k.K H a (ns.map .int)) (hw : wp [] 1000000000000 (m [.scr ns]) (fun _ _ r => r = (.s, .bl true)) (fun _ _ _ => False)) : spM k m [.ref a] H (fun v _ => v = .bl true) (fun _ _ _ => False) := by
  have in0 : In (clean fun b => if b = a then H a else none) H := fun b o e => by
    obtain ⟨e, _⟩ := of_clean e
    by_cases hb : b = a
    · subst hb; simp only [if_true] at e; exact .inl e
    · simp only [if_neg hb] at e; cases e
  have sq0 : SqL k.K (clean fun b => if b = a then H a else none) a (ns.map .int) := by
    rcases hS with q | q
    · rcases q with q | ⟨o, q⟩
      · exact .inl (.inl (clean_some (by simp only [if_true]; exact q) (by intro ps z; cases z)))
      · exact .inl (.inr ⟨o, clean_some (by simp only [if_true]; exact q) (by intro ps z; cases z)⟩)
    · exact .inr q
  refine ⟨fun _ => none, [], _, 1000000000000, [.scr ns], ⟨in0, clean_noT _, hT, fun q hq => (by cases hq), fun b ⟨q, hq, _⟩ => (by cases hq), .nil, fun b o e => (by cases e), fun i d e => by simp at e, fun i d e => by simp at e, fun i j b d d' e => by simp at e, Nat.le_refl _, Nat.le_refl _, fun b d hb => (by cases hb)⟩, .cons (.scr sq0) .nil, wp_mono hw (fun _ _ r e x G2 H2 _ _ rv => ?_) fun _ _ _ z => z.elim⟩
  subst e
  exact rp_bl rv
end Y

namespace Y
open PySem PySem.W
def ft (b : Bool) (f : String → Bool) (s : String) : Bool := match decide (s = "special-get-raises") with
  | true => b
  | false => f s
def updW (b : Bool) (w : World) : World := { w with params := { w.params with followText := ft b w.params.followText } }
theorem ft_eq (f : String → Bool) : ft (f "special-get-raises") f = f := by
  funext s
  unfold ft
  by_cases h : s = "special-get-raises"
  · rw [decide_eq_true h, h]
  · rw [decide_eq_false h]
theorem updW_eq (w : World) : updW (w.params.followText "special-get-raises") w = w := by
  unfold updW
  rw [ft_eq]
theorem run_updW {r : OpenRow} {q : Program} {H : Hook} {ob : SharedT → H.α} {M : Nat} {loose : List PySem.Str} (h0 : ∀ w, HandSHeadRun.RunEq r q H ob M loose (updW false w)) (h1 : ∀ w, HandSHeadRun.RunEq r q H ob M loose (updW true w)) (w : World) : HandSHeadRun.RunEq r q H ob M loose w := by
  rw [← updW_eq w]
  cases w.params.followText "special-get-raises"
  · exact h0 w
  · exact h1 w
def lq (f : PySem.Str) : PySem.Str := (f ++ ".<locals>.") ++ "<lambda>"
end Y

namespace Z
open PySem PySem.Spec PyProof.Rows L2
theorem atI_mod {l : W} {i : Int} (h : l ≠ []) : (atI l (Int.fmod i (List.length l : Int))).isSome = true := by
  have hp : 0 < l.length := List.length_pos_iff.mpr h
  have e : Int.fmod i (l.length : Int) = i % (l.length : Int) := Int.fmod_eq_emod_of_nonneg _ (by omega)
  have h0 := Int.emod_nonneg i (b := (l.length : Int)) (by omega)
  have h1 := Int.emod_lt_of_pos i (b := (l.length : Int)) (by omega)
  unfold atI ixN
  rw [e, if_pos h0, if_pos h1]
  have : (i % (l.length : Int)).toNat < l.length := by omega
  simp [this]
theorem len_ne {l : W} (h : l ≠ []) : (List.length l : Int) ≠ 0 := by
  have hp : 0 < l.length := List.length_pos_iff.mpr h
  omega
theorem word_ne {l : W} (h : wordB l = true) : l ≠ [] := by
  intro e; subst e; revert h; decide
theorem rng_mem {a lo : Int} {n : Nat} (h : a ∈ rng lo n) : lo ≤ a ∧ a < lo + n := by
  unfold rng at h
  obtain ⟨i, hi, e⟩ := List.mem_map.mp h
  have := List.mem_range.mp hi
  omega
theorem map_rng_ne {β : Type} {f : Int → β} {l : W} (h : l ≠ []) : List.map f (rng 0 (List.length l : Int).toNat) ≠ [] := by
  have hp : 0 < l.length := List.length_pos_iff.mpr h
  intro e
  have := congrArg List.length e
  rw [List.length_map, rng_len, List.length_nil] at this
  omega
theorem ne_of_rng {l : W} {a : Int} (h : a ∈ rng 0 (List.length l : Int).toNat) : l ≠ [] := by
  intro e
  subst e
  have := rng_mem h
  simp at this
  omega
theorem fdiv_le {n k : Int} (h0 : 0 ≤ n) (h : 1 ≤ k) : 0 ≤ Int.fdiv n k ∧ Int.fdiv n k ≤ n := by
  rw [Int.fdiv_eq_ediv_of_nonneg _ (by omega)]
  exact ⟨Int.ediv_nonneg h0 (by omega), Int.ediv_le_self _ h0⟩
theorem fdiv_bd {l : W} {k : Int} (h : List.length l ≤ 2000) (hk : 1 ≤ k) : -1000000 ≤ Int.fdiv (List.length l : Int) k ∧ Int.fdiv (List.length l : Int) k ≤ 1000000 := by
  have := fdiv_le (n := (List.length l : Int)) (k := k) (by omega) hk
  omega
theorem fdiv_mul {l : W} {a b : Option Int} {k : Int} (h : List.length l ≤ 2000) (hk : 1 ≤ k) : (cutL l a b).length * (Int.fdiv (List.length l : Int) k).toNat ≤ 10000000 := by
  have h1 := fdiv_le (n := (List.length l : Int)) (k := k) (by omega) hk
  have h2 := cutL_le l a b
  have h3 : (Int.fdiv (List.length l : Int) k).toNat ≤ 2000 := by omega
  exact Nat.le_trans (Nat.mul_le_mul (Nat.le_trans h2 h) h3) (by decide)
local macro_rules | `(tactic| walk_at "sd") => `(tactic| (first | assumption | omega | (simp only [rng_len, List.length_map]; omega) | (exact Nat.le_trans (cutL_le _ _ _) (by omega)) | (exact Nat.le_trans (Nat.add_le_add (cutL_le _ _ _) (cutL_le _ _ _)) (by omega)) | (exact len_ne (by assumption)) | (exact atI_mod (by assumption)) | (exact trivial) | (have hm := rng_mem (by assumption); omega) | (have hm := rng_mem (by assumption); refine ⟨by omega, by omega⟩) | (have hm := rng_mem (by assumption); exact fdiv_bd (by omega) (by omega)) | (have hm := rng_mem (by assumption); exact fdiv_mul (by omega) (by omega)) | (exact word_ne (by assumption)) | (exact map_rng_ne (by assumption)) | (exact (rng_mem (by assumption)).1) | (exact ne_of_rng (by assumption))))

-- places_of
-- occurrences
-- stretches
-- borders_of
-- borders
-- turn_of
-- least_turn
-- ring_of
-- read_on
-- ring_stretches
-- root_of
-- root
-- ring_places
end Z

namespace Z
open PySem PySem.Spec PyProof.Rows L2
abbrev kS (l : W) : Key := Sum.inr (S l)
end Z

namespace Z
open PySem PySem.Spec PyProof.Rows L2
end Z

namespace Z
open PySem PySem.Spec PyProof.Rows
section
variable {prog : Program} {w : World} {A : Around} {E : Value → Shared → Prop} {s : Shared} {z TI TO T i1 i2 : Addr} {fp1 fp2 : List Addr} {n1 n2 i : Nat} {P1 P2 : Nat → Value → Prop} {St1 St2 : Nat → Heap → Prop} {f : Bool} {oT : Obj}
end
end Z

namespace Y
open PySem PySem.Spec PyProof.Rows L2 Z
section
variable {X : Cx}
end
end Y

namespace Y
open PySem PySem.Spec PyProof.Rows L2 Z
def scalO : D → Bool
  | .lst ds => ds.all scal
  | .dic es => es.all fun e => scal e.2
  | _ => false
def eCOV (g : List D → Option D) (fa : Env → M (List Vl)) : Env → M Vl := fun env => (fa env).bind fun xs => (M.of (g (dats xs))).bind fun d => if !(xs.any isV) || scalO d then .ok (.o, d) else .bad
section
variable {k : Kx} {E : XK} {R : Hp} {dr : Dr} {env : Env} {σ : L2.St} {G G2 H H2 : Hp} {n n' : Nat} {Q : VK}
theorem rpA_scal : ∀ {xs : List V} {ds : List D}, ds.all scal = true → RpA k G xs ds → RpA k G2 xs ds
  | _, _, _, .nil => .nil
  | _, _, h, .cons a b => by
    simp only [List.all_cons, Bool.and_eq_true] at h
    exact .cons (rp_scal h.1 a) (rpA_scal h.2 b)
theorem rpD_scal : ∀ {xs : List (Key × V)} {ds : List (Ky × D)}, (ds.all fun e => scal e.2) = true → RpD k G xs ds → RpD k G2 xs ds
  | _, _, _, .nil => .nil
  | _, _, h, .cons a b => by
    simp only [List.all_cons, Bool.and_eq_true] at h
    exact .cons (rp_scal h.1 a) (rpD_scal h.2 b)
theorem rpO_scal {o : HO} {d : D} (h : scalO d = true) (r : RpO k G o d) : RpO k G2 o d := by
  cases r with
  | lst a => exact .lst (rpA_scal h a)
  | dic a => exact .dic (rpD_scal h a)
  | ins a => cases h
theorem se_cov {r : List V → Hp → VK → Prop} {g : List D → Option D} {tr : TA} {fr : Env → M (List Vl)} (ho : CaO k r g) (hr : SA k E tr fr) : SE k E (tCB r tr) (eCOV g fr) := fun R dr env σ G H n Q rl w => by
  refine hr R dr env σ G H n _ rl (wp_mono (wp_bind' w) (fun dr n1 vs w1 xs G1 H1 l1 r1 s1 => ?_) fun _ _ _ h => h)
  obtain ⟨d, hd, w3⟩ := wp_of.mp (wp_bind' w1)
  by_cases hc : (!(vs.any isV) || scalO d) = true
  · rw [if_pos hc] at w3
    by_cases hv : vs.any isV = true
    · have hs : scalO d = true := by simpa [hv] using hc
      obtain ⟨G', l, i, _, q1, q2⟩ := r1.revealA
      refine ho G' H1 xs _ d i (q2 xs vs s1) hd Q fun p o hp ro => ?_
      have ro := rpO_scal (G2 := G1) hs ro
      exact w3 _ G1 _ l1 (r1.new hp) ⟨p, rfl, (r1.newO hp ro).1, (r1.newO hp ro).2⟩
    · refine ho G1 H1 xs _ d r1.i (rss_s (by simpa using hv) s1) hd Q fun p o hp ro => ?_
      exact w3 _ G1 _ l1 (r1.new hp) ⟨p, rfl, (r1.newO hp ro).1, (r1.newO hp ro).2⟩
  · rw [if_neg hc] at w3; exact w3.elim
end
end Y

namespace Y
open PySem PySem.Spec PyProof.Rows L2 Z
def Sub (a b : Dr) : Prop := ∀ i ∈ a, i ∈ b
theorem Sub.refl (a : Dr) : Sub a a := fun _ h => h
theorem Sub.trans {a b c : Dr} (h : Sub a b) (g : Sub b c) : Sub a c := fun i hi => g i (h i hi)
structure Dn {α : Type} (q : Tk) (c : Nat) (m : M α) (P : α → Prop) : Prop where
  run : ∀ dr n, .inl q ∈ dr → c ≤ n → wp dr n m (fun dr' n' a => Sub dr dr' ∧ n ≤ n' + c ∧ P a) (fun _ _ _ => False)
section
variable {α β : Type} {q : Tk} {c c' : Nat} {m : M α} {P P' : α → Prop} {R : β → Prop} {f : α → M β}
theorem Dn.ok {a : α} (h : P a) : Dn q c (.ok a) P := ⟨fun dr n _ _ => ⟨Sub.refl _, Nat.le_add_right _ _, h⟩⟩
theorem Dn.mono (h : Dn q c m P) (hp : ∀ a, P a → P' a) : Dn q c m P' := ⟨fun dr n hq hc => wp_mono (h.run dr n hq hc) (fun _ _ _ ⟨a, b, d⟩ => ⟨a, b, hp _ d⟩) fun _ _ _ e => e⟩
theorem Dn.le (h : Dn q c m P) (hc : c ≤ c') : Dn q c' m P := ⟨fun dr n hq hn => wp_mono (h.run dr n hq (Nat.le_trans hc hn)) (fun _ _ _ ⟨a, b, d⟩ => ⟨a, by omega, d⟩) fun _ _ _ e => e⟩
theorem Dn.bind {c1 c2 : Nat} (h : Dn q c1 m P) (hf : ∀ a, P a → Dn q c2 (f a) R) : Dn q (c1 + c2) (m.bind f) R := ⟨fun dr n hq hc => by
  refine wp_bind.mpr (wp_mono (h.run dr n hq (by omega)) (fun dr' n' a ⟨e, b, d⟩ => ?_) fun _ _ _ e => e)
  exact wp_mono ((hf a d).run dr' n' (e _ hq) (by omega)) (fun _ _ _ ⟨a, b, d⟩ => ⟨e.trans a, by omega, d⟩) fun _ _ _ e => e⟩
theorem Dn.take {t : Int} {k : Int → M α} (h0 : 0 < t) (h1 : t < 1000000000) (h : ∀ i, 0 ≤ i → i < t → Dn q c (k i) P) : Dn q (c + 1) (.take q t k) P := ⟨fun dr n hq hc => by
  cases n with
  | zero => omega
  | succ n => exact ⟨hq, h0, h1, n, rfl, fun i a b => wp_mono ((h i a b).run dr n hq (by omega)) (fun _ _ _ ⟨a, b, d⟩ => ⟨a, by omega, d⟩) fun _ _ _ e => e⟩⟩
theorem Dn.nox (h : Dn q c m P) : Dn q c m.nox P := ⟨fun dr n hq hc => wp_nox.mpr (wp_mono (h.run dr n hq hc) (fun _ _ _ x => x) fun _ _ _ e => e)⟩
theorem Dn.tk {t : Int} {f : Vl → M α} (h0 : 0 < t) (h1 : t < 1000000000) (h : ∀ i, 0 ≤ i → i < t → Dn q c (f (.s, .int i)) P) : Dn q (c + 1) ((m_take [.drw q, .int t]).bind f) P := Dn.take h0 h1 h
theorem dn_beg {ns : List Int} {f : Vl → M α} (hl : ns.length ≤ 1000) (h : ∀ q, Dn q c (f (.s, .drw q)) P) {dr : Dr} {n : Nat} (hc : c ≤ n) : wp dr n ((m_begun [.scr ns]).bind f) (fun _ n' a => n ≤ n' + c ∧ P a) (fun _ _ _ => False) := by
  show wp dr n ((if ns.length ≤ 1000 then M.beg fun q => M.ok (Md.s, D.drw q) else M.bad).bind f) _ _
  rw [if_pos hl]
  exact fun q => wp_mono ((h q).run (.inl q :: dr) n (List.mem_cons_self ..) hc) (fun _ _ _ ⟨_, b, d⟩ => ⟨b, d⟩) fun _ _ _ e => e
theorem atI_some {α : Type} {xs : List α} {i : Int} (h0 : 0 ≤ i) (h1 : i < xs.length) : ∃ d, atI xs i = some d ∧ d ∈ xs := by
  obtain ⟨k, rfl⟩ : ∃ k : Nat, i = (k : Int) := ⟨i.toNat, by omega⟩
  have hk : k < xs.length := by omega
  refine ⟨xs[k], ?_, List.getElem_mem hk⟩
  unfold atI ixN
  simp [hk]
theorem Dn.pure {a : α} (e : m = .ok a) (h : P a) : Dn q c m P := e ▸ Dn.ok h
end
section
variable {α : Type} {q : Tk} {c : Nat} {tg : D → Env → Option Env} {fb : Env → M Out} {I : Env → Prop}
theorem Dn.forGo (F : α → D) : ∀ (xs : List α) (env : Env), I env → (∀ x ∈ xs, ∀ e, I e → ∃ e1, tg (F x) e = some e1 ∧ Dn q c (fb e1) fun o => ∃ e2, o = .nx e2 ∧ I e2) → Dn q (xs.length * c) (forGo tg fb (xs.map F) env) fun o => ∃ e, o = .nx e ∧ I e
  | [], env, h, _ => Dn.ok ⟨env, rfl, h⟩
  | x :: xs, env, h, hb => by
    obtain ⟨e1, e, d⟩ := hb x (List.mem_cons_self ..) env h
    have := Dn.bind (c2 := xs.length * c) (f := fun o => match o with | .nx e => Y.forGo tg fb (xs.map F) e | .ct e => Y.forGo tg fb (xs.map F) e | .bk e => .ok (.nx e) | .rt v => .ok (.rt v)) d (R := fun o => ∃ e, o = .nx e ∧ I e) (fun o ho => by
      obtain ⟨e2, rfl, i2⟩ := ho
      exact Dn.forGo F xs e2 i2 fun y hy => hb y (List.mem_cons_of_mem _ hy))
    have e' : Y.forGo tg fb ((x :: xs).map F) env = (fb e1).bind fun o => match o with | .nx e => Y.forGo tg fb (xs.map F) e | .ct e => Y.forGo tg fb (xs.map F) e | .bk e => .ok (.nx e) | .rt v => .ok (.rt v) := by
      show (M.of (tg (F x) env)).bind _ = _
      rw [e]
      rfl
    rw [e']
    exact this.le (by simp only [List.length_cons, Nat.add_mul]; omega)
variable {ft : Env → M Bool} {fe : Env → M Vl} {env : Env} {P : D → Prop}
theorem Dn.lcGo (F : α → D) : ∀ (xs : List α), (∀ x ∈ xs, ∃ e1, tg (F x) env = some e1 ∧ ft e1 = .ok true ∧ Dn q c (fe e1) fun r => isV r = false ∧ P r.2) → Dn q (xs.length * c) (lcGo tg ft fe env (xs.map F)) fun rs => rs.length = xs.length ∧ ∀ r ∈ rs, P r
  | [], _ => Dn.ok ⟨rfl, fun r h => nomatch h⟩
  | x :: xs, hb => by
    obtain ⟨e1, e, e2, d⟩ := hb x (List.mem_cons_self ..)
    have ih := Dn.lcGo F xs fun y hy => hb y (List.mem_cons_of_mem _ hy)
    have e' : Y.lcGo tg ft fe env ((x :: xs).map F) = (fe e1).bind fun r => if isV r then .bad else (Y.lcGo tg ft fe env (xs.map F)).bind fun rs => .ok (r.2 :: rs) := by
      simp only [List.map_cons, Y.lcGo, e, e2, of_some, ok_bind, if_true]
    rw [e']
    refine (Dn.bind (c2 := xs.length * c + 0) d fun r ⟨h1, h2⟩ => ?_).le (by simp only [List.length_cons, Nat.add_mul]; omega)
    rw [h1]
    refine Dn.bind ih fun rs ⟨h3, h4⟩ => Dn.ok ⟨by simp [h3], fun z hz => ?_⟩
    rcases List.mem_cons.mp hz with rfl | hz
    · exact h2
    · exact h4 z hz
theorem lc_ok (F g : α → D) (e1 : α → Env) (p : α → Bool) : ∀ (xs : List α), (∀ x ∈ xs, tg (F x) env = some (e1 x) ∧ ft (e1 x) = .ok (p x) ∧ (p x = true → ∃ md, fe (e1 x) = .ok (md, g x) ∧ isV (md, g x) = false)) → lcGo tg ft fe env (xs.map F) = .ok ((xs.filter p).map g)
  | [], _ => rfl
  | x :: xs, h => by
    obtain ⟨h1, h2, h3⟩ := h x (List.mem_cons_self ..)
    have ih := lc_ok F g e1 p xs fun y hy => h y (List.mem_cons_of_mem _ hy)
    simp only [List.map_cons, Y.lcGo, h1, h2, of_some, ok_bind]
    cases hp : p x with
    | false => simp only [Bool.false_eq_true, if_false, ih, List.filter_cons, hp]
    | true =>
      obtain ⟨md, h4, h5⟩ := h3 hp
      simp only [if_true, h4, ok_bind, h5, Bool.false_eq_true, if_false, ih, List.filter_cons, hp, List.map_cons]
theorem lc_map (F g : α → D) (e1 : α → Env) (xs : List α) (h : ∀ x ∈ xs, tg (F x) env = some (e1 x) ∧ ft (e1 x) = .ok true ∧ ∃ md, fe (e1 x) = .ok (md, g x) ∧ isV (md, g x) = false) : lcGo tg ft fe env (xs.map F) = .ok (xs.map g) := by
  have := lc_ok (tg := tg) (ft := ft) (fe := fe) (env := env) F g e1 (fun _ => true) xs fun x hx => ⟨(h x hx).1, (h x hx).2.1, fun _ => (h x hx).2.2⟩
  rw [this, List.filter_eq_self.mpr fun _ _ => rfl]
end
@[simp] theorem strsOf_mapf {α : Type} (g : α → List Nat) (xs : List α) : strsOf (xs.map fun x => .str (g x)) = some (xs.map g) := by
  induction xs with
  | nil => rfl
  | cons x xs ih => simp [strsOf, ih]
@[simp] theorem intsOf_mapf {α : Type} (g : α → Int) (xs : List α) : intsOf (xs.map fun x => .int (g x)) = some (xs.map g) := by
  induction xs with
  | nil => rfl
  | cons x xs ih => simp [intsOf, ih]
@[simp] theorem blsOf_mapf {α : Type} (g : α → Bool) (xs : List α) : blsOf (xs.map fun x => .bl (g x)) = some (xs.map g) := by
  induction xs with
  | nil => rfl
  | cons x xs ih => simp [blsOf, ih]
@[simp] theorem kb_NoneType_int : kitB "NoneType" "int" = some false := by decide +kernel
@[simp] theorem kb_NoneType_bool : kitB "NoneType" "bool" = some false := by decide +kernel
@[simp] theorem kb_NoneType_str : kitB "NoneType" "str" = some false := by decide +kernel
@[simp] theorem kb_NoneType_list : kitB "NoneType" "list" = some false := by decide +kernel
@[simp] theorem kb_NoneType_tuple : kitB "NoneType" "tuple" = some false := by decide +kernel
@[simp] theorem kb_NoneType_dict : kitB "NoneType" "dict" = some false := by decide +kernel
@[simp] theorem kb_bool_int : kitB "bool" "int" = some true := by decide +kernel
@[simp] theorem kb_bool_bool : kitB "bool" "bool" = some true := by decide +kernel
@[simp] theorem kb_bool_str : kitB "bool" "str" = some false := by decide +kernel
@[simp] theorem kb_bool_list : kitB "bool" "list" = some false := by decide +kernel
@[simp] theorem kb_bool_tuple : kitB "bool" "tuple" = some false := by decide +kernel
@[simp] theorem kb_bool_dict : kitB "bool" "dict" = some false := by decide +kernel
@[simp] theorem kb_int_int : kitB "int" "int" = some true := by decide +kernel
@[simp] theorem kb_int_bool : kitB "int" "bool" = some false := by decide +kernel
@[simp] theorem kb_int_str : kitB "int" "str" = some false := by decide +kernel
@[simp] theorem kb_int_list : kitB "int" "list" = some false := by decide +kernel
@[simp] theorem kb_int_tuple : kitB "int" "tuple" = some false := by decide +kernel
@[simp] theorem kb_int_dict : kitB "int" "dict" = some false := by decide +kernel
@[simp] theorem kb_str_int : kitB "str" "int" = some false := by decide +kernel
@[simp] theorem kb_str_bool : kitB "str" "bool" = some false := by decide +kernel
@[simp] theorem kb_str_str : kitB "str" "str" = some true := by decide +kernel
@[simp] theorem kb_str_list : kitB "str" "list" = some false := by decide +kernel
@[simp] theorem kb_str_tuple : kitB "str" "tuple" = some false := by decide +kernel
@[simp] theorem kb_str_dict : kitB "str" "dict" = some false := by decide +kernel
@[simp] theorem kb_list_int : kitB "list" "int" = some false := by decide +kernel
@[simp] theorem kb_list_bool : kitB "list" "bool" = some false := by decide +kernel
@[simp] theorem kb_list_str : kitB "list" "str" = some false := by decide +kernel
@[simp] theorem kb_list_list : kitB "list" "list" = some true := by decide +kernel
@[simp] theorem kb_list_tuple : kitB "list" "tuple" = some false := by decide +kernel
@[simp] theorem kb_list_dict : kitB "list" "dict" = some false := by decide +kernel
@[simp] theorem kb_tuple_int : kitB "tuple" "int" = some false := by decide +kernel
@[simp] theorem kb_tuple_bool : kitB "tuple" "bool" = some false := by decide +kernel
@[simp] theorem kb_tuple_str : kitB "tuple" "str" = some false := by decide +kernel
@[simp] theorem kb_tuple_list : kitB "tuple" "list" = some false := by decide +kernel
@[simp] theorem kb_tuple_tuple : kitB "tuple" "tuple" = some true := by decide +kernel
@[simp] theorem kb_tuple_dict : kitB "tuple" "dict" = some false := by decide +kernel
@[simp] theorem kb_dict_int : kitB "dict" "int" = some false := by decide +kernel
@[simp] theorem kb_dict_bool : kitB "dict" "bool" = some false := by decide +kernel
@[simp] theorem kb_dict_str : kitB "dict" "str" = some false := by decide +kernel
@[simp] theorem kb_dict_list : kitB "dict" "list" = some false := by decide +kernel
@[simp] theorem kb_dict_tuple : kitB "dict" "tuple" = some false := by decide +kernel
@[simp] theorem kb_dict_dict : kitB "dict" "dict" = some true := by decide +kernel
end Y

namespace Y
open PySem PySem.Spec PyProof.Rows L2 Z
def txt : Value → Str
  | .str x _ => x
  | _ => Str.empty
def TxE (P : Program) (w : World) (e : Int × Value) : Prop := ∃ x t, e.2 = Value.str x t ∧ e.1 = (PySem.strKind P w).hash x
structure TxS (P : Program) (w : World) (es : Array (Int × Value)) (t : SetTable) (xs : List Str) : Prop where
  each : ∀ e ∈ es.toList, TxE P w e
  once : xs.Nodup
  perm : (es.toList.map fun e => txt e.2).Perm xs
  few : es.size < scanBound
  fits : t.fits es.size = true
  ris : Ris t.place.toList
  led : w.params.followText "set-order" = true ∨ t.led = true
def Tx (P : Program) (w : World) (h : Heap) (a : Addr) (xs : List Str) : Prop := ∃ o es ep t, h.get? a = some o ∧ o.ExactSet ∧ o.data = .set es ep t ∧ TxS P w es t xs
section
variable {P : Program} {w : World} {A : Around} {E : Value → Shared → Prop} {s : Shared} {a : Addr} {xs : List Str} {es : Array (Int × Value)} {t : SetTable}
theorem Tx.at {h h' : Heap} (R : Tx P w h a xs) (hk : ∀ o, h.get? a = some o → h'.get? a = some o) : Tx P w h' a xs := by
  obtain ⟨o, es, ep, t, ho, z⟩ := R
  exact ⟨o, es, ep, t, hk o ho, z⟩
section
variable {I : Addr} {fp wr : List Addr} {G : Array GenState → Array GenState → Prop} {n : Nat} {Pv : Nat → Value → Prop} {St : Nat → Shared → Prop} {R : Result → Shared → Prop}
end
end
end Y

namespace Y
open PySem PySem.Spec PyProof.Rows L2 Z
section
variable {P : Program} {w : World} {A : Around} {E : Value → Shared → Prop} {s : Shared} {a : Addr} {xs : List Str}
theorem str_ok (xs : List Str) : PySem.W.AllAlike (xs.map PyData.str) ∧ PySem.W.Sortable (xs.map PyData.str) := by
  have key : ∀ d ∈ xs.map PyData.str, ∃ l, d = PyData.str l := fun d hd => by
    obtain ⟨l, _, e⟩ := List.mem_map.mp hd
    exact ⟨l, e.symm⟩
  refine ⟨fun a ha b hb => ?_, .inr fun a ha => ?_⟩
  · obtain ⟨l, rfl⟩ := key a ha
    obtain ⟨m, rfl⟩ := key b hb
    simp [PySem.W.alike]
  · obtain ⟨l, rfl⟩ := key a ha
    exact ⟨(by intro z; cases z), fun xs z => by cases z⟩
end
section
variable {X : Cx}
end
section
variable {k : Kx}
end
end Y

namespace Y
open PySem PySem.Spec PyProof.Rows L2 Z
def hidO : Option (Bool × D) → Option (Bool × D)
  | some (true, _) => none
  | o => o
def hidE (env : Env) : Env := env.map hidO
theorem hidE_get {env : Env} {i : Nat} {b : Bool} {d : D} (h : (hidE env)[i]? = some (some (b, d))) : b = false ∧ env[i]? = some (some (false, d)) := by
  unfold hidE at h
  rw [List.getElem?_map] at h
  cases e : env[i]? with
  | none => rw [e] at h; cases h
  | some o =>
    rw [e] at h
    cases o with
    | none => simp [hidO] at h
    | some p =>
      obtain ⟨c, d'⟩ := p
      cases c with
      | true => simp [hidO] at h
      | false =>
        simp [hidO] at h
        obtain ⟨rfl, rfl⟩ := h
        exact ⟨rfl, rfl⟩
section
variable {k : Kx} {R : Hp} {dr dr' : Dr} {env : Env} {σ : L2.St} {G G2 H H2 : Hp} {n n' : Nat} {E : XK}
theorem Rl.hide (r : Rl k R dr env σ G H n) : ∃ R', Rl k R' dr (hidE env) σ G H n ∧ ∀ dr' G2 H2 n', Le G G2 → Rl k R' dr' [] [] G2 H2 n' → Rl k R dr' env σ G2 H2 n' := by
  obtain ⟨R', r', _, bk⟩ := r.out
  refine ⟨R', ⟨r'.i, r'.nt, r'.tb, r'.dd, r'.dh, r'.dj, r'.rs, fun i d h => ?_, fun i d h => ?_, fun i j a d d' h => ?_, ?_, r'.nb, r'.so⟩, bk⟩
  · exact r.sh i d (hidE_get h).2
  · cases (hidE_get h).1
  · cases (hidE_get h).1
  · unfold hidE
    rw [List.length_map]
    exact r.len
def eCaughtH (cat : List Str) (fb : Env → M Vl) : Env → M Vl := fun env => (fb (hidE env)).all (fun _ => .ok (.s, .non)) (fun x => if cat.contains x.C then .ok (.s, .exc x.C x.fs) else .bad)
theorem caught_exc {cat : List Str} {CS : Addr} {x : Ex} {dd : Option Addr} {Q : VK} (hc : ∀ C ∈ cat, PySem.W.exmOne k.K (.ref (k.ca C)) (.ref CS) = some true) (hm : cat.contains x.C = true) (l : Le G G2) (r3 : Rl k R dr env σ G2 H2 n) (hd : XdOk k G2 dd x.fs)
    (q : ∀ v G3 H3, Le G G3 → Rl k R dr env σ G3 H3 n → Rp k G3 v (.exc x.C x.fs) → Q v H3) : ∀ a, H2 a = none → Q (.ref a) (upd H2 a (ExV (.ref (k.ca x.C)) dd a)) := fun a ha => by
  have u := Up.new (o := ExV (.ref (k.ca x.C)) dd a) r3.i ha
  obtain ⟨r4, l4⟩ := r3.up u
  refine q _ _ _ (l.trans l4) r4 ?_
  have ga : clean (upd G2 a (ExV (.ref (k.ca x.C)) dd a)) a = some (ExV (.ref (k.ca x.C)) dd a) := clean_some upd_same (by intro ps z; unfold ExV at z; cases z)
  cases dd with
  | none =>
    have hd : x.fs = [] := hd
    rw [hd]
    exact Rp.exc ga
  | some b =>
    obtain ⟨h1, fv, h2, h3⟩ := hd
    exact Rp.excF ga (l4 _ _ h2) (h3.mono l4) h1
theorem se_caughtH {cat : List Str} {CS : Addr} {t : XK → TE} {fb : Env → M Vl} (hc : ∀ C ∈ cat, PySem.W.exmOne k.K (.ref (k.ca C)) (.ref CS) = some true) (hb : ∀ E, SE k E (t E) fb) : SE k E (LamX.tLam k.T (TCaught k.K CS) t) (eCaughtH cat fb) := fun R dr env σ G H n Q rl w => by
  unfold eCaughtH at w
  refine ⟨rl.tb, fun H1 e1 t1 Q' hq' => ?_⟩
  have r1 := rl.keep e1 t1
  obtain ⟨R', rh, bk⟩ := r1.hide
  refine hb _ R' dr (hidE env) σ G H1 n Q' rh (wp_mono (wp_all.mp w) (fun dr n v q x G2 H2 l r2 _ => hq' _ _ (q _ G2 H2 l (bk _ _ _ _ l r2.bare) Rp.non)) fun dr n x q dd G2 H2 l r2 hd => ?_)
  by_cases hm : cat.contains x.C = true
  · rw [if_pos hm] at q
    exact ⟨true, hc _ (by simpa using hm), fun _ a ha => caught_exc hc hm l (bk _ _ _ _ l r2) hd (fun v G3 H3 l3 r3 p => q v G3 H3 l3 r3 p) a ha, fun z => by cases z⟩
  · rw [if_neg hm] at q; exact q.elim
def bCaughtApp (cat : List Str) (j i : Nat) (fe : Env → M Vl) : Env → M Out := fun env => (M.of (ownL env i)).bind fun ds => (fe (hidE env)).all
  (fun r => if isV r || decide (1000000 ≤ ds.length) then .bad else .ok (.nx ((env.set i (some (true, .lst (ds ++ [r.2])))).set j (some (false, .non)))))
  (fun x => if cat.contains x.C then .ok (.nx (env.set j (some (false, .exc x.C x.fs)))) else .bad)
theorem ss_caughtApp {cat : List Str} {CS : Addr} {t : XK → TE} {fe : Env → M Vl} {i j : Nat} (hc : ∀ C ∈ cat, PySem.W.exmOne k.K (.ref (k.ca C)) (.ref CS) = some true) (he : ∀ E, SE k E (t E) fe) :
    SS k E (tAsg (LamX.tLam k.T (TCaught k.K CS) (fun E' => tBM k.K "list" rAppend (tVar i) (tCons (t E') tNil))) (gName j)) (bCaughtApp cat j i fe) := fun R dr env σ G H n D rl w => by
  obtain ⟨ds, h0, w1⟩ := wp_of.mp (wp_bind' w)
  have h0 := ownL_some h0
  refine ⟨rl.tb, fun H1 e1 t1 Q' hq' => ?_⟩
  have r1 := rl.keep e1 t1
  obtain ⟨a, vs, f1, f2, f3⟩ := own_lst r1 h0
  refine ⟨.ref a, f1, .inl ⟨rfl, _, .inl (.inl f2)⟩, ?_⟩
  obtain ⟨R', rh, bk⟩ := r1.hide
  refine (he _).run rh (wp_all.mp w1) (fun dr n x q dd G2 H2 l r2 hd => ?_) fun dr n1 v y G1 H2 w2 l1 r2 s1 => ?_
  · by_cases hm : cat.contains x.C = true
    · rw [if_pos hm] at q
      exact ⟨true, hc _ (by simpa using hm), fun _ a ha => caught_exc hc hm l (bk _ _ _ _ l r2) hd (fun v G3 H3 l3 r3 p => q _ G3 H3 l3 (r3.set p)) a ha, fun z => by cases z⟩
    · rw [if_neg hm] at q; exact q.elim
  · cases hv : (isV v || decide (1000000 ≤ ds.length)) with
    | true => rw [hv, if_pos rfl] at w2; exact w2.elim
    | false =>
      rw [hv, if_neg (by simp)] at w2
      simp only [Bool.or_eq_false_iff, decide_eq_false_iff_not] at hv
      have r3 := bk _ _ _ _ l1 r2.bare
      obtain ⟨a', vs', g1, g2, g3⟩ := own_lst r3 h0
      rw [f1] at g1; cases g1
      have hl : vs'.length < sizeLine := by rw [g3.len]; exact Nat.lt_of_lt_of_le (Nat.lt_of_not_le hv.2) (by decide)
      exact ⟨a, vs', y, rfl, rfl, g2, hl, hq' _ _ (w2 _ G1 _ l1 ((r3.chg h0 f1 (.lst (g3.app (.cons (rs_s hv.1 s1) .nil)))).set Rp.non))⟩
end
section
variable {k : Kx} {E : XK} {te : TE} {fe : Env → M Vl}
end
end Y

namespace Y
open PySem PySem.Spec PyProof.Rows L2 Z
section
variable {k : Kx} {E : XK} {te : TE} {fe : Env → M Vl} {ta : TA} {fa : Env → M (List Vl)}
end
section
variable {k : Kx} {E : XK}
end
theorem TgS.mono {k : Kx} {vs vs' : List Nat} {g : TG} {tg : D → Env → Option Env} (h : TgS k vs g tg) (hs : ∀ j, j ∈ vs → j ∈ vs') : TgS k vs' g tg := fun R dr env σ G H n x d env1 Q r p e q =>
  h R dr env σ G H n x d env1 Q r p e fun σ1 r1 ag len => q σ1 r1 (fun j hj => ag j fun z => hj (hs j z)) len
end Y

namespace Y
open PySem PySem.Spec PyProof.Rows L2 Z
def flatP : PyData → Bool
  | .none => true
  | .bool _ => true
  | .int _ => true
  | .str _ => true
  | _ => false
def rReprF (K : PySem.W.Frag) : List V → Hp → VK → Prop := fun xs H Q => ∃ x d, xs = [x] ∧ Dp K H x d ∧ flatP d = true ∧ d.showable = true ∧ d.shown.length ≤ sizeLine ∧ Q (.str d.shown) H
theorem cr_reprF {X : Cx} : CallR X (.builtin "repr") (rReprF X.K) := by
  intro pins s σ H xs us Q I r h
  obtain ⟨x, d, rfl, hd, hf, hs, hz, q⟩ := h
  obtain ⟨u, rfl, ru⟩ := vals1 r
  cases hd with
  | non =>
    cases ru
    exact PySem.P.repr_of_none ⟨.str _, H, I.tok _, ⟨_, rfl⟩, q⟩
  | bl b =>
    cases ru
    exact PySem.P.repr_of_bool ⟨.str _, H, I.tok _, ⟨_, by cases b <;> rfl⟩, q⟩
  | int i =>
    obtain ⟨t, rfl⟩ := ru
    exact PySem.P.repr_of_int (by simpa [PyData.showable] using hs) ⟨.str _, H, I.tok _, ⟨_, rfl⟩, q⟩
  | str y =>
    obtain ⟨t, rfl⟩ := ru
    exact PySem.P.repr_of_str ⟨.str _, H, I.tok _, ⟨_, rfl⟩, q⟩ hz
  | _ => cases hf
def reprF : List D → Option D
  | [d] => match py d with
    | some p => if flatP p = true ∧ p.showable = true ∧ p.shown.length ≤ 1000000 then some (.str (shw p)) else none
    | none => none
  | _ => none
section
variable {k : Kx} {E : XK}
theorem flat_dp {G H : Hp} {v : V} {d : D} {p : PyData} (hi : In G H) (r : Rp k G v d) (e : py d = some p) (hf : flatP p = true) : Dp k.K H v p := by
  cases d <;> simp only [py, Option.some.injEq, Option.map_eq_some_iff] at e <;> first
    | (subst e; cases r; constructor)
    | (obtain ⟨_, _, rfl⟩ := e; cases hf)
    | cases e
theorem cs_reprF : CaS k (rReprF k.K) reprF := fun G H xs ds d hi px hd Q q => by
  unfold reprF at hd
  split at hd
  · split at hd
    · rename_i p hp
      split at hd
      · rename_i hc
        cases hd
        obtain ⟨v, rfl, pv⟩ := rpa_one px
        refine ⟨v, p, rfl, flat_dp hi pv hp hc.1, hc.1, hc.2.1, Nat.le_trans hc.2.2 (by decide), ?_⟩
        have : p.shown = S (shw p) := (S_eta _).symm
        rw [this]
        exact q _ G H (Up.refl hi) (.str _)
      · cases hd
    · cases hd
  · cases hd
end
theorem pe_reinit {X : Cx} {x : Str} {C0 : Addr} {e : Expr} {es : List Expr} {ta : TA} {p1 p2 pos : Pos} {pl : Sem Bool} (hg : Gl X x) (hm : X.mg x = some (.ref C0)) (hga : PySem.W.specialIn X.K (.ref C0) "__getattribute__" = some (some (.builtin "type.__getattribute__")))
    (hty : PySem.W.typeIn X.K (.ref C0) = some (.type "type")) (hrd : PySem.W.readsIn X.K C0 (.type "type") = true) (vV : PySem.W.findCls X.K (.ref C0) (.type "type") "__init__" = some (.val (.builtin "ValueError.__init__"))) (ha : PA X (e :: es) ta)
    (hdb : (x == ("__debug__" : Str)) = false := by decide)
    (hc : eval (.Call (.Attribute (.Name x p1) "__init__" p2) (e :: es) [] pos) X.env = (do
      let ov ← eval (.Name x p1) X.env
      standAt p2.atName
      let (f, first) ← holding [ov] (getMethod ov "__init__" pl)
      callWith pos f first (backTo pos (starEach (e :: es) X.env)) (backToKw pos (keywordEach [] X.env))) := by rfl)
    (he : starEach (e :: es) X.env = (false, eval e X.env) :: starEach es X.env := by rfl) (hpl : (backTo pos (starEach es X.env)).any (·.1) = false := by rfl) :
    PE X (.Call (.Attribute (.Name x p1) "__init__" p2) (e :: es) [] pos) (tVeI X.K ta) := by
  refine ⟨fun pins s σ H Q I h => ?_⟩
  refine PySem.W.methodCall_KW (ld_glob I hg hm ?_ hdb) hc
  obtain ⟨m, fr⟩ := I.fr
  refine PySem.W.method_of_cls fr I.ok.mod.kin hga (PySem.W.cls_val fr I.ok.mod.kin hty hrd vV (by decide +kernel) ?_)
  show wpAny _ _ (callWith pos (Value.builtin "ValueError.__init__") [] (backTo pos (starEach (e :: es) X.env)) []) _ _ _
  refine PyProof.Rows.callWith_method1 (thn (ha.run pos pins _ σ H _ (I.tok _) h) fun us s1 z => ?_) he hpl
  obtain ⟨vs, H1, I1, r1, a, C, ws, rfl, hl, T, ea, q⟩ := z
  cases r1 with
  | cons ra rw' =>
    rename_i u0 ur
    obtain rfl : u0 = Value.ref a := ra
    exact L2.oinit_ok T I1 ea (by rw [← Paired.length rw', sizeLine_eq]; omega) fun s' J => ⟨.non, H1, J, rfl, q⟩
def sp_exi (k : Kx) (C f : Str) : Sp := fun vs H Q E => ∃ (a : Addr) (v : V) (G : Hp) (d : D) (z : D), vs = [.ref a, v] ∧ H a = some (exo a (k.ca C) none) ∧ In G H ∧ Rp k G v d ∧ reprF [d] = some z ∧ ∀ H', Le H H' → ∀ dx, H' dx = none → dx ≠ a → Q .non (upd (upd H' dx (exd dx [(f, v)])) a (exo a (k.ca C) (some dx)))
def bRaiseF (C f : Str) (fe : Env → M Vl) : Env → M Out := fun env => (fe env).bind fun r => if isV r then .bad else match reprF [r.2] with
  | some _ => .raise ⟨C, [(f, r.2)]⟩
  | none => .bad
section
variable {k : Kx} {E : XK}
theorem ss_raiseF {C f : Str} {te : TE} {fe : Env → M Vl} (he : SE k E te fe) : SS k E (tRaise (fun cls d _ H => E cls d H) (tMkO (k.ca C) (sp_exi k C f) [] (tCons te tNil))) (bRaiseF C f fe) := fun R dr env σ G H n D0 rl w => by
  refine he.run rl (wp_bind' w) (fun _ _ _ h => h) fun dr n1 v x G1 H1 w1 l1 r1 s1 => ?_
  cases hv : isV v with
  | true => rw [hv, if_pos rfl] at w1; exact w1.elim
  | false =>
    rw [hv, if_neg (by simp)] at w1
    cases hz : reprF [v.2] with
    | none => rw [hz] at w1; exact w1.elim
    | some z =>
      rw [hz] at w1
      have p := rs_s hv s1
      refine ⟨by simp, fun a ha => ⟨a, x, G1, v.2, z, rfl, upd_same, (r1.new ha).i, p, hz, fun H' hl dx hdx hne => ⟨rfl, dx, [(f, x)], upd_same, ?_, ?_, ?_⟩⟩⟩
      · rw [upd_ne hne, upd_same]
      · cases e : H1 dx with
        | none => rfl
        | some o =>
          have := hl dx o (by rw [upd_ne hne]; exact e)
          rw [hdx] at this; cases this
      · have le1 : Le H1 (L2.del H' a) := fun b o e => by
          have hb : b ≠ a := fun z => by rw [z, ha] at e; cases e
          rw [del_ne hb]
          exact hl b o (by rw [upd_ne hb]; exact e)
        have hd1 : L2.del H' a dx = none := by rw [del_ne hne]; exact hdx
        have eH : upd (L2.del (upd (upd H' dx (exd dx [(f, x)])) a (exo a (k.ca C) (some dx))) a) dx (.xd [(f, x)]) = upd (L2.del H' a) dx (.xd [(f, x)]) := by
          funext b
          by_cases hb : b = dx
          · rw [hb, upd_same, upd_same]
          · rw [upd_ne hb, upd_ne hb]
            by_cases hb2 : b = a
            · rw [hb2, del_same, del_same]
            · rw [del_ne hb2, upd_ne hb2, upd_ne hb, del_ne hb2]
        rw [eH]
        have r2 := r1.keep (extN_le le1) (tabs_le r1.tb le1)
        have u := Up.new (o := .xd [(f, x)]) r2.i hd1
        obtain ⟨r3, l3⟩ := r2.up u
        refine w1 (some dx) _ _ (l1.trans l3) r3.bare ⟨by simp, [(f, x)], clean_some upd_same (by intro ps z; cases z), .cons (p.mono l3) .nil⟩
def tExF (K : PySem.W.Frag) (f : Str) (te : TE) : TE := fun σ H Q => te σ H fun x H1 => ∃ (a C dd : Addr) (fs : List (Str × V)) (v : V), x = .ref a ∧ H1 a = some (ExV (.ref C) (some dd) a) ∧ XfC K C ∧ PySem.W.findIn K (.ref C) f = some none ∧ H1 dd = some (.xd fs) ∧ fs.lookup f = some v ∧ Q v H1
theorem pe_exf {X : Cx} {e : Expr} {te : TE} {pos : Pos} {n : Str} (he : PE X e te) (hb : attributeBase e n X.env (eval e X.env) = eval e X.env := by rfl) : PE X (.Attribute e n pos) (tExF X.K n te) := by
  refine ⟨fun pins s σ H Q I h => ?_⟩
  refine attr_of hb (thn (he.run pins s σ H _ I h) fun u s1 hh => ?_)
  obtain ⟨x, H1, I1, rx, a, C, dd, fs, v, rfl, ha, T, hno, ea, l, q⟩ := hh
  obtain rfl : u = Value.ref a := rx
  obtain ⟨oe, vs, h1, hz, hd⟩ := (I1.hok a _ ha).1
  have hx : ObjOk X.prog X.w H1 s1.heap dd (.xd fs) := I1.hok dd _ ea
  obtain ⟨mA, hns, hr⟩ := hx
  obtain ⟨od, ho, hl⟩ := lookIn_ns hns
  obtain ⟨u, hu, ru⟩ := RelO.some_of (v := v) (o := mA n) (by rw [← l]; exact hr n)
  have J : PySem.W.InstAt s1.heap a oe C (some od) := ⟨h1, hz.1, by unfold PySem.W.notCls; rw [hd] <;> rfl, by rw [hz.2]; exact ho⟩
  exact HandSPX.exc_get I1.kIn J T.ga T.gg T.exC (PySem.W.findObj_own T.hdC hno rfl (by rw [hl, hu])) (handed_of ru) ⟨v, H1, I1.tok _, ru, q⟩
def XFTab (k : Kx) (tab : List (Str × Str)) : Prop := ∀ p ∈ tab, XfC k.K (k.ca p.1) ∧ PySem.W.findIn k.K (.ref (k.ca p.1)) p.2 = some none
def exfD (tab : List (Str × Str)) (f : Str) : D → Option D
  | .exc C fs => if (C, f) ∈ tab then fs.lookup f else none
  | _ => none
def eExF (tab : List (Str × Str)) (f : Str) (fe : Env → M Vl) : Env → M Vl := fun env => (fe env).bind fun x => if isV x then .bad else (M.of (exfD tab f x.2)).bind fun d => .ok (.s, d)
theorem RpF.look {G : Hp} {f : Str} {d : D} : ∀ {fv : List (Str × V)} {fs : List (Str × D)}, RpF k G fv fs → fs.lookup f = some d → ∃ v, fv.lookup f = some v ∧ Rp k G v d
  | _, _, .nil, h => by cases h
  | _, _, .cons (q := q) h a, e => by
    rw [List.lookup_cons] at e ⊢
    cases hq : f == q with
    | true => rw [hq] at e; cases e; exact ⟨_, rfl, h⟩
    | false => rw [hq] at e; exact RpF.look a e
theorem se_exf {tab : List (Str × Str)} {f : Str} {te : TE} {fe : Env → M Vl} (ht : XFTab k tab) (he : SE k E te fe) : SE k E (tExF k.K f te) (eExF tab f fe) := fun R dr env σ G H n Q rl w => by
  refine he.run rl (wp_bind' w) (fun _ _ _ h => h) fun dr n1 v x G1 H1 w1 l1 r1 s1 => ?_
  cases hv : isV v with
  | true => rw [hv, if_pos rfl] at w1; exact w1.elim
  | false =>
    rw [hv, if_neg (by simp)] at w1
    obtain ⟨d, hd, w2⟩ := wp_of.mp (wp_bind' w1)
    have p := rs_s hv s1
    obtain ⟨md, dv⟩ := v
    cases dv <;> try (cases hd; done)
    rename_i C fs
    simp only [exfD] at hd
    split at hd
    · rename_i hm
      obtain ⟨t1, t2⟩ := ht _ hm
      generalize hD : D.exc C fs = dx at p
      cases p with
      | exc h => cases hD; cases hd
      | excF h g a ne =>
        cases hD
        obtain ⟨v', e1, e2⟩ := RpF.look a hd
        exact ⟨_, _, _, _, v', rfl, r1.i.ex h (by unfold ExV; rfl), t1, t2, r1.i.ex g rfl, e1, w2 _ G1 H1 l1 r1 e2⟩
      | _ => cases hD
    · cases hd
end
end Y

namespace Y
open PySem PySem.Spec PyProof.Rows L2 Z
def oexB (K : PySem.W.Frag) (C : Addr) : Bool := (match K.lookup C with
  | some ⟨.type t, _, .cls cd, sl⟩ => (match cd.mro, sl.toList with
    | .ref C' :: bm, [_, _, _, _, some (.builtin n), _] => decide (t = "type") && (decide (C' = C) && (decide (n = "ValueError.__new__") && (!cd.hasDel && (cd.hasDict && PySem.HandSPX.refsVE bm))))
    | _, _ => false)
  | _ => false) && (He.eqO (PySem.W.findIn K (.ref C) "__setattr__") (some (some (.builtin "object.__setattr__"))) && (decide (PySem.W.subIn K (.ref C) (.type "BaseException") = some true) && (decide (PySem.W.typeIn K (.ref C) = some (.type "type")) && PySem.W.keepIn K (.ref C))))
theorem oexB_ok {K : PySem.W.Frag} {C : Addr} (h : oexB K C = true) : OexC K C := by
  unfold oexB at h
  simp only [Bool.and_eq_true] at h
  obtain ⟨h1, h2, h3, h4, h5⟩ := h
  refine ⟨?_, He.eqO_ok h2, of_decide_eq_true h3, of_decide_eq_true h4, h5⟩
  split at h1
  · rename_i t dd cd sl hl
    split at h1
    · rename_i C' bm k0 k1 k2 k3 n k5 hm hs
      simp only [Bool.and_eq_true, decide_eq_true_eq, Bool.not_eq_true'] at h1
      obtain ⟨rfl, rfl, rfl, hdel, hdd, hr⟩ := h1
      obtain ⟨nm, bs, mro, ns, qn, hd, sn, sub, ab, col, del⟩ := cd
      dsimp only at hm hdel hdd
      subst hm hdel hdd
      have hsl : sl = #[k0, k1, k2, k3, some (.builtin "ValueError.__new__"), k5] := by
        obtain ⟨l⟩ := sl
        simp only at hs
        rw [hs]
      subst hsl
      exact ⟨nm, qn, ns, bs, bm, sn, sub, ab, col, dd, k0, k1, k2, k3, k5, hl, hr⟩
    · cases h1
  · cases h1
structure ReI (K : PySem.W.Frag) (C : Addr) : Prop where
  ga : PySem.W.specialIn K (.ref C) "__getattribute__" = some (some (.builtin "type.__getattribute__"))
  ty : PySem.W.typeIn K (.ref C) = some (.type "type")
  rd : PySem.W.readsIn K C (.type "type") = true
  ini : PySem.W.findCls K (.ref C) (.type "type") "__init__" = some (.val (.builtin "ValueError.__init__"))
def iniB (K : PySem.W.Frag) (C : Addr) : Bool := match PySem.W.findCls K (.ref C) (.type "type") "__init__" with
  | some (.val (.builtin n)) => decide (n = "ValueError.__init__")
  | _ => false
def reiB (K : PySem.W.Frag) (C : Addr) : Bool := He.eqO (PySem.W.specialIn K (.ref C) "__getattribute__") (some (some (.builtin "type.__getattribute__"))) && (decide (PySem.W.typeIn K (.ref C) = some (.type "type")) && (PySem.W.readsIn K C (.type "type") && iniB K C))
theorem reiB_ok {K : PySem.W.Frag} {C : Addr} (h : reiB K C = true) : ReI K C := by
  unfold reiB at h
  simp only [Bool.and_eq_true] at h
  obtain ⟨h1, h2, h3, h4⟩ := h
  refine ⟨He.eqO_ok h1, of_decide_eq_true h2, h3, ?_⟩
  unfold iniB at h4
  split at h4
  · rename_i n e
    rw [e, of_decide_eq_true h4]
  · cases h4
def t_exi (k : Kx) (f msg : Str) : TS := tSeq (tDrop (tVeI k.K (tCons (tVar 0) (tCons (tOp (qAdd k.K) (tC (.str msg)) (tCB (rReprF k.K) (tCons (tVar 1) tNil))) tNil)))) (tOst k.K f (tVar 0) (tVar 1))
theorem exi_len {k : Kx} {C f : Str} {vs : List V} {H : Hp} {Q : VK} {E : XK} (h : sp_exi k C f vs H Q E) : vs.length = 2 := by
  obtain ⟨a, v, G, d, z, rfl, _⟩ := h
  rfl
theorem reprF_str {ds : List D} {z : D} (h : reprF ds = some z) : ∃ u, z = .str u ∧ u.length ≤ 1000000 := by
  unfold reprF at h
  split at h
  · split at h
    · split at h
      · rename_i hc
        cases h
        refine ⟨_, rfl, ?_⟩
        unfold shw
        rw [Array.length_toList]
        exact hc.2.2
      · cases h
    · cases h
  · cases h
theorem exi_ok {k : Kx} {C f msg : Str} {vs : List V} {H : Hp} {Q : VK} {E : XK} {N : List Str} (hN : N.length = 2) (T : OexC k.K (k.ca C)) (hno : PySem.W.findIn k.K (.ref (k.ca C)) f = some none) (hm : msg.cps.toList.length ≤ 1000) (h : sp_exi k C f vs H Q E) : t_exi k f msg { nx := fun _ H' => Q .non H', rt := Q } (start N vs) H := by
  obtain ⟨a, v, G, d, z, rfl, ha, hi, p, hz, q⟩ := h
  have s0 : (start N [V.ref a, v])[0]? = some (some (.ref a)) := rfl
  have s1 : (start N [V.ref a, v])[1]? = some (some v) := rfl
  obtain ⟨u, rfl, hu⟩ := reprF_str hz
  refine ⟨_, s0, v, s1, ?_⟩
  simp only [tNil]
  refine cs_reprF G H [v] [d] (.str u) hi (.cons p .nil) hz _ fun y G2 H2 up2 py2 => ?_
  have hmS : msg = S msg.cps.toList := (S_eta _).symm
  have hadd : addD (.str msg.cps.toList) (.str u) = some (.str (msg.cps.toList ++ u)) := by
    simp only [addD]
    rw [if_pos (by omega)]
  skip
  rw [hmS]
  refine os_add G2 H2 (.str (S msg.cps.toList)) y (.str msg.cps.toList) (.str u) _ up2.i (.str _) py2 hadd _ fun y3 G3 H3 up3 py3 => ?_
  have ha3 := up3.h _ _ (up2.h _ _ ha)
  refine ⟨a, k.ca C, [y3], rfl, by simp, T, ha3, v, s1, .ref a, s0, a, k.ca C, rfl, T, hno, .inl ⟨ha3, fun dx hdx hne => ?_⟩⟩
  exact q H3 (fun b o e => up3.h _ _ (up2.h _ _ e)) dx hdx hne
structure ExI (P : Program) (w : World) (k : Kx) (mg : Str → Option Value) (base : Heap) (C f : Str) : Prop where
  ex : ∃ fI fd, OexC k.K (k.ca C) ∧ PySem.W.findIn k.K (.ref (k.ca C)) "__init__" = some (some (.ref fI)) ∧ PySem.W.typeIn k.K (.ref fI) = some (.type "function") ∧ FnOk P w k.K mg base (L2.CX P w) 1 fI fd ["self", f] (sp_exi k C f) ∧ L2.Binds k.K fd ["self", f] [] ∧ mg C = some (.ref (k.ca C))
theorem pmk_exi {X : Cx} {k : Kx} {C f : Str} {e : Expr} {es : List Expr} {ta : TA} {p pos : Pos} (hK : k.K = X.K) (T : ExI X.prog X.w k X.mg X.base C f) (hr : Room 2 X.A) (hx : Passes (L2.CX X.prog X.w) X (fun _ _ _ => False)) (hg : Gl X C) (ha : PA X (e :: es) ta)
    (hdb : (C == ("__debug__" : Str)) = false := by decide) (he : starEach (e :: es) X.env = (false, eval e X.env) :: starEach es X.env := by rfl) (hpl : (backTo pos (starEach es X.env)).any (·.1) = false := by rfl) :
    PMk X (.Call (.Name C p) (e :: es) [] pos) (tMkO (k.ca C) (sp_exi k C f) [] ta) := by
  obtain ⟨fI, fd, h1, h2, h3, h4, h5, h6⟩ := T.ex
  rw [hK] at h1 h2 h3 h4 h5
  exact pmk_oex h1 h2 h3 h4 hr h5 .nil hx hg h6 ha hdb he hpl
abbrev asS (g : Addr → Option Obj) (n : Nat) : List Addr := He.asD g n ++ [cStatics, sysModules]
def obS (n : Nat) (fa : List He.Fa) (fn : List He.DefD) (ts : List He.Tab) (tf : List He.Defn) (ex : PySem.W.Frag → Bool) (g : Addr → Option Obj) : He.AlX :=
  let Kg := He.frT g (asS g n)
  (He.obsT fa fn ts Kg, ex Kg && He.tabsB g tf Kg)
theorem says_obS {n : Nat} {fa : List He.Fa} {fn : List He.DefD} {ts : List He.Tab} {tf : List He.Defn} {ex : PySem.W.Frag → Bool} {w : World} {hp : Heap} (e : obS n fa fn ts tf ex hp.get? = He.valX fn ts w) : He.SaysX fa fn ts tf ex w hp (He.frT hp.get? (asS hp.get? n)) := by
  generalize hK : He.frT hp.get? (asS hp.get? n) = Kg
  have e1 : He.obsT fa fn ts Kg = He.valT fn ts w := by rw [← hK]; exact congrArg (fun z : He.AlX => z.1) e
  have e2 : (ex Kg && He.tabsB hp.get? tf Kg) = true := by rw [← hK]; exact congrArg (fun z : He.AlX => z.2) e
  rw [Bool.and_eq_true] at e2
  obtain ⟨h1, h2⟩ := e2
  have key : ∀ p ∈ tf, PySem.W.codeHdIn Kg (He.cT Kg p).1 (He.cT Kg p).2 = true ∧ ∃ o, hp.get? (He.cT Kg p).2 = some o ∧ He.emptyTab o = true := by
    intro p m
    have t := List.all_eq_true.mp h2 p m
    rw [Bool.and_eq_true] at t
    obtain ⟨t1, t2⟩ := t
    cases q : hp.get? (He.cT Kg p).2 with
    | none => simp only [q] at t2; cases t2
    | some o => simp only [q] at t2; exact ⟨t1, o, rfl, t2⟩
  refine ⟨e1, h1, fun p m => (key p m).1, fun p m => ?_, fun p m => ?_⟩
  · obtain ⟨_, o, q, z⟩ := key p m
    rw [← hK] at q ⊢
    exact He.frT_none q z
  · obtain ⟨_, o, q, z⟩ := key p m
    rw [q, He.emptyTab_eq z]
end Y

namespace Y
open PySem PySem.Spec PyProof.Rows L2 Z
def SysD (K : PySem.W.Frag) : Prop := ∃ o, K.lookup sysModules = some o ∧ o.cls = .type "dict"
section
variable {X : Cx} {pins : List (Addr × Obj)} {σ : L2.St} {H G : Hp} {s : Shared}
theorem sys_ne (I : Inv X pins σ H s) (S : SysD X.K) {a : Addr} {o : Obj} {T : String} (h : s.heap.get? a = some o) (hc : o.cls = .type T) (hT : T ≠ "dict") : a ≠ sysModules := by
  rintro rfl
  obtain ⟨od, h1, h2⟩ := S
  have := I.kIn _ _ h1
  rw [h] at this
  cases this
  rw [hc] at h2
  exact hT (by injection h2)
mutual
theorem rp_reads (I : Inv X pins σ H s) (i : Z.In G H) (S : SysD X.K) : ∀ {v : V} {p : PyData}, Z.Rp X.K G v p → ∀ u, RelV v u → ∃ as, Reads s.heap u p as ∧ sysModules ∉ as
  | _, _, .non, u, r => by cases r; exact ⟨_, .none, by simp⟩
  | _, _, .bl b, u, r => by cases r; exact ⟨_, .bool b, by simp⟩
  | _, _, .int j, u, r => by obtain ⟨t, rfl⟩ := r; exact ⟨_, .int j t, by simp⟩
  | _, _, .str x, u, r => by obtain ⟨t, rfl⟩ := r; exact ⟨_, .str x t, by simp⟩
  | _, _, .lst h a, u, r => by
    cases r
    obtain ⟨its, rv, ⟨o, n, ho, hc, _, hd⟩, _⟩ := I.list (.inl (.inl (i.ex h rfl)))
    obtain ⟨as, hr, hn⟩ := rpA_reads I i S a its rv
    refine ⟨_, Reads.list ho hc hd hr, ?_⟩
    have hne := sys_ne I S ho hc (by decide)
    simp only [List.mem_cons, not_or]
    exact ⟨fun z => hne z.symm, hn⟩
  | _, _, .tup h a, u, r => by
    cases r
    obtain ⟨its, rv, ⟨o, ho, hc, n, hd⟩, _⟩ := I.tuple (in_t i h)
    obtain ⟨as, hr, hn⟩ := rpA_reads I i S a its rv
    exact ⟨_, Reads.tuple ho hc hd (by simpa using hr), hn⟩
  | _, _, .dic h a, u, r => by
    cases r
    obtain ⟨z, hs, vs, kv, o, es, ep, ho, hx, hd, _, ps, _⟩ := dk_rd I.hok (i.rd h)
    obtain ⟨as, bs, r1, r2, n1, n2⟩ := rpD_reads I i S a vs kv es.toList ps
    refine ⟨_, Reads.dict ho hx.1 hd r1 r2, ?_⟩
    have hne : _ ≠ sysModules := beq_eq_false_iff_ne.mp hs
    simp only [List.cons_append, List.mem_cons, List.mem_append, not_or]
    exact ⟨fun q => hne q.symm, n1, n2⟩
theorem rpA_reads (I : Inv X pins σ H s) (i : Z.In G H) (S : SysD X.K) : ∀ {vs : List V} {ps : List PyData}, Z.RpA X.K G vs ps → ∀ us, Vals vs us → ∃ as, ReadsAll s.heap us ps as ∧ sysModules ∉ as
  | _, _, .nil, us, r => by cases r; exact ⟨_, .nil, by simp⟩
  | _, _, .cons h a, us, r => by
    cases r with
    | cons r1 r2 =>
      obtain ⟨as, q1, n1⟩ := rp_reads I i S h _ r1
      obtain ⟨bs, q2, n2⟩ := rpA_reads I i S a _ r2
      exact ⟨_, .cons q1 q2, by simp [n1, n2]⟩
theorem rpD_reads (I : Inv X pins σ H s) (i : Z.In G H) (S : SysD X.K) : ∀ {kvs : List (Key × V)} {ds : List (PyData × PyData)}, Z.RpD X.K G kvs ds → ∀ vs, KV kvs vs → ∀ es : List DictEntry, Pairs (mixKind X.prog X.w) es vs → ∃ as bs, ReadsAll s.heap (es.map (·.key)) (ds.map (·.1)) as ∧ ReadsAll s.heap (es.map (·.val)) (ds.map (·.2)) bs ∧ sysModules ∉ as ∧ sysModules ∉ bs
  | _, _, .nil, vs, r, es, p => by
    cases r
    cases p
    exact ⟨[], [], .nil, .nil, by simp, by simp⟩
  | _, _, .cons h a, vs, r, es, p => by
    cases r with
    | cons r1 r2 =>
      cases p with
      | cons p1 p2 p3 =>
        obtain ⟨r11, r12⟩ := r1
        obtain ⟨as, q1, n1⟩ := rp_reads I i S h _ r12
        obtain ⟨bs, cs, q2, q3, n2, n3⟩ := rpD_reads I i S a _ r2 _ p3
        simp only at r11
        rcases keyIs_shape p1 with ⟨j, t, e1, e2⟩ | ⟨x, t, e1, e2⟩
        · refine ⟨[] ++ bs, as ++ cs, ?_, ?_, by simpa using n2, by simp [n1, n3]⟩
          · simp only [List.map_cons, r11, e1, e2, kD]
            exact .cons (.int j t) q2
          · simp only [List.map_cons, p2]
            exact .cons q1 q3
        · refine ⟨[] ++ bs, as ++ cs, ?_, ?_, by simpa using n2, by simp [n1, n3]⟩
          · simp only [List.map_cons, r11, e1, e2, kD]
            exact .cons (.str x t) q2
          · simp only [List.map_cons, p2]
            exact .cons q1 q3
end
end
def rReprX (K : PySem.W.Frag) : List V → Hp → VK → Prop := fun xs H Q => ∃ x p G, xs = [x] ∧ Z.In G H ∧ Z.Rp K G x p ∧ SysD K ∧ p.showable = true ∧ p.depth ≤ 60 ∧ p.shown.length ≤ sizeLine ∧ Q (.str p.shown) H
theorem cr_reprX {X : Cx} (hg : X.A.guards = some []) (hu : X.A.units + 64 < cLine) : CallR X (.builtin "repr") (rReprX X.K) := by
  intro pins s σ H xs us Q I r h
  obtain ⟨x, d, G, rfl, hi, hr, S, hs, hp, hz, q⟩ := h
  obtain ⟨u, rfl, ru⟩ := vals1 r
  obtain ⟨as, rd, hn⟩ := rp_reads I hi S hr u ru
  cases rd with
  | none => exact PySem.P.repr_of_none ⟨.str _, H, I.tok _, ⟨_, rfl⟩, q⟩
  | bool b => exact PySem.P.repr_of_bool ⟨.str _, H, I.tok _, ⟨_, by cases b <;> rfl⟩, q⟩
  | int j t => exact PySem.P.repr_of_int (by simpa [PyData.showable] using hs) ⟨.str _, H, I.tok _, ⟨_, rfl⟩, q⟩
  | str y t => exact PySem.P.repr_of_str ⟨.str _, H, I.tok _, ⟨_, rfl⟩, q⟩ hz
  | list h1 h2 h3 h4 => exact repr_of_reads' (.list h1 h2 h3 h4) hs (fun _ => hn) hg (by omega) (fun _ _ e => e) (fun h' u' tk hk => ⟨.str _, H, I.kept hk, ⟨_, rfl⟩, q⟩) hz
  | tuple h1 h2 h3 h4 => exact repr_of_reads' (.tuple h1 h2 h3 h4) hs (fun _ => hn) hg (by omega) (fun _ _ e => e) (fun h' u' tk hk => ⟨.str _, H, I.kept hk, ⟨_, rfl⟩, q⟩) hz
  | dict h1 h2 h3 h4 h5 => exact repr_of_reads' (.dict h1 h2 h3 h4 h5) hs (fun _ => hn) hg (by omega) (fun _ _ e => e) (fun h' u' tk hk => ⟨.str _, H, I.kept hk, ⟨_, rfl⟩, q⟩) hz
def reprX : List D → Option D
  | [d] => match py d with
    | some p => if p.showable = true ∧ p.depth ≤ 60 ∧ p.shown.length ≤ 10000000 then some (.str (shw p)) else none
    | none => none
  | _ => none
theorem cs_reprX {k : Kx} (S : SysD k.K) : CaS k (rReprX k.K) reprX := fun G H xs ds d hi px hd Q q => by
  unfold reprX at hd
  split at hd
  · split at hd
    · rename_i p hp
      split at hd
      · rename_i hc
        cases hd
        obtain ⟨v, rfl, pv⟩ := rpa_one px
        refine ⟨v, p, G, rfl, hi, pv.z hp, S, hc.1, hc.2.1, Nat.le_trans hc.2.2 (by decide), ?_⟩
        have : p.shown = Z.S (shw p) := (S_eta _).symm
        rw [this]
        exact q _ G H (Up.refl hi) (.str _)
      · cases hd
    · cases hd
  · cases hd
def sysB (K : PySem.W.Frag) : Bool := match K.lookup sysModules with
  | some ⟨.type c, _, _, _⟩ => decide (c = "dict")
  | _ => false
theorem sysB_ok {K : PySem.W.Frag} (h : sysB K = true) : SysD K := by
  unfold sysB at h
  split at h
  · rename_i c d1 d2 d3 e
    exact ⟨_, e, by rw [of_decide_eq_true h]⟩
  · cases h
end Y

namespace Y
open PySem PySem.Spec PyProof.Rows L2 Z
section
variable {prog : Program} {w : World} {A : Around} {E : Value → Shared → Prop} {s : Shared}
end
section
variable {k : Kx} {E : XK}
end
end Y

namespace Y
open PySem PySem.Spec PyProof.Rows L2 Z
section
variable {k : Kx} {R : Hp} {dr : Dr} {env : Env} {σ : L2.St} {G H : Hp} {n : Nat} {a : Addr} {d e : D} {o : HO}
theorem Rl.dis (r : Rl k R dr env σ G H n) {i j : Im} (hi : i ∈ dr) (hj : j ∈ dr) (hn : i ≠ j) {b : Addr} (h1 : isDr i b) : ¬ isDr j b := by
  obtain ⟨x, hx, ex⟩ := List.getElem_of_mem hi
  obtain ⟨y, hy, ey⟩ := List.getElem_of_mem hj
  have pw := List.pairwise_iff_getElem.mp r.dj
  have nij : x ≠ y := fun z => by subst z; exact hn (ex.symm.trans ey)
  intro h2
  rcases Nat.lt_or_gt_of_ne nij with z | z
  · exact pw x y hx hy z b (by rw [ex]; exact h1) (by rw [ey]; exact h2)
  · exact pw y x hy hx z b (by rw [ey]; exact h2) (by rw [ex]; exact h1)
def putI (a : Addr) (d : D) : Im → Im
  | .inl q => .inl q
  | .inr p => if p.1 = a then .inr (p.1, d) else .inr p
theorem putS_eq : putS dr a d = dr.map (putI a d) := by
  unfold putS
  apply List.map_congr_left
  intro i _
  cases i <;> rfl
theorem isDr_putI {i : Im} {b : Addr} : isDr (putI a d i) b ↔ isDr i b := by
  cases i with
  | inl q => exact Iff.rfl
  | inr p =>
    unfold putI
    by_cases h : p.1 = a
    · simp only [if_pos h]; exact Iff.rfl
    · simp only [if_neg h]
theorem inDr_putS {b : Addr} : inDr (putS dr a d) b ↔ inDr dr b := by
  rw [putS_eq]
  constructor
  · rintro ⟨i, hi, h⟩
    obtain ⟨j, hj, rfl⟩ := List.mem_map.mp hi
    exact ⟨j, hj, isDr_putI.mp h⟩
  · rintro ⟨i, hi, h⟩
    exact ⟨_, List.mem_map_of_mem hi, isDr_putI.mpr h⟩
theorem mem_putS {i : Im} (h : i ∈ putS dr a d) : (∃ q, i = .inl q ∧ .inl q ∈ dr) ∨ (∃ e, i = .inr (a, d) ∧ .inr (a, e) ∈ dr) ∨ ∃ b e, b ≠ a ∧ i = .inr (b, e) ∧ .inr (b, e) ∈ dr := by
  rw [putS_eq] at h
  obtain ⟨j, hj, rfl⟩ := List.mem_map.mp h
  cases j with
  | inl q => exact .inl ⟨q, rfl, hj⟩
  | inr p =>
    obtain ⟨b, e⟩ := p
    by_cases hb : b = a
    · subst hb
      exact .inr (.inl ⟨e, by simp [putI], hj⟩)
    · exact .inr (.inr ⟨b, e, hb, by simp [putI, hb], hj⟩)
theorem Rl.putS (r : Rl k R dr env σ G H n) (h : .inr (a, e) ∈ dr) (ro : RpO k G o d) : Rl k R (Y.putS dr a d) env σ G (upd H a o) n := by
  obtain ⟨o0, h0, ro0⟩ := r.so a e h
  have ia := in_st h
  have own : ∀ b, ¬ inDr dr b → b ≠ a := fun b hb z => hb (by rw [z]; exact ia)
  refine ⟨r.i.mut (r.dh a ia), r.nt, fun p hp => ?_, fun i hi => ?_, fun b hb => r.dh b (inDr_putS.mp hb), ?_, fun b u hb => ?_, r.sh, fun j x q => ?_, r.inj, r.len, r.nb, fun b x hb => ?_⟩
  · obtain ⟨ps, t1, t2, t3⟩ := r.tb p hp
    have n1 : p.1 ≠ a := fun z => by rw [z, h0] at t1; cases t1; exact ro0.nt ps rfl
    refine ⟨ps, by rw [upd_ne n1]; exact t1, t2, fun pos cv hc => ?_⟩
    obtain ⟨c, a1, a2⟩ := t3 pos cv hc
    have n2 : c ≠ a := fun z => by
      rw [z, h0] at a2
      cases ro0 <;> cases a2
    exact ⟨c, a1, by rw [upd_ne n2]; exact a2⟩
  · rcases mem_putS hi with ⟨q, rfl, hq⟩ | ⟨x, rfl, hx⟩ | ⟨b, x, hb, rfl, hx⟩
    · exact (r.dd _ hq).ext fun b hb u hu => by
        rw [upd_ne (fun z => r.dis hq h (fun z => nomatch z) hb z)]
        exact hu
    · exact ⟨o, upd_same, ro.nt⟩
    · obtain ⟨u, h1, h2⟩ := r.so b x hx
      exact ⟨u, by rw [upd_ne hb]; exact h1, h2.nt⟩
  · rw [putS_eq, List.pairwise_map]
    exact r.dj.imp fun {i j} hij b h1 h2 => hij b (isDr_putI.mp h1) (isDr_putI.mp h2)
  · obtain ⟨g1, g2, g3, g4⟩ := r.rs b u hb
    exact ⟨by rw [upd_ne (own b g3)]; exact g1, g2, fun z => g3 (inDr_putS.mp z), g4⟩
  · obtain ⟨b, g1, u, g2, g3, g4⟩ := r.ow j x q
    exact ⟨b, g1, u, by rw [upd_ne (own b g4.d)]; exact g2, g3, g4.g, g4.r, fun z => g4.d (inDr_putS.mp z)⟩
  · rcases mem_putS hb with ⟨q, z, _⟩ | ⟨y, z, _⟩ | ⟨c, y, hc, z, hy⟩
    · cases z
    · cases z
      exact ⟨o, upd_same, ro⟩
    · cases z
      obtain ⟨u, h1, h2⟩ := r.so _ _ hy
      exact ⟨u, by rw [upd_ne hc]; exact h1, h2⟩
theorem Rl.ownS (r : Rl k R dr env σ G H n) (w : Ow k R dr G H a d) (ap : Apart env σ a) : Rl k R (.inr (a, d) :: dr) env σ G H n ∧ ∀ e, .inr (a, e) ∉ dr := by
  obtain ⟨o, h1, h2, h3⟩ := w
  refine ⟨⟨r.i, r.nt, r.tb, fun i hi => ?_, fun b hb => ?_, List.pairwise_cons.mpr ⟨fun i hi b z1 z2 => ?_, r.dj⟩, fun b u hb => ?_, r.sh, fun j x q => ?_, r.inj, r.len, r.nb, fun b x hb => ?_⟩, fun e z => h3.d (in_st z)⟩
  · rcases List.mem_cons.mp hi with rfl | hi
    · exact ⟨o, h1, h2.nt⟩
    · exact r.dd i hi
  · obtain ⟨i, hi, hd⟩ := hb
    rcases List.mem_cons.mp hi with rfl | hi
    · have : b = a := hd
      rw [this]; exact h3.g
    · exact r.dh b ⟨i, hi, hd⟩
  · have : b = a := z1
    exact h3.d ⟨i, hi, by rw [← this]; exact z2⟩
  · obtain ⟨g1, g2, g3, g4⟩ := r.rs b u hb
    refine ⟨g1, g2, fun z => ?_, g4⟩
    obtain ⟨i, hi, hd⟩ := z
    rcases List.mem_cons.mp hi with rfl | hi
    · have : b = a := hd
      rw [this, h3.r] at hb; cases hb
    · exact g3 ⟨i, hi, hd⟩
  · obtain ⟨b, g1, u, g2, g3, g4⟩ := r.ow j x q
    refine ⟨b, g1, u, g2, g3, g4.g, g4.r, fun z => ?_⟩
    obtain ⟨i, hi, hd⟩ := z
    rcases List.mem_cons.mp hi with rfl | hi
    · have : b = a := hd
      exact ap j x q (by rw [← this]; exact g1)
    · exact g4.d ⟨i, hi, hd⟩
  · rcases List.mem_cons.mp hb with z | z
    · cases z; exact ⟨o, h1, h2⟩
    · exact r.so b x z
theorem rp_rf {v : V} {a : Addr} (h : Rp k G v (.rf a)) : v = .ref a := by cases h; rfl
end
end Y

namespace Y
open PySem PySem.Spec PyProof.Rows L2 Z
def cont (d : D) (f : D → M β) : M β := match d with
  | .rf a => .get a f
  | d => f d
def isRf : D → Bool
  | .rf _ => true
  | _ => false
def fldD (tab : List (Str × Str)) (f : Str) : D → Option D
  | .ins C fs => if (C, f) ∈ tab then fs.lookup f else none
  | _ => none
def eFld (tab : List (Str × Str)) (f : Str) (fe : Env → M Vl) : Env → M Vl := fun env => (fe env).bind fun r => if isV r then .bad else cont r.2 fun d => (M.of (fldD tab f d)).bind fun x => .ok (.s, x)
def putFD (f : Str) (d : D) : List (Str × D) → List (Str × D)
  | [] => [(f, d)]
  | (g, x) :: r => if g = f then (g, d) :: r else (g, x) :: putFD f d r
def bFld (tab : List (Str × Str)) (f : Str) (fo fe : Env → M Vl) : Env → M Out := fun env => (fe env).bind fun r => (fo env).bind fun x => match x.2 with
  | .rf a => .get a fun d => match d with
    | .ins C fs => if (C, f) ∈ tab ∧ isV r = false ∧ fs.length < 1000 then .put a (.ins C (putFD f r.2 fs)) (.ok (.nx env)) else .bad
    | _ => .bad
  | _ => .bad
def eMake (C : Str) (m : List D → M Vl) (fa : Env → M (List Vl)) : Env → M Vl := fun env => (fa env).bind fun xs => if okA xs then .new (.ins C []) fun a => (m (.rf a :: dats xs)).bind fun r => match r with
  | (.s, .non) => .ok (.s, .rf a)
  | _ => .bad
  else .bad
def isIn (C : Str) (m : Str) : D → Bool
  | .ins D fs => decide (D = C) && (fs.lookup m).isNone
  | _ => false
def eMeth (C m : Str) (mm : List D → M Vl) (fo : Env → M Vl) (fa : Env → M (List Vl)) : Env → M Vl := fun env => (fo env).bind fun x => if isV x then .bad else cont x.2 fun d => if isIn C m d then (fa env).bind fun xs => if okA xs then mm (x.2 :: dats xs) else .bad else .bad
def isC (C : Str) : D → Bool
  | .ins D _ => decide (D = C)
  | _ => false
def eProp (C : Str) (mm : List D → M Vl) (fo : Env → M Vl) : Env → M Vl := fun env => (fo env).bind fun x => if isV x then .bad else cont x.2 fun d => if isC C d then mm [x.2] else .bad
def CTab (k : Kx) (tab : List (Str × Str)) : Prop := ∀ p ∈ tab, Cls k.K (k.ca p.1) ∧ NoAttr k.K (k.ca p.1) p.2
section
variable {k : Kx} {E : XK} {R : Hp} {dr : Dr} {env : Env} {σ : L2.St} {G G2 H H2 : Hp} {n n' : Nat} {te tx tj to : TE} {fe fx fj fo : Env → M Vl} {t : TS} {f : Env → M Out} {tr : TA} {fr : Env → M (List Vl)}
theorem cont_wp {β : Type} {d : D} {F : D → M β} {P : Dr → Nat → β → Prop} {X : Dr → Nat → Ex → Prop} (w : wp dr n (cont d F) P X) : (∃ a e, d = .rf a ∧ .inr (a, e) ∈ dr ∧ wp dr n (F e) P X) ∨ (isRf d = false ∧ wp dr n (F d) P X) := by
  unfold cont at w
  split at w
  · obtain ⟨e, h0, h1⟩ := w
    exact .inl ⟨_, e, rfl, h0, h1⟩
  · rename_i h
    refine .inr ⟨?_, w⟩
    cases d <;> first
      | rfl
      | exact absurd rfl (h _)
theorem ins_at {x : V} {d : D} {C : Str} {fs : List (Str × D)} (r : Rl k R dr env σ G H n) (p : Rp k G x d) (h : (∃ a, d = .rf a ∧ .inr (a, .ins C fs) ∈ dr) ∨ d = .ins C fs) : ∃ a dx fv, x = .ref a ∧ H a = some (.ins (k.ca C) dx fv) ∧ RpF k G fv fs := by
  rcases h with ⟨a, rfl, h⟩ | rfl
  · rw [rp_rf p]
    obtain ⟨o, h1, h2⟩ := r.so a _ h
    cases h2 with
    | ins h2 => exact ⟨a, _, _, rfl, h1, h2⟩
  · generalize hd : D.ins C fs = d at p
    cases p with
    | ins g q => cases hd; exact ⟨_, _, _, rfl, r.i.ex g rfl, q⟩
    | _ => cases hd
theorem se_fld {tab : List (Str × Str)} {f : Str} (ht : CTab k tab) (he : SE k E te fe) : SE k E (tFld k.K te f) (eFld tab f fe) := fun R dr env σ G H n Q rl w => by
  refine he.run rl (wp_bind' w) (fun _ _ _ h => h) fun dr n1 v x G1 H1 w1 l1 r1 s1 => ?_
  cases hv : isV v with
  | true => rw [hv, if_pos rfl] at w1; exact w1.elim
  | false =>
    rw [hv, if_neg (by simp)] at w1
    have p := rs_s hv s1
    have key : ∀ d0, wp dr n1 ((M.of (fldD tab f d0)).bind fun x => .ok (.s, x)) (fun dr n' r => ∀ x G2 H2, Le G G2 → Rl k R dr env σ G2 H2 n' → RV k R dr env σ G2 H2 x r → Q x H2) (XP k R G E) → ((∃ a, v.2 = .rf a ∧ .inr (a, d0) ∈ dr) ∨ v.2 = d0) → ∃ a C dx fs v, x = .ref a ∧ H1 a = some (.ins C dx fs) ∧ Cls k.K C ∧ NoAttr k.K C f ∧ fs.lookup f = some v ∧ Q v H1 := by
      intro d0 w hd
      obtain ⟨y, hy, w2⟩ := wp_of.mp (wp_bind' w)
      cases d0 <;> try (cases hy; done)
      rename_i C fs
      simp only [fldD] at hy
      split at hy
      · rename_i hm
        obtain ⟨t1, t2⟩ := ht _ hm
        obtain ⟨a, dx, fv, rfl, h1, h2⟩ := ins_at r1 p hd
        obtain ⟨v', e1, e2⟩ := RpF.look h2 hy
        exact ⟨a, _, dx, fv, v', rfl, h1, t1, t2, e1, w2 _ G1 H1 l1 r1 e2⟩
      · cases hy
    rcases cont_wp w1 with ⟨a, e, h1, h2, w2⟩ | ⟨h1, w2⟩
    · exact key e w2 (.inl ⟨a, h1, h2⟩)
    · exact key v.2 w2 (.inr rfl)
theorem RpF.put {G : Hp} {f : Str} {v : V} {d : D} (p : Rp k G v d) : ∀ {fv : List (Str × V)} {fs : List (Str × D)}, RpF k G fv fs → RpF k G (putF f v fv) (putFD f d fs)
  | _, _, .nil => .cons p .nil
  | _, _, .cons (q := q) h a => by
    unfold putF putFD
    by_cases hq : q = f
    · simp only [if_pos hq]; exact .cons p a
    · simp only [if_neg hq]; exact .cons h (RpF.put p a)
theorem RpF.len {G : Hp} : ∀ {fv : List (Str × V)} {fs : List (Str × D)}, RpF k G fv fs → fv.length = fs.length
  | _, _, .nil => rfl
  | _, _, .cons _ a => by rw [List.length_cons, List.length_cons, RpF.len a]
theorem rs_rf {x : V} {v : Vl} {a : Addr} (hv : isV v = false) (e : v.2 = .rf a) (s : RS k env σ G x v) : x = .ref a := by
  have := rs_s hv s
  rw [e] at this
  exact rp_rf this
theorem isV_rf (r : Rl k R dr env σ G H n) {x : V} {v : Vl} {a : Addr} (e : v.2 = .rf a) (s : RS k env σ G x v) : isV v = false := by
  obtain ⟨md, d⟩ := v
  cases md with
  | s => rfl
  | o => rfl
  | v i =>
    obtain ⟨h1, h2⟩ := s
    have e : d = .rf a := e
    subst e
    obtain ⟨b, _, o, _, h3, _⟩ := r.ow i _ h2
    cases h3
theorem ss_fld {tab : List (Str × Str)} {f : Str} (ht : CTab k tab) (ho : SE k E to fo) (he : SE k E te fe) : SS k E (sFld k.K to te f) (bFld tab f fo fe) := fun R dr env σ G H n D rl w => by
  refine he.run rl (wp_bind' w) (fun _ _ _ h => h) fun dr n1 v y G1 H1 w1 l1 r1 s1 => ?_
  refine ho.run r1 (wp_bind' w1) (fun _ _ _ h => h.mono l1) fun dr n2 u x G2 H2 w2 l2 r2 s2 => ?_
  split at w2
  · rename_i a ha
    obtain ⟨d, h0, w2⟩ := w2
    dsimp only at w2
    split at w2
    · rename_i C fs
      by_cases hc : (C, f) ∈ tab ∧ isV v = false ∧ fs.length < 1000
      · rw [if_pos hc] at w2
        obtain ⟨_, w2⟩ := w2
        obtain ⟨c1, c2, c3⟩ := hc
        obtain ⟨t1, t2⟩ := ht _ c1
        have hx := rs_rf (isV_rf r2 ha s2) ha s2
        obtain ⟨o, h1, h2⟩ := r2.so a _ h0
        cases h2 with
        | ins h2 =>
          refine ⟨a, k.ca C, _, _, hx, h1, t1, t2, by rw [h2.len]; exact c3, ?_⟩
          exact w2 σ G2 _ (l1.trans l2) (r2.putS h0 (.ins (RpF.put (rs_s c2 (s1.mono l2)) h2)))
      · rw [if_neg hc] at w2; exact w2.elim
    · exact w2.elim
  · exact w2.elim
theorem se_make {C : Str} {m : List D → M Vl} (hr : SA k E tr fr) : SE k E (tMake (k.ca C) (spM k m) [] E tr) (eMake C m fr) := fun R dr env σ G H n Q rl w => by
  refine hr R dr env σ G H n _ rl (wp_mono (wp_bind' w) (fun dr n1 vs w1 xs G1 H1 l1 r1 s1 => ?_) fun _ _ _ h => h)
  by_cases ho : okA vs = true
  · rw [if_pos ho] at w1
    intro x dx hx hdx hne
    rw [List.append_nil]
    have r2 := r1.new (o := .own x) hdx
    have hx2 : upd H1 dx (.own x) x = none := by rw [upd_ne (fun z => hne z.symm)]; exact hx
    obtain ⟨w2, ap⟩ := r2.newO (o := .ins (k.ca C) dx []) hx2 (.ins .nil)
    obtain ⟨r3, fr⟩ := (r2.new (o := .ins (k.ca C) dx []) hx2).ownS w2 ap
    refine call_end (vs := (.s, .rf x) :: vs) r3 (.cons (.rf x) s1) ?_
    have ho2 : okA ((.s, .rf x) :: vs) = true := by
      unfold okA at ho ⊢
      rw [List.all_cons, ho]
      rfl
    rw [if_pos ho2]
    refine wp_mono (wp_bind' (w1 x fr)) (fun dr n' r q y G3 H3 l3 r4 rv => ?_) fun _ _ _ h => h.mono l1
    obtain ⟨md, d⟩ := r
    cases md with
    | s =>
      cases d with
      | non => exact ⟨rp_non rv, q (.ref x) G3 H3 (l1.trans l3) r4 (.rf x)⟩
      | _ => exact q.elim
    | o => exact q.elim
    | v i => exact q.elim
  · rw [if_neg ho] at w1; exact w1.elim
theorem RpF.none {G : Hp} {f : Str} : ∀ {fv : List (Str × V)} {fs : List (Str × D)}, RpF k G fv fs → fs.lookup f = none → fv.lookup f = none
  | _, _, .nil, _ => rfl
  | _, _, .cons (q := q) h a, e => by
    rw [List.lookup_cons] at e ⊢
    cases hq : f == q with
    | true => rw [hq] at e; cases e
    | false => rw [hq] at e; exact RpF.none a e
theorem se_meth {C m : Str} {mm : List D → M Vl} (ho : SE k E to fo) (hr : SA k E tr fr) : SE k E (tMeth (k.ca C) m (spM k mm) [] E to tr) (eMeth C m mm fo fr) := fun R dr env σ G H n Q rl w => by
  refine ho.run rl (wp_bind' w) (fun _ _ _ h => h) fun dr n1 v x G1 H1 w1 l1 r1 s1 => ?_
  cases hv : isV v with
  | true => rw [hv, if_pos rfl] at w1; exact w1.elim
  | false =>
    rw [hv, if_neg (by simp)] at w1
    have p := rs_s hv s1
    have key : ∀ d0, wp dr n1 (if isIn C m d0 then (fr env).bind fun xs => if okA xs then mm (v.2 :: dats xs) else .bad else .bad) (fun dr n' r => ∀ x G2 H2, Le G G2 → Rl k R dr env σ G2 H2 n' → RV k R dr env σ G2 H2 x r → Q x H2) (XP k R G E) → ((∃ a, v.2 = .rf a ∧ .inr (a, d0) ∈ dr) ∨ v.2 = d0) → ∃ a dx fs, x = .ref a ∧ H1 a = some (.ins (k.ca C) dx fs) ∧ fs.lookup m = none ∧ tr σ H1 fun vs H2 => spM k mm (x :: (vs ++ [])) H2 Q E := by
      intro d0 wk hd
      by_cases hi : isIn C m d0 = true
      · rw [if_pos hi] at wk
        cases d0 <;> try (cases hi; done)
        rename_i C' fs
        simp only [isIn, Bool.and_eq_true, decide_eq_true_eq, Option.isNone_iff_eq_none] at hi
        obtain ⟨rfl, hi⟩ := hi
        obtain ⟨a, dx, fv, hx, h1, h2⟩ := ins_at r1 p hd
        refine ⟨a, dx, fv, hx, h1, RpF.none h2 hi, ?_⟩
        refine hr R dr env σ G1 H1 n1 _ r1 (wp_mono (wp_bind' wk) (fun dr n2 vs w2 xs G2 H2 l2 r2 s2 => ?_) fun _ _ _ h => h.mono l1)
        rw [List.append_nil]
        refine call_end (vs := v :: vs) r2 (.cons (s1.mono l2) s2) ?_
        have ho : okA (v :: vs) = okA vs := by
          unfold okA
          rw [List.all_cons, hv]
          rfl
        rw [ho]
        exact wp_mono w2 (fun dr n' r q x G3 H3 l3 => q x G3 H3 ((l1.trans l2).trans l3)) fun _ _ _ h => h.mono (l1.trans l2)
      · rw [if_neg hi] at wk; exact wk.elim
    rcases cont_wp w1 with ⟨a, e, h1, h2, w2⟩ | ⟨h1, w2⟩
    · exact key e w2 (.inl ⟨a, h1, h2⟩)
    · exact key v.2 w2 (.inr rfl)
end
end Y

namespace Y
open PySem PySem.Spec PyProof.Rows L2 Z
structure MtIs (P : Program) (w : World) (K : PySem.W.Frag) (mg : Str → Option Value) (base : Heap) (n : Nat) (C : Addr) (m : Str) (ps : List Str) (sp : Sp) : Prop where
  ex : ∃ f fd, Cls K C ∧ Meth K C m f ∧ FnOk P w K mg base (L2.CX P w) n f fd ps sp ∧ L2.Binds K fd ps []
structure MkIs (P : Program) (w : World) (K : PySem.W.Frag) (mg : Str → Option Value) (base : Heap) (n : Nat) (x : Str) (C : Addr) (ps : List Str) (sp : Sp) : Prop where
  ex : ∃ f fd, Mk K C f ∧ FnOk P w K mg base (L2.CX P w) n f fd ps sp ∧ L2.Binds K fd ps [] ∧ mg x = some (.ref C)
section
variable {X : Cx} {k : Nat} {C : Addr} {m x : Str} {ps : List Str} {sp : Sp} {E : XK} {o e : Expr} {es : List Expr} {ta : TE} {t : TA} {p apos pos : Pos}
theorem pe_mt {pl : Sem Bool} (F : MtIs X.prog X.w X.K X.mg X.base k C m ps sp) (hr : Room k X.A) (hx : Passes (L2.CX X.prog X.w) X E) (ho : PE X o ta) (ha : PA X (e :: es) t)
    (hst : starEach (e :: es) X.env = (false, eval e X.env) :: starEach es X.env := by rfl) (hpl : (backTo pos (starEach es X.env)).any (·.1) = false := by rfl)
    (ht : eval (.Call (.Attribute o m apos) (e :: es) [] pos) X.env = (do let ov ← eval o X.env; standAt apos.atName; let (f, first) ← holding [ov] (getMethod ov m pl); callWith pos f first (backTo pos (starEach (e :: es) X.env)) (backToKw pos (keywordEach [] X.env))) := by rfl) :
    PE X (.Call (.Attribute o m apos) (e :: es) [] pos) (tMeth C m sp [] E ta t) := by
  obtain ⟨f, fd, c, hm, F, hb⟩ := F.ex
  exact pe_meth (pl := pl) ho c hm F hr hb .nil hx ha hst hpl ht
theorem pe_mt0 {pl : Sem Bool} (F : MtIs X.prog X.w X.K X.mg X.base k C m ps sp) (hr : Room k X.A) (hx : Passes (L2.CX X.prog X.w) X E) (ho : PE X o ta)
    (ht : eval (.Call (.Attribute o m apos) [] [] pos) X.env = (do let ov ← eval o X.env; standAt apos.atName; let (f, first) ← holding [ov] (getMethod ov m pl); callWith pos f first (backTo pos (starEach [] X.env)) (backToKw pos (keywordEach [] X.env))) := by rfl) :
    PE X (.Call (.Attribute o m apos) [] [] pos) (tMeth C m sp [] E ta tNil) := by
  obtain ⟨f, fd, c, hm, F, hb⟩ := F.ex
  exact pe_meth0 (pl := pl) ho c hm F hr hb .nil hx ht
theorem pe_mk (F : MkIs X.prog X.w X.K X.mg X.base k x C ps sp) (hr : Room (k + 1) X.A) (hg : Gl X x) (hx : Passes (L2.CX X.prog X.w) X E) (ha : PA X (e :: es) t)
    (hdb : (x == ("__debug__" : Str)) = false := by decide) (he : starEach (e :: es) X.env = (false, eval e X.env) :: starEach es X.env := by rfl) (hpl : (backTo pos (starEach es X.env)).any (·.1) = false := by rfl) :
    PE X (.Call (.Name x p) (e :: es) [] pos) (tMake C sp [] E t) := by
  obtain ⟨f, fd, M, F, hb, hm⟩ := F.ex
  exact pe_make M F hr hg hm hb .nil hx ha hdb he hpl
end
end Y

namespace Y
open PySem PySem.Spec PyProof.Rows L2 Z
section
variable {k : Kx} {E : XK} {R : Hp} {dr : Dr} {env : Env} {σ : L2.St} {G G2 H H2 : Hp} {n n' : Nat} {to : TE} {fo : Env → M Vl} {ta : TA} {fa : Env → M (List Vl)} {tab : List (Str × Str)} {f g : Str}
end
end Y

namespace Y
open PySem PySem.Spec PyProof.Rows L2 Z
section
variable {k : Kx} {E : XK} {R : Hp} {dr : Dr} {env : Env} {σ : L2.St} {G G2 H H2 : Hp} {n n' : Nat} {te tn : TE} {fe fn : Env → M Vl} {t : TA} {fr : Env → M (List Vl)}
end
section
variable {k : Kx} {E : XK} {R : Hp} {dr : Dr} {env : Env} {σ : L2.St} {G G2 H H2 : Hp} {n n' : Nat} {tx ty tz te : TE} {fx fy fz fe : Env → M Vl}
end
end Y

namespace Y
open PySem PySem.Spec PyProof.Rows L2 Z
structure MtKw (P : Program) (w : World) (K : PySem.W.Frag) (mg : Str → Option Value) (base : Heap) (n : Nat) (C : Addr) (m : Str) (ps : List Str) (sp : Sp) (ks : List Str) (is : List Nat) : Prop where
  ex : ∃ f fd, Cls K C ∧ Meth K C m f ∧ FnOk P w K mg base (L2.CX P w) n f fd ps sp ∧ KBn K fd ps 1 ks (Z.perm is) (Z.perm is)
def tMethK (C : Addr) (m : Str) (nk : Nat) (sp : Sp) (is : List Nat) (E : XK) (ta : TE) (tk : TA) : TE := fun σ H Q => ta σ H fun x H1 => ∃ a dx fs, x = .ref a ∧ H1 a = some (.ins C dx fs) ∧ fs.lookup m = none ∧ tk σ H1 fun zs H2 => zs.length = nk ∧ sp (Z.perm is [x] zs) H2 Q E
section
variable {X : Cx} {k : Nat} {C : Addr} {m x : Str} {ps ks : List Str} {is : List Nat} {sp : Sp} {E : XK} {o e : Expr} {kws : List Keyword} {ta : TE} {t tk : TA} {p apos pos : Pos}
theorem pe_mtK {pl : Sem Bool} (F : MtKw X.prog X.w X.K X.mg X.base k C m ps sp ks is) (hr : Room k X.A) (hx : Passes (L2.CX X.prog X.w) X E) (ho : PE X o ta) (hkw : PK X kws tk)
    (hall : (backToKw pos (keywordEach kws X.env)).all (·.1.isSome) = true := by rfl) (hks : (backToKw pos (keywordEach kws X.env)).filterMap (·.1) = ks := by rfl) (hpl : ((backTo pos (starEach [] X.env)).any (·.1) || (backToKw pos (keywordEach kws X.env)).any (·.1.isNone)) = false := by rfl)
    (ht : eval (.Call (.Attribute o m apos) [] kws pos) X.env = (do let ov ← eval o X.env; standAt apos.atName; let (f, first) ← holding [ov] (getMethod ov m pl); callWith pos f first (backTo pos (starEach [] X.env)) (backToKw pos (keywordEach kws X.env))) := by rfl) :
    PE X (.Call (.Attribute o m apos) [] kws pos) (tMethK C m ks.length sp is E ta tk) := by
  obtain ⟨f, fd, c, hm, F, hb⟩ := F.ex
  refine ⟨fun pins s σ H Q I h => ?_⟩
  refine PySem.W.methodCall_KW (pl := pl) (thn (ho.run pins s σ H _ I h) fun u s1 ⟨x, H1, I1, rx, a, dx, fs, ex, ea, l, q⟩ => ?_) ht
  subst ex
  obtain rfl : u = Value.ref a := rx
  refine getmeth_ok I1 ea c hm l ?_
  refine PySem.W.callWith_KW0 (first := [.ref a]) (h₀ := X.base) I.ok.mod.kin hm.kp hall (thn (hkw.run pos pins s1 σ H1 _ I1 q) fun ws s2 ⟨zs, H2, I2, rz, l2, q2⟩ => ⟨I2.kIn, ?_⟩) hpl
  rw [hks]
  exact run_fnN (us := [.ref a]) (vs := [.ref a]) F hr hb hx I2 (.cons rfl .nil) rz rfl l2 q2
end
def eMethK (C m : Str) (nk : Nat) (is : List Nat) (mm : List D → M Vl) (fo : Env → M Vl) (fk : Env → M (List Vl)) : Env → M Vl := fun env => (fo env).bind fun x => if isV x then .bad else cont x.2 fun d => if isIn C m d then (fk env).bind fun xs => if xs.length = nk ∧ okA xs = true then mm (dats (Z.perm is [x] xs)) else .bad else .bad
section
variable {k : Kx} {E : XK} {R : Hp} {dr : Dr} {env : Env} {σ : L2.St} {G G2 H H2 : Hp} {n n' : Nat} {to : TE} {fo : Env → M Vl} {tk : TA} {fk : Env → M (List Vl)}
theorem se_methK {C m : Str} {nk : Nat} {is : List Nat} {mm : List D → M Vl} (ho : SE k E to fo) (hr : SA k E tk fk) : SE k E (tMethK (k.ca C) m nk (spM k mm) is E to tk) (eMethK C m nk is mm fo fk) := fun R dr env σ G H n Q rl w => by
  refine ho.run rl (wp_bind' w) (fun _ _ _ h => h) fun dr n1 v x G1 H1 w1 l1 r1 s1 => ?_
  cases hv : isV v with
  | true => rw [hv, if_pos rfl] at w1; exact w1.elim
  | false =>
    rw [hv, if_neg (by simp)] at w1
    have p := rs_s hv s1
    have key : ∀ d0, wp dr n1 (if isIn C m d0 then (fk env).bind fun xs => if xs.length = nk ∧ okA xs = true then mm (dats (Z.perm is [v] xs)) else .bad else .bad) (fun dr n' r => ∀ x G2 H2, Le G G2 → Rl k R dr env σ G2 H2 n' → RV k R dr env σ G2 H2 x r → Q x H2) (XP k R G E) → ((∃ a, v.2 = .rf a ∧ .inr (a, d0) ∈ dr) ∨ v.2 = d0) → ∃ a dx fs, x = .ref a ∧ H1 a = some (.ins (k.ca C) dx fs) ∧ fs.lookup m = none ∧ tk σ H1 fun zs H2 => zs.length = nk ∧ spM k mm (Z.perm is [x] zs) H2 Q E := by
      intro d0 wk hd
      by_cases hi : isIn C m d0 = true
      · rw [if_pos hi] at wk
        cases d0 <;> try (cases hi; done)
        rename_i C' fs
        simp only [isIn, Bool.and_eq_true, decide_eq_true_eq, Option.isNone_iff_eq_none] at hi
        obtain ⟨rfl, hi⟩ := hi
        obtain ⟨a, dx, fv, hx, h1, h2⟩ := ins_at r1 p hd
        refine ⟨a, dx, fv, hx, h1, RpF.none h2 hi, ?_⟩
        refine hr R dr env σ G1 H1 n1 _ r1 (wp_mono (wp_bind' wk) (fun dr n2 vs w2 xs G2 H2 l2 r2 s2 => ?_) fun _ _ _ h => h.mono l1)
        by_cases hc : vs.length = nk ∧ okA vs = true
        · rw [if_pos hc] at w2
          refine ⟨s2.len.trans hc.1, ?_⟩
          refine call_end (vs := Z.perm is [v] vs) r2 (RSs.perm is (.cons (s1.mono l2) .nil) s2) ?_
          have ho : okA (Z.perm is [v] vs) = true := by
            unfold okA Z.perm
            rw [List.all_eq_true]
            intro u hu
            obtain ⟨i, _, hi⟩ := List.mem_filterMap.mp hu
            have hm := List.mem_of_getElem? hi
            rcases List.mem_append.mp hm with hm | hm
            · simp at hm; subst hm; rw [hv]; rfl
            · exact List.all_eq_true.mp hc.2 u hm
          rw [if_pos ho]
          exact wp_mono w2 (fun dr n' r q x G3 H3 l3 => q x G3 H3 ((l1.trans l2).trans l3)) fun _ _ _ h => h.mono (l1.trans l2)
        · rw [if_neg hc] at w2; exact w2.elim
      · rw [if_neg hi] at wk; exact wk.elim
    rcases cont_wp w1 with ⟨a, e, h1, h2, w2⟩ | ⟨h1, w2⟩
    · exact key e w2 (.inl ⟨a, h1, h2⟩)
    · exact key v.2 w2 (.inr rfl)
end
end Y

namespace Y
open PySem PySem.Spec PyProof.Rows L2 Z
end Y

namespace Y
open PySem PySem.Spec PyProof.Rows L2 Z
section
variable {β : Type} {k : Kx} {dr : Dr} {n : Nat} {Q : Dr → Nat → β → Prop} {X : Dr → Nat → Ex → Prop}
end
section
variable {k : Kx} {E : XK} {R : Hp} {dr : Dr} {env : Env} {σ : L2.St} {G H : Hp} {n : Nat} {tr : TA} {fr : Env → M (List Vl)}
end
end Y

namespace Y
open PySem PySem.Spec PyProof.Rows L2 Z
structure GtD where
  C : Str
  m : Str
  params : Arguments
  body : List Stmt
  scope : Scope
def gAd (K : PySem.W.Frag) (C m : Str) : Addr := match PySem.W.recIn K (He.ma K (He.ga K C) m) "property" with
  | some (.ref g :: _) => g
  | _ => 0
def gtW (K : PySem.W.Frag) (d : GtD) : He.FnW := match K.lookup (gAd K d.C d.m) with
  | some ⟨_, _, .func fd, _⟩ => some (fd.name, fd.qualname, fd.params, fd.body, fd.scope, fd.globals, fd.closure, fd.builtins)
  | _ => none
def GtD.qual (d : GtD) : Str := d.C ++ "." ++ d.m
def GtD.val (d : GtD) : He.FnW := some (d.m, d.qual, d.params, .stmts d.body, d.scope, mainGlobals, [], builtinsNs)
def recB : Option (List Value) → Addr → Bool
  | some (.ref a :: _), g => decide (a = g)
  | _, _ => false
def GtD.ok (K : PySem.W.Frag) (d : GtD) : Bool := PySem.W.keepIn K (.ref (gAd K d.C d.m)) && ((match K.lookup (gAd K d.C d.m) with
  | some ⟨_, _, .func fd, _⟩ => PySem.W.codeIn K fd.code d.qual && (He.dflB K fd.defaults [] && He.kwdB K fd.kwdefaults [])
  | _ => false) && (He.eqO (PySem.W.findIn K (.ref (He.ga K d.C)) d.m) (some (some (.ref (He.ma K (He.ga K d.C) d.m)))) && (He.eqO (PySem.W.specialIn K (.ref (He.ma K (He.ga K d.C) d.m)) "__get__") (some (some (.builtin "property.__get__"))) && (decide (PySem.W.takesIn K (.ref (He.ma K (He.ga K d.C) d.m)) = some true) && recB (PySem.W.recIn K (He.ma K (He.ga K d.C) d.m) "property") (gAd K d.C d.m)))))
theorem gand {a b : Bool} (h : (a && b) = true) : a = true ∧ b = true := by rwa [Bool.and_eq_true] at h
theorem GtD.propOf {K : PySem.W.Frag} {d : GtD} (c : d.ok K = true) : PropOf K (He.ga K d.C) d.m (He.ma K (He.ga K d.C) d.m) (gAd K d.C d.m) := by
  obtain ⟨_, c⟩ := gand c
  obtain ⟨_, c⟩ := gand c
  obtain ⟨h1, c⟩ := gand c
  obtain ⟨h2, c⟩ := gand c
  obtain ⟨h3, h4⟩ := gand c
  refine ⟨He.eqO_ok h1, He.eqO_ok h2, of_decide_eq_true h3, ?_⟩
  cases e : PySem.W.recIn K (He.ma K (He.ga K d.C) d.m) "property" with
  | none => rw [e] at h4; cases h4
  | some l =>
    rw [e] at h4
    cases l with
    | nil => cases h4
    | cons v r =>
      cases v with
      | ref a =>
        have : a = gAd K d.C d.m := of_decide_eq_true h4
        subst this
        exact ⟨r, rfl⟩
      | _ => cases h4
theorem GtD.funD {K : PySem.W.Frag} {d : GtD} (e : gtW K d = d.val) (c : d.ok K = true) : ∃ fd, FunD K d.m d.qual d.params d.body d.scope [] [] (gAd K d.C d.m) fd := by
  obtain ⟨kp, c1⟩ := gand c
  obtain ⟨c2, _⟩ := gand c1
  unfold gtW at e
  cases q : K.lookup (gAd K d.C d.m) with
  | none =>
    rw [q] at c2
    cases c2
  | some o =>
    obtain ⟨oc, od, dt, osl⟩ := o
    rw [q] at c2 e
    cases dt with
    | func fd =>
      obtain ⟨n1, n2, n3, n4, n5, n6, n7, n8, n9, n10, n11, n12, n13, n14, n15⟩ := fd
      have e2 : (some (n1, n2, n3, n4, n5, n6, n7, n15) : He.FnW) = some (d.m, d.qual, d.params, .stmts d.body, d.scope, mainGlobals, [], builtinsNs) := e
      simp only [Option.some.injEq, Prod.mk.injEq] at e2
      obtain ⟨h1, h2, h3, h4, h5, h6, h7, h8⟩ := e2
      subst h1 h2 h3 h4 h5 h6 h7 h8
      have c3 : (PySem.W.codeIn K n13 d.qual && (He.dflB K n8 [] && He.kwdB K n9 [])) = true := c2
      obtain ⟨k1, k2⟩ := gand c3
      obtain ⟨k3, k4⟩ := gand k2
      exact ⟨_, ⟨oc, od, n8, n9, n10, n11, n12, n13, n14, osl, rfl, q, k1, He.dflB_ok k3, He.kwdB_ok k4⟩, kp⟩
    | _ => cases c2
abbrev AlP : Type := He.AlX × Bool × List He.FnW
def obP (n : Nat) (fa : List He.Fa) (fn : List He.DefD) (ts : List He.Tab) (tf : List He.Defn) (gs : List GtD) (ex : PySem.W.Frag → Bool) (g : Addr → Option Obj) : AlP :=
  let Kg := He.frT g (asS g n)
  ((He.obsT fa fn ts Kg, ex Kg && He.tabsB g tf Kg), gs.all (fun d => d.ok Kg), gs.map (gtW Kg))
def valP (fn : List He.DefD) (ts : List He.Tab) (gs : List GtD) (w : World) : AlP := (He.valX fn ts w, true, gs.map GtD.val)
structure SaysP (fa : List He.Fa) (fn : List He.DefD) (ts : List He.Tab) (tf : List He.Defn) (gs : List GtD) (ex : PySem.W.Frag → Bool) (w : World) (h : Heap) (K : PySem.W.Frag) : Prop where
  x : He.SaysX fa fn ts tf ex w h K
  gok : gs.all (fun d => d.ok K) = true
  gw : gs.map (gtW K) = gs.map GtD.val
theorem says_obP {n : Nat} {fa : List He.Fa} {fn : List He.DefD} {ts : List He.Tab} {tf : List He.Defn} {gs : List GtD} {ex : PySem.W.Frag → Bool} {w : World} {hp : Heap} (e : obP n fa fn ts tf gs ex hp.get? = valP fn ts gs w) : SaysP fa fn ts tf gs ex w hp (He.frT hp.get? (asS hp.get? n)) := by
  have e1 : obS n fa fn ts tf ex hp.get? = He.valX fn ts w := congrArg (fun z : AlP => z.1) e
  have e2 : gs.all (fun d => d.ok (He.frT hp.get? (asS hp.get? n))) = true := congrArg (fun z : AlP => z.2.1) e
  have e3 : gs.map (gtW (He.frT hp.get? (asS hp.get? n))) = gs.map GtD.val := congrArg (fun z : AlP => z.2.2) e
  exact ⟨says_obS e1, e2, e3⟩
def hookP (n : Nat) (fa : List He.Fa) (fn : List He.DefD) (ts : List He.Tab) (tf : List He.Defn) (gs : List GtD) (ex : PySem.W.Frag → Bool) : PySem.W.Hook where
  α := AlP
  obs := fun s => obP n fa fn ts tf gs ex s.heap.get?
  val := fun w => valP fn ts gs w
  says := fun w hp => ∃ Kg : PySem.W.Frag, Kg.In hp ∧ SaysP fa fn ts tf gs ex w hp Kg
  of := fun _ _ e => ⟨_, He.frT_in, says_obP e⟩
  keeps := fun _ _ _ ⟨Kg, hi, c⟩ kp => ⟨Kg, hi.keeps kp, ⟨c.x.t, c.x.more, c.x.hd, c.x.out, fun p m => kp _ _ (c.x.empty p m)⟩, c.gok, c.gw⟩
theorem obP_eq {n : Nat} {fa : List He.Fa} {fn : List He.DefD} {ts : List He.Tab} {tf : List He.Defn} {gs : List GtD} {ex : PySem.W.Frag → Bool} {g : Addr → Option Obj} {s : Shared} (h : ∀ a, g a = s.heap.get? a) : obP n fa fn ts tf gs ex g = (hookP n fa fn ts tf gs ex).obs s := by
  rw [funext h]
  rfl
theorem SaysP.get {fa : List He.Fa} {fn : List He.DefD} {ts : List He.Tab} {tf : List He.Defn} {gs : List GtD} {ex : PySem.W.Frag → Bool} {w : World} {h : Heap} {K : PySem.W.Frag} (c : SaysP fa fn ts tf gs ex w h K) (i : Nat) {d : GtD} (hi : gs[i]? = some d := by rfl) :
    PropOf K (He.ga K d.C) d.m (He.ma K (He.ga K d.C) d.m) (gAd K d.C d.m) ∧ ∃ fd, FunD K d.m d.qual d.params d.body d.scope [] [] (gAd K d.C d.m) fd := by
  have h1 := List.all_eq_true.mp c.gok d (List.mem_of_getElem? hi)
  have h2 : (gs.map (gtW K))[i]? = (gs.map GtD.val)[i]? := by rw [c.gw]
  rw [List.getElem?_map, List.getElem?_map, hi] at h2
  exact ⟨GtD.propOf h1, GtD.funD (Option.some.inj h2) h1⟩
structure PrIs (P : Program) (w : World) (K : PySem.W.Frag) (mg : Str → Option Value) (base : Heap) (n : Nat) (C : Addr) (f : Str) (sp : Sp) : Prop where
  ex : ∃ p g fd, Cls K C ∧ PropOf K C f p g ∧ FnOk P w K mg base (L2.CX P w) n g fd ["self"] sp ∧ L2.Binds K fd ["self"] []
theorem pe_pr {X : Cx} {k : Nat} {C : Addr} {f : Str} {sp : Sp} {E : XK} {o : Expr} {ta : TE} {pos : Pos} (F : PrIs X.prog X.w X.K X.mg X.base k C f sp) (hr : Room (k + 1) X.A) (hx : Passes (L2.CX X.prog X.w) X.nox E) (ho : PE X o ta)
    (hab : attributeBase o f X.env (eval o X.env) = eval o X.env := by rfl) (hk : k = k' + 1) : PE X (.Attribute o f pos) (tProp C sp [] E ta) := by
  obtain ⟨p, g, fd, c, hp, F, hb⟩ := F.ex
  subst hk
  exact pe_prop ho c hp F (hr.mono (by omega)) hb .nil hx hab
end Y

namespace Y
open PySem PySem.Spec PyProof.Rows L2 Z
section
variable {M : Model} {prog : Program} {w : World} {A : Around} {E : Value → Shared → Prop} {s : Shared} {K : PySem.W.Frag} {x C f L : Addr} {ox : Obj} {od : Option Obj} {b tb : Value} {h₀ : Heap} {m : Str → Option Value}
end
def BTS : List String := ["NoneType", "bool", "int", "str", "list", "tuple", "dict"]
def eqIsB (K : PySem.W.Frag) (C : Addr) : Bool := He.eqO (PySem.W.findIn K (.ref C) "__ne__") (some (some (.builtin "object.__ne__"))) && (decide (PySem.W.mroIn K C (.type "object") = some true) && BTS.all fun t => PySem.W.notFirst K C (.type t))
structure EqIs (P : Program) (w : World) (K : PySem.W.Frag) (mg : Str → Option Value) (base : Heap) (n : Nat) (C : Addr) (sp : Sp) : Prop where
  ex : ∃ f fd ps, Cls K C ∧ Meth K C "__eq__" f ∧ FnOk P w K mg base (L2.CX P w) n f fd ps sp ∧ L2.Binds K fd ps [] ∧ ps.length = 2
  b : eqIsB K C = true
section
variable {X : Cx} {n : Nat} {C : Addr} {sp : Sp} {E : XK}
end
def okTy (C : Str) (d : D) : Bool := (tyName d).isSome || isC C d
def eOwn (C : Str) (neg : Bool) (mm : List D → M Vl) (fa fb : Env → M Vl) : Env → M Vl := fun env => (fa env).bind fun x => (fb env).bind fun y => if isV x || isV y then .bad else cont x.2 fun d => if isC C d && okTy C y.2 then (mm [x.2, y.2]).bind fun r => match r with
  | (.s, .bl b) => .ok (.s, .bl (neg != b))
  | _ => .bad
  else .bad
theorem tyName_bts {d : D} {n : String} (h : tyName d = some n) : n ∈ BTS := by
  cases d <;> simp [tyName] at h <;> subst h <;> decide
section
variable {k : Kx} {E : XK} {ta tb : TE} {fa fb : Env → M Vl}
end
end Y

namespace Y
open PySem PySem.Spec PyProof.Rows L2 Z
def insB (K : PySem.W.Frag) (C : Addr) : Bool := He.eqO (PySem.W.findIn K (.ref C) "__class__") (some (some (.builtin "object.__class__"))) && (He.eqO (PySem.W.specialIn K (.builtin "object.__class__") "__get__") (some (some (.builtin "getset_descriptor.__get__"))) && (decide (PySem.W.takesIn K (.builtin "object.__class__") = some true) && decide (PySem.W.mroIn K C (.type "object") = some true)))
def otB (K : PySem.W.Frag) (ca : Str → Addr) (cs : List Str) : Bool := cs.all fun C => insB K (ca C) && ((BTS.all fun t => decide (PySem.W.kitOne K (.type t) (.ref (ca C)) = some false)) && cs.all fun B => decide (PySem.W.kitOne K (.ref (ca C)) (.ref (ca B)) = some (decide (C = B))))
structure OTab (k : Kx) (cs : List Str) : Prop where
  b : otB k.K k.ca cs = true
  cl : ∀ C ∈ cs, Cls k.K (k.ca C)
def isoD (cs : List Str) (B : Str) : D → Option Bool
  | .ins C _ => if C ∈ cs ∧ B ∈ cs then some (decide (C = B)) else none
  | d => if B ∈ cs then (tyName d).map fun _ => false else none
def eIso (cs : List Str) (B : Str) (fa : Env → M Vl) : Env → M Vl := fun env => (fa env).bind fun x => if isV x then .bad else cont x.2 fun d => (M.of (isoD cs B d)).bind fun b => .ok (.s, .bl b)
section
variable {k : Kx} {E : XK} {ta : TE} {fa : Env → M Vl}
theorem se_iso {cs : List Str} {B : Str} (T : OTab k cs) (ha : SE k E ta fa) : SE k E (tCB (rIsA k.K) (tCons ta (tCons (tC (.ref (k.ca B))) tNil))) (eIso cs B fa) := fun R dr env σ G H n Q rl w => by
  refine ha.run rl (wp_bind' w) (fun _ _ _ h => h) fun dr n1 v x G1 H1 w1 l1 r1 s1 => ?_
  show rIsA k.K [x, .ref (k.ca B)] H1 Q
  cases hv : isV v with
  | true => rw [hv, if_pos rfl] at w1; exact w1.elim
  | false =>
    rw [hv, if_neg (by simp)] at w1
    have p := rs_s hv s1
    have fin : ∀ b, wp dr n1 (M.ok ((Md.s, D.bl b) : Vl)) (fun dr n' r => ∀ x G2 H2, Le G G2 → Rl k R dr env σ G2 H2 n' → RV k R dr env σ G2 H2 x r → Q x H2) (XP k R G E) → Q (.bl b) H1 := fun b w => w _ G1 H1 l1 r1 (.bl b)
    have hins : ∀ C fs, ((∃ a, v.2 = .rf a ∧ .inr (a, .ins C fs) ∈ dr) ∨ v.2 = .ins C fs) → wp dr n1 ((M.of (isoD cs B (.ins C fs))).bind fun b => .ok ((Md.s, D.bl b) : Vl)) (fun dr n' r => ∀ x G2 H2, Le G G2 → Rl k R dr env σ G2 H2 n' → RV k R dr env σ G2 H2 x r → Q x H2) (XP k R G E) → rIsA k.K [x, .ref (k.ca B)] H1 Q := fun C fs hd w => by
      obtain ⟨b, hb, w⟩ := wp_of.mp (wp_bind' w)
      unfold isoD at hb
      dsimp only at hb
      by_cases hm : C ∈ cs ∧ B ∈ cs
      · rw [if_pos hm] at hb
        cases hb
        obtain ⟨a, dx, fv, hx, h1, h2⟩ := ins_at r1 p hd
        have t := List.all_eq_true.mp T.b C hm.1
        obtain ⟨t1, t2⟩ := gand t
        obtain ⟨t2, t3⟩ := gand t2
        obtain ⟨i1, i2⟩ := gand t1
        obtain ⟨i2, i3⟩ := gand i2
        obtain ⟨i3, i4⟩ := gand i3
        have hk := of_decide_eq_true (List.all_eq_true.mp t3 B hm.2)
        refine .inl ⟨x, .ref (k.ca B), .ref (k.ca C), .ref (k.ca B), _, rfl, by constructor, ?_, hk, fin _ w⟩
        rw [hx]
        exact .base (.ins h1 (T.cl C hm.1) (He.eqO_ok i1) (He.eqO_ok i2) (of_decide_eq_true i3) (of_decide_eq_true i4))
      · rw [if_neg hm] at hb; cases hb
    rcases cont_wp w1 with ⟨a, e, h1, h2, w2⟩ | ⟨h1, w2⟩
    · cases e with
      | ins C fs => exact hins C fs (.inl ⟨a, h1, h2⟩) w2
      | lst ds =>
        obtain ⟨o, g1, g2⟩ := r1.so a _ h2
        obtain ⟨b, hb, w3⟩ := wp_of.mp (wp_bind' w2)
        simp only [isoD, tyName, Option.map_some] at hb
        by_cases hB : B ∈ cs
        · rw [if_pos hB] at hb
          cases hb
          have t := List.all_eq_true.mp T.b B hB
          obtain ⟨_, t2⟩ := gand t
          obtain ⟨t2, _⟩ := gand t2
          rw [h1] at p
          rw [rp_rf p]
          cases g2
          exact .inl ⟨.ref a, .ref (k.ca B), .type "list", .ref (k.ca B), false, rfl, by constructor, .base (.lst g1), of_decide_eq_true (List.all_eq_true.mp t2 "list" (by decide)), fin _ w3⟩
        · rw [if_neg hB] at hb; cases hb
      | dic ds =>
        obtain ⟨o, g1, g2⟩ := r1.so a _ h2
        obtain ⟨b, hb, w3⟩ := wp_of.mp (wp_bind' w2)
        simp only [isoD, tyName, Option.map_some] at hb
        by_cases hB : B ∈ cs
        · rw [if_pos hB] at hb
          cases hb
          have t := List.all_eq_true.mp T.b B hB
          obtain ⟨_, t2⟩ := gand t
          obtain ⟨t2, _⟩ := gand t2
          rw [h1] at p
          rw [rp_rf p]
          cases g2
          exact .inl ⟨.ref a, .ref (k.ca B), .type "dict", .ref (k.ca B), false, rfl, by constructor, .base (.dK g1), of_decide_eq_true (List.all_eq_true.mp t2 "dict" (by decide)), fin _ w3⟩
        · rw [if_neg hB] at hb; cases hb
      | _ =>
        obtain ⟨o, g1, g2⟩ := r1.so a _ h2
        cases g2
    · by_cases hi : ∃ C fs, v.2 = .ins C fs
      · obtain ⟨C, fs, e⟩ := hi
        rw [e] at w2
        exact hins C fs (.inr e) w2
      · obtain ⟨b, hb, w3⟩ := wp_of.mp (wp_bind' w2)
        have hb' : (if B ∈ cs then (tyName v.2).map fun _ => false else none) = some b := by
          revert hb
          cases e : v.2 with
          | ins C fs => exact absurd ⟨C, fs, e⟩ hi
          | _ => exact fun h => h
        by_cases hB : B ∈ cs
        · rw [if_pos hB] at hb'
          obtain ⟨n, hn, rfl⟩ := Option.map_eq_some_iff.mp hb'
          have t := List.all_eq_true.mp T.b B hB
          obtain ⟨_, t2⟩ := gand t
          obtain ⟨t2, _⟩ := gand t2
          exact .inl ⟨x, .ref (k.ca B), .type n, .ref (k.ca B), false, rfl, by constructor, tyX_of r1.i p hn, of_decide_eq_true (List.all_eq_true.mp t2 n (tyName_bts hn)), fin _ w3⟩
        · rw [if_neg hB] at hb'; cases hb'
end
structure MkKw (P : Program) (w : World) (K : PySem.W.Frag) (mg : Str → Option Value) (base : Heap) (n : Nat) (x : Str) (C : Addr) (ps : List Str) (sp : Sp) (ks : List Str) (is : List Nat) : Prop where
  ex : ∃ f fd, Mk K C f ∧ FnOk P w K mg base (L2.CX P w) n f fd ps sp ∧ KBn K fd ps 1 ks (Z.perm is) (Z.perm is) ∧ mg x = some (.ref C)
def tMakeP (C : Addr) (m : Nat) (is : List Nat) (sp : Sp) (E : XK) (tk : TA) : TE := tMakeK C 0 m sp (Z.perm is) E tNil tk
theorem pe_mkK {X : Cx} {k : Nat} {C : Addr} {x : Str} {ps ks : List Str} {is : List Nat} {sp : Sp} {E : XK} {kws : List Keyword} {tk : TA} {p pos : Pos} (F : MkKw X.prog X.w X.K X.mg X.base k x C ps sp ks is) (hr : Room (k + 1) X.A) (hg : Gl X x) (hx : Passes (L2.CX X.prog X.w) X E) (hkw : PK X kws tk)
    (hall : (backToKw pos (keywordEach kws X.env)).all (·.1.isSome) = true := by rfl) (hks : (backToKw pos (keywordEach kws X.env)).filterMap (·.1) = ks := by rfl) (hdb : (x == ("__debug__" : Str)) = false := by decide)
    (hpl : ((backTo pos (starEach [] X.env)).any (·.1) || (backToKw pos (keywordEach kws X.env)).any (·.1.isNone)) = false := by rfl) :
    PE X (.Call (.Name x p) [] kws pos) (tMakeP C ks.length is sp E tk) := by
  obtain ⟨f, fd, M, F, hb, hm⟩ := F.ex
  exact pe_makeK0 M F hr hg hm hb hx hkw hall hks hdb hpl
def eMakeK (C : Str) (nk : Nat) (is : List Nat) (m : List D → M Vl) (fk : Env → M (List Vl)) : Env → M Vl := fun env => (fk env).bind fun xs => if xs.length = nk ∧ okA xs = true then .new (.ins C []) fun a => (m (dats (Z.perm is [(.s, .rf a)] xs))).bind fun r => match r with
  | (.s, .non) => .ok (.s, .rf a)
  | _ => .bad
  else .bad
section
variable {k : Kx} {E : XK} {tr : TA} {fr : Env → M (List Vl)}
theorem se_makeK {C : Str} {m : List D → M Vl} {nk : Nat} {is : List Nat} (hr : SA k E tr fr) : SE k E (tMakeP (k.ca C) nk is (spM k m) E tr) (eMakeK C nk is m fr) := fun R dr env σ G H n Q rl w => by
  refine hr R dr env σ G H n _ rl (wp_mono (wp_bind' w) (fun dr n1 vs w1 xs G1 H1 l1 r1 s1 => ?_) fun _ _ _ h => h)
  by_cases hc : vs.length = nk ∧ okA vs = true
  · rw [if_pos hc] at w1
    refine ⟨rfl, s1.len.trans hc.1, fun x dx hx hdx hne => ?_⟩
    have r2 := r1.new (o := .own x) hdx
    have hx2 : upd H1 dx (.own x) x = none := by rw [upd_ne (fun z => hne z.symm)]; exact hx
    obtain ⟨w2, ap⟩ := r2.newO (o := .ins (k.ca C) dx []) hx2 (.ins .nil)
    obtain ⟨r3, fr⟩ := (r2.new (o := .ins (k.ca C) dx []) hx2).ownS w2 ap
    refine call_end (vs := Z.perm is [(.s, .rf x)] vs) r3 (RSs.perm is (.cons (.rf x) .nil) s1) ?_
    have ho2 : okA (Z.perm is [((.s, .rf x) : Vl)] vs) = true := by
      unfold okA Z.perm
      rw [List.all_eq_true]
      intro u hu
      obtain ⟨i, _, hi⟩ := List.mem_filterMap.mp hu
      have hm := List.mem_of_getElem? hi
      rcases List.mem_append.mp hm with hm | hm
      · simp at hm; subst hm; rfl
      · exact List.all_eq_true.mp hc.2 u hm
    rw [if_pos ho2]
    refine wp_mono (wp_bind' (w1 x fr)) (fun dr n' r q y G3 H3 l3 r4 rv => ?_) fun _ _ _ h => h.mono l1
    obtain ⟨md, d⟩ := r
    cases md with
    | s =>
      cases d with
      | non => exact ⟨rp_non rv, q (.ref x) G3 H3 (l1.trans l3) r4 (.rf x)⟩
      | _ => exact q.elim
    | o => exact q.elim
    | v i => exact q.elim
  · rw [if_neg hc] at w1; exact w1.elim
end
end Y

namespace Y
open PySem PySem.Spec PyProof.Rows L2 Z LamX
section
variable {X : Cx} {pins : List (Addr × Obj)} {σ : L2.St} {H H1 : Hp} {s : Shared}
end
end Y

namespace Y
open PySem PySem.Spec PyProof.Rows L2 Z LamX
section
variable {X : Cx} {elt tg iter : Expr} {ifs : List Expr} {scope : Scope} {own : List (Str × Nat)} {pos : Pos} {wi : TI} {g : TG} {tt : L2.St → TT} {te : TE}
end
end Y

namespace Y
open PySem PySem.Spec PyProof.Rows L2 Z LamX
section
variable {X : Cx}
end
end Y

namespace Y
open PySem PySem.Spec PyProof.Rows L2 Z LamX
section
variable {k : Kx} {R : Hp} {dr : Dr} {env : Env} {σ : L2.St} {G H : Hp} {n : Nat}
end
structure Lms (q : Str) (LF : Nat → Addr → Addr → HO → Prop) (R G : Hp) (p : Addr) (fs : List (Addr × Addr × HO)) : Prop where
  hp : R p = some (.lst (fs.map fun t => .ref t.1))
  hf : ∀ j t, fs[j]? = some t → LF j t.1 t.2.1 t.2.2 ∧ R t.1 = some t.2.2 ∧ (R t.2.1 = some (CodeO t.2.1 q) ∨ G t.2.1 = some (CodeO t.2.1 q))
theorem Lms.mono {q : Str} {LF : Nat → Addr → Addr → HO → Prop} {R G G' : Hp} {p : Addr} {fs : List (Addr × Addr × HO)} (m : Lms q LF R G p fs) (l : Le G G') : Lms q LF R G' p fs :=
  ⟨m.hp, fun j t h => ⟨(m.hf j t h).1, (m.hf j t h).2.1, (m.hf j t h).2.2.imp id fun z => l _ _ z⟩⟩
section
variable {k : Kx} {E : XK} {q : Str} {LF : Nat → Addr → Addr → HO → Prop} {ts : Nat → XK → TE} {i iw : Nat} {B : Str} {cat : List Str} {tab : List (Str × Str × Bool)} {fbs : List (Env → M Vl)}
theorem Rl.rputL {R : Hp} {dr : Dr} {env : Env} {σ : L2.St} {G H : Hp} {n : Nat} {p : Addr} {xs ys : List V} (r : Rl k R dr env σ G H n) (h : R p = some (.lst xs)) : Rl k (upd R p (.lst ys)) dr env σ G (upd H p (.lst ys)) n := by
  have e : R = upd (fun b => if b = p then none else R b) p (.lst xs) := by
    funext b
    by_cases hb : b = p
    · rw [hb, upd_same, h]
    · rw [upd_ne hb, if_neg hb]
  rw [e] at r
  have e2 : upd R p (.lst ys) = upd (fun b => if b = p then none else R b) p (.lst ys) := by
    funext b
    by_cases hb : b = p
    · rw [hb, upd_same, upd_same]
    · rw [upd_ne hb, upd_ne hb, if_neg hb]
  rw [e2]
  exact r.rput (if_pos rfl) rfl (fun ps z => nomatch z) (not_code (.inl ⟨_, rfl⟩))
end
end Y

namespace Y
open PySem PySem.Spec PyProof.Rows L2 Z LamX
def eProp0 (C : Str) (mm : List D → M Vl) (fo : Env → M Vl) : Env → M Vl := eProp C (fun ds => (mm ds).nox) fo
theorem se_prop0 {k : Kx} {E : XK} {C : Str} {mm : List D → M Vl} {to : TE} {fo : Env → M Vl} (ho : SE k E to fo) : SE k E (tProp (k.ca C) (spM k mm) [] L2.E0 to) (eProp0 C mm fo) := fun R dr env σ G H n Q rl w => by
  refine ho.run rl (wp_bind' w) (fun _ _ _ h => h) fun dr n1 v x G1 H1 w1 l1 r1 s1 => ?_
  cases hv : isV v with
  | true => rw [hv, if_pos rfl] at w1; exact w1.elim
  | false =>
    rw [hv, if_neg (by simp)] at w1
    have p := rs_s hv s1
    have key : ∀ d0, wp dr n1 (if isC C d0 then (mm [v.2]).nox else .bad) (fun dr n' r => ∀ x G2 H2, Le G G2 → Rl k R dr env σ G2 H2 n' → RV k R dr env σ G2 H2 x r → Q x H2) (XP k R G E) → ((∃ a, v.2 = .rf a ∧ .inr (a, d0) ∈ dr) ∨ v.2 = d0) → ∃ a dx fs, x = .ref a ∧ H1 a = some (.ins (k.ca C) dx fs) ∧ spM k mm (.ref a :: []) H1 Q L2.E0 := by
      intro d0 wk hd
      by_cases hi : isC C d0 = true
      · rw [if_pos hi] at wk
        cases d0 <;> try (cases hi; done)
        rename_i C' fs
        simp only [isC, decide_eq_true_eq] at hi
        subst hi
        obtain ⟨a, dx, fv, hx, h1, h2⟩ := ins_at r1 p hd
        refine ⟨a, dx, fv, hx, h1, ?_⟩
        rw [← hx]
        refine call_end (vs := [v]) r1 (.cons s1 .nil) ?_
        have ho : okA [v] = true := by
          unfold okA
          rw [List.all_cons, hv]
          rfl
        rw [if_pos ho]
        exact wp_mono (wp_nox.mp wk) (fun dr n' r q x G3 H3 l3 => q x G3 H3 (l1.trans l3)) fun _ _ _ h => h.elim
      · rw [if_neg hi] at wk; exact wk.elim
    rcases cont_wp w1 with ⟨a, e, h1, h2, w2⟩ | ⟨h1, w2⟩
    · exact key e w2 (.inl ⟨a, h1, h2⟩)
    · exact key v.2 w2 (.inr rfl)
theorem all_cons {k : Kx} {t0 : XK → TE} {f0 : Env → M Vl} {T : List (XK → TE)} {F : List (Env → M Vl)} (h0 : ∀ E, SE k E (t0 E) f0) (h : ∀ (j : Nat) (t : XK → TE) (f : Env → M Vl), T[j]? = some t → F[j]? = some f → ∀ E, SE k E (t E) f) : ∀ (j : Nat) (t : XK → TE) (f : Env → M Vl), (t0 :: T)[j]? = some t → (f0 :: F)[j]? = some f → ∀ E, SE k E (t E) f
  | 0, t, f, h1, h2 => by
    simp at h1 h2
    subst h1 h2
    exact h0
  | j + 1, t, f, h1, h2 => h j t f (by simpa using h1) (by simpa using h2)
def bTmpApp (fo : Env → M Vl) : Env → M Out := fun env => (fo env).bind fun r => match r with
  | (.o, .lst ds) => if ds.length < 1000000 then .ok (.nx env) else .bad
  | _ => .bad
theorem ss_tmpApp {k : Kx} {E : XK} {to : TE} {fo : Env → M Vl} (ho : SE k E to fo) : SS k E (tDrop (tBM k.K "list" rAppend to (tCons (tC .non) tNil))) (bTmpApp fo) := fun R dr env σ G H n D rl w => by
  show to σ H _
  refine ho R dr env σ G H n _ rl (wp_mono (wp_bind' w) (fun dr n1 v w1 x G1 H1 l1 r1 rv => ?_) fun _ _ _ h => h)
  obtain ⟨md, d⟩ := v
  cases md with
  | s => exact w1.elim
  | v j => exact w1.elim
  | o =>
    cases d with
    | lst ds =>
      dsimp only at w1
      by_cases hl : ds.length < 1000000
      · rw [if_pos hl] at w1
        obtain ⟨a, rfl, ⟨o, h1, h2, h3⟩, ap⟩ := rv
        cases h2 with
        | lst pa =>
          rename_i xs
          refine ⟨.inl ⟨rfl, _, .inl (.inl h1)⟩, a, xs, .non, rfl, rfl, h1, Nat.lt_of_lt_of_le (by rw [pa.len]; exact hl) (by decide), ?_⟩
          have r2 := r1.res h1 (fun ps z => nomatch z) h3 ap
          have r3 := r2.rputL (p := a) (ys := xs ++ [.non]) upd_same
          have e : upd (upd R a (HO.lst xs)) a (.lst (xs ++ [.non])) = upd R a (.lst (xs ++ [.non])) := by
            funext b
            by_cases hb : b = a
            · rw [hb, upd_same, upd_same]
            · rw [upd_ne hb, upd_ne hb, upd_ne hb]
          rw [e] at r3
          exact w1 σ G1 _ l1 (r3.sub (le_upd h3.r))
      · rw [if_neg hl] at w1; exact w1.elim
    | _ => exact w1.elim
end Y

namespace Z
open PySem PySem.Spec PyProof.Rows L2
abbrev Tb := List (Addr × Str)
theorem extN_le {H H2 : Hp} (l : Le H H2) : LamX.ExtN H H2 := LamX.ExtN.of l
theorem tabs_le {T : Tb} {H H2 : Hp} (t : LamX.Tabs T H) (l : Le H H2) : LamX.Tabs T H2 := t.ext l
end Z

namespace Z
open PySem PySem.Spec PyProof.Rows L2
end Z

namespace Z
open PySem PySem.Spec PyProof.Rows L2
@[reducible] def dU {α : Type} (D : α → PyData) (xs : List α) : PyData := .tuple (xs.map D)
section
variable {K : PySem.W.Frag} {σ : L2.St} {G H : Hp} {te : TE}
end
end Z

namespace Y
open PySem PySem.Spec PyProof.Rows L2 Z
section
variable {prog : Program} {w : World} {A : Around} {E : Value → Shared → Prop} {s : Shared}
open PySem.W in
end
section
variable {X : Cx}
end
theorem rpa_take {k : Kx} {G : Hp} : ∀ {ys : List V} {ds : List D}, ys.length = ds.length → (∀ (i : Nat) y d, ys[i]? = some y → ds[i]? = some d → Rp k G y d) → RpA k G ys ds
  | [], [], _, _ => .nil
  | v :: vs, d :: ds, h, f => .cons (f 0 v d rfl rfl) (rpa_take (by simpa using h) fun i => f (i + 1))
  | [], _ :: _, h, _ => by cases h
  | _ :: _, [], h, _ => by cases h
def slT (d : D) (lo hi : Option Int) : Option D := match d with
  | .tup ds => some (.tup (cutL ds lo hi))
  | _ => none
def eSlT (fa : Env → M Vl) (fl fh : Env → M (Option Int)) : Env → M Vl := fun env => (fa env).bind fun x => (fl env).bind fun lo => (fh env).bind fun hi => (M.of (slT x.2 lo hi)).bind fun d => fin (isV x) d
theorem se_slT {k : Kx} {E : XK} {ta : TE} {fa : Env → M Vl} {tl th : TO} {fl fh : Env → M (Option Int)} (ha : SE k E ta fa) (hl : SO k E tl fl) (hh : SO k E th fh) : SE k E (L2.tSl (qSl k.K) ta tl th) (eSlT fa fl fh) := fun R dr env σ G H n Q rl w => by
  refine ha.run rl (wp_bind' w) (fun _ _ _ h => h) fun dr n1 v x G1 H1 w1 l1 r1 s1 => ?_
  refine hl R dr env σ G1 H1 n1 _ r1 (wp_mono (wp_bind' w1) (fun dr n2 lo w2 G2 H2 l2 r2 => ?_) fun _ _ _ h => h.mono l1)
  refine hh R dr env σ G2 H2 n2 _ r2 (wp_mono (wp_bind' w2) (fun dr n3 hi w3 G3 H3 l3 r3 => ?_) fun _ _ _ h => h.mono (l1.trans l2))
  obtain ⟨d, hd, w4⟩ := wp_of.mp (wp_bind' w3)
  refine op_end (P := qSl k.K x lo hi H3 Q) r3 (wp_mono w4 (fun dr n' r q x G5 H5 l5 => q x G5 H5 ((l1.trans (l2.trans l3)).trans l5)) (fun _ _ _ h => h)) fun G' l' i' _ q1 q2 fin => ?_
  have p := q1 x v (fun z => z) (s1.mono (l2.trans l3))
  unfold slT at hd
  split at hd
  · rename_i ds e
    cases hd
    rw [e] at p
    obtain ⟨a, vs, rfl, h1, h2⟩ := rp_tup p
    have hlen := h2.len
    refine .inr (.inr ⟨a, vs, rfl, in_t i' h1, fun hw => ?_, fun _ r hr => ?_⟩)
    · obtain ⟨w1, w2⟩ := hw
      have ec : cutL ds lo hi = ds := by
        unfold cutL
        rw [← hlen, w1, w2, List.drop_zero, Nat.sub_zero, hlen, List.take_length]
      rw [ec] at fin
      exact fin _ G' H3 (Up.refl i') p
    · have u := Up.new (o := .tup (cutV vs lo hi)) i' hr
      exact fin _ _ _ u (.tup (.inl (.inl upd_same)) ((h2.cut lo hi).mono u.g))
  · cases hd
end Y

namespace Z
open PySem PySem.Spec PyProof.Rows L2 PySem.W
section
variable {prog : Program} {w : World} {A : Around} {E : Value → Shared → Prop} {s : Shared}
end
end Z
namespace Y
open PySem PySem.Spec PyProof.Rows L2 Z
section
variable {k : Kx} {E : XK} {R : Hp} {dr : Dr} {env : Env} {σ : L2.St} {G G2 H H2 : Hp} {n n' : Nat} {tn : TE} {fn : Env → M Vl}
end
end Y

namespace Y
open PySem PySem.Spec PyProof.Rows L2 Z
section
variable {k : Kx} {E : XK}
end
end Y

namespace Y
open PySem PySem.Spec PyProof.Rows L2 Z
section
variable {k : Kx} {E : XK}
end
end Y

namespace Y
open PySem PySem.Spec PyProof.Rows L2 Z
section
variable {X : Cx}
end
def mergeD (es fs : List (Ky × D)) : List (Ky × D) := fs.foldl (fun acc p => putD acc p.1 p.2) es
section
variable {k : Kx} {E : XK} {R : Hp} {dr : Dr} {env : Env} {σ : L2.St} {G G2 H H2 : Hp} {n n' : Nat} {tx te : TE} {fx fe : Env → M Vl}
end
end Y
namespace Y
open PySem PySem.Spec PyProof.Rows L2 Z PySem.W
section
variable {k : Kx} {E : XK} {tr : TA} {fr : Env → M (List Vl)}
end
end Y

namespace Y
open PySem PySem.Spec PyProof.Rows L2 Z
def rDictP (K : PySem.W.Frag) : List V → Hp → VK → Prop := fun xs H Q => ∃ (a : Addr) (ps : List Addr) (kvs : List (Key × V)), xs = [.ref a] ∧ SqL K H a (ps.map V.ref) ∧ Paired (fun p kv => SqT K H p [kV kv.1, kv.2]) ps kvs ∧
    ∀ p, H p = none → Q (.ref p) (upd H p (.dK (mergeK [] kvs)))
theorem cr_dictP {X : Cx} (hc : X.calm = true) : CallR X (.type "dict") (rDictP X.K) := call_dictP hc
def kvPairs : List D → Option (List (Ky × D))
  | [] => some []
  | .tup [x, y] :: r => (keyD x).bind fun q => (kvPairs r).map fun es => (q, y) :: es
  | _ => none
def dictPD : List D → Option D
  | [.lst ds] => (kvPairs ds).map fun es => .dic (mergeD [] es)
  | _ => none
section
variable {k : Kx} {G H : Hp}
theorem kvp_rp (hi : In G H) : ∀ {ds : List D} {es : List (Ky × D)} {vs : List V}, kvPairs ds = some es → RpA k G vs ds → ∃ (ps : List Addr) (kvs : List (Key × V)), vs = ps.map V.ref ∧ Paired (fun p kv => SqT k.K H p [kV kv.1, kv.2]) ps kvs ∧ RpD k G kvs es
  | [], es, vs, h, r => by
    cases h
    exact ⟨[], [], rpa_nil r, .nil, .nil⟩
  | d :: ds, es, vs, h, r => by
    unfold kvPairs at h
    split at h
    · rename_i e
      cases e
    · rename_i x y rest e
      cases e
      obtain ⟨q, hq, h⟩ := Option.bind_eq_some_iff.mp h
      obtain ⟨es2, h2, h3⟩ := Option.map_eq_some_iff.mp h
      cases h3
      obtain ⟨v, us, rfl, g1, g2⟩ := rpa_cons r
      obtain ⟨ps, kvs, rfl, pp, rr⟩ := kvp_rp hi h2 g2
      obtain ⟨p, xs, rfl, t1, t2⟩ := rp_tup g1
      obtain ⟨v1, u1, rfl, a1, a2⟩ := rpa_cons t2
      obtain ⟨v2, u2, rfl, b1, b2⟩ := rpa_cons a2
      obtain rfl := rpa_nil b2
      have ek := key_kV hq a1
      subst ek
      exact ⟨p :: ps, (kk q, v2) :: kvs, rfl, .cons (in_t hi t1) pp, .cons b1 rr⟩
    · cases h
theorem co_dictP : CaO k (rDictP k.K) dictPD := fun G H xs ds d hi px hd Q q => by
  unfold dictPD at hd
  split at hd
  · rename_i es
    obtain ⟨ws, h1, h2⟩ := Option.map_eq_some_iff.mp hd
    cases h2
    obtain ⟨v, rfl, p⟩ := rpa_one px
    obtain ⟨a, vs, rfl, h2, h3⟩ := rp_lst p
    obtain ⟨ps, kvs, rfl, pp, rr⟩ := kvp_rp hi h1 h3
    exact ⟨a, ps, kvs, rfl, .inl (hi.rd h2), pp, fun p hp => q p _ hp (.dic (RpD.merge rr .nil))⟩
  · cases hd
end
end Y

namespace Y
open PySem PySem.Spec PyProof.Rows L2 Z
section
variable {P : Program} {w : World} {A : Around} {E : Value → Shared → Prop} {s : Shared} {a b : Addr} {x : Str}
end
section
variable {X : Cx} {pins : List (Addr × Obj)} {σ : L2.St} {H : Hp} {s : Shared}
end
section
variable {k : Kx} {E : XK} {ta tb : TE} {fa fb : Env → M Vl}
end
end Y

namespace Y
open PySem PySem.Spec PyProof.Rows L2 Z
section
variable {k : Kx} {G : Hp}
end
end Y

namespace Y
open PySem PySem.Spec PyProof.Rows L2 Z PySem.W
section
variable {k : Kx} {E : XK} {tr : TA} {fr : Env → M (List Vl)}
end
section
variable {X : Cx}
end
section
variable {k : Kx} {E : XK} {tr : TA} {fr : Env → M (List Vl)}
end
end Y

namespace Y
open PySem PySem.Spec PyProof.Rows L2 Z PySem.W
section
variable {k : Kx} {E : XK}
end
end Y
namespace Y
open PySem PySem.Spec PyProof.Rows L2 Z PySem.W
def addT : D → D → Option D
  | .tup a, .tup b => if a.length + b.length ≤ 1000000 then some (.tup (a ++ b)) else none
  | _, _ => none
theorem os_addT {k : Kx} : OpS k (qAdd k.K) addT := fun G H x y a b d hi px py hd Q q => by
  unfold addT at hd
  split at hd
  · rename_i as bs
    split at hd
    · rename_i hl
      cases hd
      obtain ⟨p, xs, rfl, h1, h2⟩ := rp_tup px
      obtain ⟨p', ys, rfl, h3, h4⟩ := rp_tup py
      refine .inr (.inr (.inr ⟨p, p', xs, ys, rfl, rfl, in_t hi h1, in_t hi h3, by rw [h2.len, h4.len]; exact Nat.le_trans hl (by decide), fun z => ?_, fun _ z => ?_, fun _ _ r hr => ?_⟩))
      · subst z
        have : as = [] := List.eq_nil_of_length_eq_zero (by rw [← h2.len]; rfl)
        subst this
        exact q _ G H (Up.refl hi) py
      · subst z
        have : bs = [] := List.eq_nil_of_length_eq_zero (by rw [← h4.len]; rfl)
        subst this
        rw [List.append_nil] at q
        exact q _ G H (Up.refl hi) px
      · have u := Up.new (o := .tup (xs ++ ys)) hi hr
        exact q _ _ _ u (.tup (.inl (.inl upd_same)) ((h2.app h4).mono u.g))
    · cases hd
  · cases hd
end Y

namespace Y
open PySem PySem.Spec PyProof.Rows L2 Z
open PySem.SeqAt
open AutoSeq1 (wpAny_loadPart')
open MeetsSeq MeetsSeq2 MeetsSeq3 SeqRoads2
section
variable {prog : Program} {w : World} {A : Around} {R : Result → Shared → Prop} {s : Shared} {x C dx : Addr}
end
end Y

namespace Y
open PySem PySem.Spec PyProof.Rows L2 Z
open PySem.SeqAt
open AutoSeq1 (wpAny_loadPart')
open MeetsSeq MeetsSeq2 MeetsSeq3 SeqRoads2
section
variable {prog : Program} {w : World} {A : Around} {E : Value → Shared → Prop} {s : Shared} {K : PySem.W.Frag} {x C f : Addr} {ox : Obj} {od : Option Obj}
end
section
variable {X : Cx} {n : Nat} {C : Addr} {sp : Sp} {E : XK}
end
end Y

namespace Y
open PySem PySem.Spec PyProof.Rows L2 Z
section
variable {k : Kx} {E : XK} {ta : TE} {fa : Env → M Vl} {tr : TA} {fr : Env → M (List Vl)}
end
end Y

namespace Y
open PySem PySem.Spec PyProof.Rows L2 Z
section
variable {X : Cx} {te : TE} {e : Expr} {p pos cpos apos : Pos}
end
def rDictC : List V → Hp → VK → Prop := fun xs H Q => ∃ (a : Addr) (kvs : List (Key × V)), xs = [.ref a] ∧ Rd H a (.dK kvs) ∧ ∀ p, H p = none → Q (.ref p) (upd H p (.dK kvs))
theorem cr_dictC {X : Cx} : CallR X (.type "dict") rDictC := call_dictD
def dictCD : List D → Option D
  | [.dic es] => some (.dic es)
  | _ => none
theorem co_dictC {k : Kx} : CaO k rDictC dictCD := fun G H xs ds d hi px hd Q q => by
  unfold dictCD at hd
  split at hd
  · rename_i es
    cases hd
    obtain ⟨v, rfl, p⟩ := rpa_one px
    obtain ⟨a, vs, rfl, h2, h3⟩ := rp_dic p
    exact ⟨a, vs, rfl, hi.rd h2, fun p hp => q p _ hp (.dic h3)⟩
  · cases hd
def rStrI : List V → Hp → VK → Prop := fun xs H Q => ∃ i : Int, xs = [.int i] ∧ i.natAbs.log2 < 1920 ∧ Q (.str (toString i)) H
theorem cr_strI {X : Cx} : CallR X (.type "str") rStrI := call_str_int
def strID : List D → Option D
  | [.int i] => if i.natAbs.log2 < 1920 then some (.str (toString i : Str).cps.toList) else none
  | _ => none
theorem cs_strI {k : Kx} : CaS k rStrI strID := fun G H xs ds d hi px hd Q q => by
  unfold strID at hd
  split at hd
  · rename_i i
    split at hd
    · rename_i hl
      cases hd
      obtain ⟨v, rfl, p⟩ := rpa_one px
      rw [rp_int p]
      refine ⟨i, rfl, hl, ?_⟩
      rw [← S_eta (toString i : Str)]
      exact q _ G H (Up.refl hi) (.str _)
    · cases hd
  · cases hd
def ipAdd : TIp := fun x y H Q => ipI (fun i j => i + j) x y H Q ∨ rAddS x y H Q
theorem ip_addA {X : Cx} : PIp X .Add ipAdd := fun pins s σ H x y v u Q I r1 r2 h => h.elim (fun h => ip_add pins s σ H x y v u Q I r1 r2 h) fun h => iop_add_str pins s σ H x y v u Q I r1 r2 h
def augD : D → D → Option D
  | .int i, .int j => some (.int (i + j))
  | .str a, .str b => if a.length + b.length ≤ 10000000 then some (.str (a ++ b)) else none
  | _, _ => none
theorem os_augA {k : Kx} : OpS k ipAdd augD := fun G H x y a b d hi px py hd Q q => by
  unfold augD at hd
  split at hd
  · cases hd
    rw [rp_int px, rp_int py]
    exact .inl ⟨_, _, rfl, rfl, q _ G H (Up.refl hi) (.int _)⟩
  · split at hd
    · rename_i hl
      cases hd
      rw [rp_str px, rp_str py]
      refine .inr ?_
      exact opv_addS (K := k.K) hl G H _ _ hi (.str _) (.str _) Q fun v G2 H2 u p => q v G2 H2 u (of_z (.str _) (by simp [Y.py]) p)
    · cases hd
  · cases hd
def bAug (i : Nat) (g : D → D → Option D) (fe : Env → M Vl) : Env → M Out := fun env => match env[i]? with
  | some (some (false, d0)) => (fe env).bind fun r => if isV r then .bad else (M.of (g d0 r.2)).bind fun d => .ok (.nx (env.set i (some (false, d))))
  | _ => .bad
theorem ss_aug {k : Kx} {E : XK} {te : TE} {fe : Env → M Vl} {i : Nat} {ti : TIp} {g : D → D → Option D} (ho : OpS k ti g) (he : SE k E te fe) : SS k E (tAug i te ti) (bAug i g fe) := fun R dr env σ G H n D rl w => by
  unfold bAug at w
  split at w
  · rename_i d0 h0
    obtain ⟨x, hx, px⟩ := rl.sh i d0 h0
    refine ⟨x, hx, ?_⟩
    refine he.run rl (wp_bind' w) (fun _ _ _ h => h) fun dr n1 v y G1 H1 w1 l1 r1 s1 => ?_
    cases hv : isV v with
    | true => rw [hv, if_pos rfl] at w1; exact w1.elim
    | false =>
      rw [hv, if_neg (by simp)] at w1
      have py := rs_s hv s1
      obtain ⟨d, hd, w2⟩ := wp_of.mp (wp_bind' w1)
      refine ho G1 H1 x y d0 v.2 d r1.i (px.mono l1) py hd _ fun z G2 H2 u p => ?_
      obtain ⟨r2, l2⟩ := r1.up u
      exact w2 _ _ H2 (l1.trans l2) (r2.set p.clean)
  · exact w.elim
end Y

namespace Y
open PySem PySem.Spec PyProof.Rows L2 Z
section
variable {X : Cx}
end
section
variable {k : Kx} {G H : Hp}
end
end Y

namespace PySem.W
open PySem PySem.Spec PySem.Calls PyProof.Rows
section
variable {prog : Program} {w : World} {A : Around} {E : Value → Shared → Prop} {s : Shared} {K : Frag} {x D : Addr} {ox : Obj} {od : Option Obj}
theorem findObj_dataO {C : Addr} {name : Str} {a g : Value} (hc : (clsIn K C).isSome = true) (ha : findIn K (.ref C) name = some (some a)) (hg : specialIn K a "__get__" = some (some g)) (ht : takesIn K a = some true) : findObj K C od name = some (.bind g a) := by
  obtain ⟨cd, hc⟩ := Option.isSome_iff_exists.mp hc
  unfold findObj
  rw [hc, Option.bind_some, ha, Option.bind_some]
  simp [hg, ht]
theorem kin_classO {Q : Option Value → Shared → Prop} (hga : findIn K (.ref D) "__getattribute__" = some (some (.builtin "BaseException.__getattribute__"))) (hgt : findIn K (.ref D) "__getattr__" = some none) (hsub : subIn K (.ref D) (.type "BaseException") = some true)
    (hdct : hasDictIn K D = true) (ha : findIn K (.ref D) "__class__" = some (some (.builtin "object.__class__")))
    (hn : specialIn K (.builtin "object.__class__") "__get__" = some (some (.builtin "getset_descriptor.__get__"))) (htk : takesIn K (.builtin "object.__class__") = some true) (hm : mroIn K D (.type "object") = some true)
    (X : K.In s.heap) (I : InstAt s.heap x ox D od) (h : Q (some (.ref D)) { s with toks := s.toks + 1 }) : wpAny (model prog w) A (getAttr? (.ref x) "__class__") Q E s := by
  have hf : findObj K D od "__class__" = some (.bind (.builtin "getset_descriptor.__get__") (.builtin "object.__class__")) := findObj_dataO (by obtain ⟨cd, hc, _⟩ := any_some hdct; rw [hc]; rfl) ha hn htk
  obtain ⟨hp, g, d, t, os⟩ := s
  have L0 := I.type (M := model prog w)
  have L1 := looks_findIn (M := model prog w) X hga
  have L2 := looks_findIn (M := model prog w) X hgt
  have L3 := looks_find (M := model prog w) X I hf
  have sub : Looks (model prog w) hp (isInstance (.ref x) (.type "BaseException")) true := L0.andThen (looks_subIn X hsub)
  have hx0 : (false && onTheHeap (Value.builtin "BaseException.__getattribute__")) = false := rfl
  have hx2 : (Value.builtin "BaseException.__getattribute__" == Value.builtin "object.__getattribute__") = false := by decide +kernel
  have hx1 : (onTheHeap (Value.ref D) && Value.builtin "BaseException.__getattribute__" == Value.builtin "object.__getattribute__") = false := by rw [hx2]; rfl
  unfold getAttr? getAttrBy? getAttrBy
  refine wpAny_bind (wpAny_mkText (wpAny_bind (wpAny_attempt (wpAny_holding (wpAny_bind (L0.at (wpAny_bind (L1.at ?_))))))))
  show wpAny _ _ (if (onTheHeap (Value.ref D) && Value.builtin "BaseException.__getattribute__" == Value.builtin "object.__getattribute__") = true then _ else _) _ _ _
  rw [hx1, if_neg Bool.false_ne_true]
  unfold getAttrByItsOwn hookBefore
  refine wpAny_bind ?_
  rw [if_pos (show onTheHeap (Value.ref D) = true from rfl)]
  refine L2.at ?_
  refine wpAny_bind (wpAny_attempt (wpAny_holding ?_))
  unfold callGetattribute
  rw [hx0, if_neg Bool.false_ne_true]
  unfold boundAndCalled
  rw [PySem.F.excAttr_ValueError.ga.bind (.ref x)]
  refine wpAny_bind (wpAny_pure ?_)
  show wpAny _ _ (call (.builtin "BaseException.__getattribute__") [.ref x, .str "__class__" t]) _ _ _
  refine wpAny_call (codeAny_call_builtin PySem.F.excAttr_ValueError.ga.plain PySem.F.entry_bexc_ga ?_)
  refine @check_slot (model prog w) _ _ ⟨hp, g, d, t + 1, os⟩ "BaseException.__getattribute__" "BaseException" "__getattribute__" (.ref x) [.str "__class__" t] [] _ (by decide +kernel) (by decide +kernel) sub (PySem.F.args_bexc_ga (.ref x) (.str "__class__" t)) ?_
  unfold Builtin.«object.__getattribute__»
  refine wpAny_bind (wpAny_of_eq (a := ((Value.ref x : Value), [Value.str "__class__" t])) (by first | rfl | (simp only [slotArgs]; rfl)) ?_)
  refine wpAny_bind (wpAny_pure (wpAny_bind (L0.at (wpAny_bind (L3.at ?_)))))
  show wpAny _ _ (holding [Value.builtin "object.__class__"] (call (.builtin "getset_descriptor.__get__") [.builtin "object.__class__", .ref x, .ref D]) >>= ret) _ _ _
  refine wpAny_bind (wpAny_holding (wpAny_call (class_get (s := ⟨hp, g, d, t + 1, os⟩) (ox := ox) (od := od) X I hm ?_)))
  refine wpAny_pure ?_
  show wpAny _ _ (handedOut (.ref D)) _ _ _
  rw [handedOut_of (v := .ref D) rfl]
  first
    | exact wpAny_pure (wpAny_pure h)
    | exact wpAny_pure h
    | exact wpAny_pure (wpAny_bind (wpAny_pure (wpAny_pure h)))
theorem kitx_excO (hga : findIn K (.ref D) "__getattribute__" = some (some (.builtin "BaseException.__getattribute__"))) (hgt : findIn K (.ref D) "__getattr__" = some none) (hsub : subIn K (.ref D) (.type "BaseException") = some true) (hdct : hasDictIn K D = true) (ha : findIn K (.ref D) "__class__" = some (some (.builtin "object.__class__")))
    (hn : specialIn K (.builtin "object.__class__") "__get__" = some (some (.builtin "getset_descriptor.__get__"))) (htk : takesIn K (.builtin "object.__class__") = some true) (hm : mroIn K D (.type "object") = some true) :
    KitX K (.ref x) (.ref D) (fun h => InstAt h x ox D od) where
  ty := fun _ _ _ I => I.type
  it := fun _ _ X _ => by
    obtain ⟨cdD, hcD, _⟩ := any_some hdct
    unfold clsIn at hcD
    split at hcD
    · rename_i c' d' cd' sl' ho
      intro A' Q' E' s' k q
      unfold isType loadHead
      exact wpAny_bind (wpAny_loadPart (k _ _ (X _ _ ho)) (wpAny_pure q))
    · cases hcD
  ne := fun h tp dd its n sl X htp => by
    obtain ⟨cdD, hcD, _⟩ := any_some hdct
    refine Bool.eq_false_iff.mpr fun q => ?_
    have e : D = tp := Value.ref.inj (beq_iff_eq.mp q)
    subst e
    unfold clsIn at hcD
    split at hcD
    · rename_i c' d' cd' sl' ho
      have z := (X _ _ ho).symm.trans htp
      cases z
    · cases hcD
  ca := fun X I k => kin_classO hga hgt hsub hdct ha hn htk hm X I k
end
end PySem.W

namespace Y
open PySem PySem.Spec PySem.W PyProof.Rows L2 L2.DX
abbrev encI (e : Int × Str) : PyData := .tuple [.int e.1, .str e.2]
theorem encI_le {e f : Int × Str} (h : e.1 < f.1) : dataLe false encI e f = true := by
  have h2 : dataLt (encI f) (encI e) = false := by
    show PyProof.Rows.lexLt itemOrd (.inl 1 :: (([.inl f.1] : List (Int ⊕ List Nat)) ++ _)) (.inl 1 :: (([.inl e.1] : List (Int ⊕ List Nat)) ++ _)) = false
    rw [lex_self (O := itemOrd)]
    show PyProof.Rows.lexLt itemOrd (.inl f.1 :: _) (.inl e.1 :: _) = false
    rw [lex_diff (O := itemOrd) (by simp; omega)]
    show decide (f.1 < e.1) = false
    simp; omega
  show (!dataLt (encI f) (encI e)) = true
  rw [h2]; rfl
theorem each_ix {α : Type} {R : Value → α → Prop} : ∀ (us : List Value) (is : List α), us.length = is.length → (∀ (j : Nat) v i, us[j]? = some v → is[j]? = some i → R v i) → EachIs R us is
  | [], [], _, _ => .nil
  | u :: us, i :: is, h, f => .cons (f 0 u i rfl rfl) (each_ix us is (by simpa using h) fun j => f (j + 1))
  | [], _ :: _, h, _ => by cases h
  | _ :: _, [], h, _ => by cases h
theorem each_at {α : Type} {R : Value → α → Prop} {us : List Value} {is : List α} (e : EachIs R us is) : ∀ (j : Nat) v i, us[j]? = some v → is[j]? = some i → R v i := by
  induction e with
  | nil => intro j v i h; simp at h
  | cons h t ih =>
    intro j v i h1 h2
    cases j with
    | zero => simp at h1 h2; subst h1; subst h2; exact h
    | succ j => exact ih j v i (by simpa using h1) (by simpa using h2)
abbrev entI (e : Int × Str) : Key × V := (Sum.inl e.1, V.str e.2)
def rSortI : List V → Hp → VK → Prop := fun vs H Q => ∃ (p a : Addr) (es : List (Int × Str)), vs = [.ref p] ∧ H p = some (itemsO p a) ∧ Rd H a (.dK (es.map entI)) ∧ es.Pairwise (fun e f => e.1 < f.1) ∧
  ∀ (H' : Hp) (l : Addr) (as : List Addr), (∀ b o, H b = some o → H' b = some o) → H l = none → as.Nodup → as.length = es.length → (∀ a ∈ as, H a = none ∧ a ≠ l) → H' l = some (.lst (as.map V.ref)) → (∀ (j : Nat) (a : Addr) (e : Int × Str), as[j]? = some a → es[j]? = some e → H' a = some (.tup [.int e.1, .str e.2])) → Q (.ref l) H'
theorem cr_sortI {X : Cx} (hc : X.calm = true) (hu : X.A.units + 100 < cLine) : CallR X (.builtin "sorted") rSortI := by
  intro pins s σ H xs us Q I r h
  obtain ⟨p, a, es, rfl, hp, ha, hasc, q⟩ := h
  obtain rfl := Vals.ref1 r
  have view : s.heap.IsItemsView p a := (show ObjOk X.prog X.w H s.heap p (itemsO p a) from I.hok p _ hp).1
  obtain ⟨z, hd, vs, kv, dd⟩ := dk_rd I.hok ha
  rw [List.length_map] at z
  obtain ⟨eA, ep, raw, hsz, hat⟩ := PySem.Heap.DictOf.raw dd
  have lk : es.length = vs.length := by have := KV.length kv; rwa [List.length_map] at this
  have hh := I.ok.hd hc
  refine DT.sortedI (es := eA) (ep := ep) hh view raw (by omega) fun h' tk as hk hlt hl hG => ?_
  have las : as.length = es.length := by omega
  have nd : as.Nodup := List.Pairwise.imp (fun h => Nat.ne_of_lt h) hG.rise
  have pr : ∀ (j : Nat) (b : Addr) (e : Int × Str), as[j]? = some b → es[j]? = some e → ∃ t u, h'.get? b = some { cls := .type "tuple", data := .seq #[Value.int e.1 t, Value.str e.2 u] } := by
    intro j b e hj he
    obtain ⟨en, hen, hg⟩ := hG.pairs j b hj
    have hjl : j < eA.size := (Array.getElem?_eq_some_iff.mp hen).1
    have hv : j < vs.length := by omega
    obtain ⟨k, v⟩ : Key × Value := vs[j]
    have hvj : vs[j]? = some vs[j] := List.getElem?_eq_getElem hv
    obtain ⟨q0, hq0, r1, r2⟩ := pget kv hvj
    rw [List.getElem?_map, he] at hq0
    cases hq0
    obtain ⟨k1, k2⟩ := hat j hjl vs[j].1 vs[j].2 hvj
    have e1 : eA[j] = en := by
      have := Array.getElem?_eq_getElem hjl
      rw [hen] at this; exact (Option.some.inj this).symm
    rw [← r1, e1] at k1
    rw [e1] at k2
    obtain ⟨t, ht⟩ : ∃ t, en.key = Value.int e.1 t := Value.isInt_shape k1
    obtain ⟨u, hu'⟩ : ∃ u, vs[j].2 = Value.str e.2 u := r2
    refine ⟨t, u, ?_⟩
    rw [hg, ht, k2, hu']
  have hob : (h'.push { cls := .type "list", data := .seq (as.map Value.ref).toArray }).get? h'.objs.size = some (seqObj "list" (as.map Value.ref).toArray 0) := Heap.get?_push_size _ rfl
  have kb : ∀ b o, s.heap.get? b = some o → (h'.push { cls := .type "list", data := .seq (as.map Value.ref).toArray }).get? b = some o := fun b o e => Heap.get?_push_of_some _ (hk b o e)
  have ne0 : ∀ b o, h'.get? b = some o → b ≠ h'.objs.size := fun b o e => Nat.ne_of_lt (Heap.lt_size e)
  generalize hh2 : h'.push { cls := .type "list", data := .seq (as.map Value.ref).toArray } = h2 at hob kb ⊢
  have ka : ∀ b o, h'.get? b = some o → h2.get? b = some o := fun b o e => by rw [← hh2]; exact Heap.get?_push_of_some _ e
  have rd : ∀ (hX : Heap), (∀ b o, h'.get? b = some o → hX.get? b = some o) → EachIs (fun v b => ∃ ad, Reads hX v (encI b) ad) (as.map Value.ref) es := fun hX hKX => by
    refine each_ix _ _ (by rw [List.length_map]; exact las) fun j v e hj he => ?_
    rw [List.getElem?_map] at hj
    obtain ⟨b, hb, rfl⟩ := Option.map_eq_some_iff.mp hj
    obtain ⟨t, u, hg⟩ := pr j b e hb he
    exact ⟨_, Reads.tuple (hKX _ _ hg) rfl rfl (.cons (.int _ _) (.cons (.str _ _) .nil))⟩
  have rd' := rd (sortingHeap h2 h'.objs.size (as.map Value.ref)) fun b o e => sortingHeap_old (ne0 b o e) (ka b o e)
  have hal : AllAlike (es.map encI) := fun d hd d' hd' => by
    obtain ⟨x, _, rfl⟩ := List.mem_map.mp hd
    obtain ⟨y, _, rfl⟩ := List.mem_map.mp hd'
    simp [alike, alikeAll]
  have hk' : Sortable (es.map encI) := .inl fun d hd => by
    obtain ⟨x, _, rfl⟩ := List.mem_map.mp hd
    exact ⟨_, _, rfl⟩
  have hself : EachIs (fun v e => ∃ (j : Nat) (b : Addr), v = Value.ref b ∧ as[j]? = some b ∧ es[j]? = some e) (as.map Value.ref) es := by
    refine each_ix _ _ (by rw [List.length_map]; exact las) fun j v e hj he => ?_
    rw [List.getElem?_map] at hj
    obtain ⟨b, hb, rfl⟩ := Option.map_eq_some_iff.mp hj
    exact ⟨j, b, rfl, hb, he⟩
  have hms : es.mergeSort (dataLe false encI) = es := List.mergeSort_of_pairwise (hasc.imp fun h => encI_le h)
  have hnd : ∀ (i j : Nat) (e : Int × Str), es[i]? = some e → es[j]? = some e → i = j := fun i j e hi hj => by
    rcases Nat.lt_trichotomy i j with h | h | h
    · obtain ⟨hi', rfl⟩ := List.getElem?_eq_some_iff.mp hi
      obtain ⟨hj', e2⟩ := List.getElem?_eq_some_iff.mp hj
      have := List.pairwise_iff_getElem.mp hasc i j hi' hj' h
      rw [e2] at this; omega
    · exact h
    · obtain ⟨hj', rfl⟩ := List.getElem?_eq_some_iff.mp hj
      obtain ⟨hi', e2⟩ := List.getElem?_eq_some_iff.mp hi
      have := List.pairwise_iff_getElem.mp hasc j i hj' hi' h
      rw [e2] at this; omega
  refine wpAny_call_entry PyProof.Rows.slot_list_sort ⟨_, hob, rfl⟩ PyProof.Rows.entry_list_sort ?_ (PyProof.Rows.args_list_sort _)
  refine list_sort_vals (s := { s with heap := h2, toks := tk }) hob (SortsAt.data (s := { s with heap := sortingHeap h2 h'.objs.size (as.map Value.ref), toks := tk }) (each_map (R := fun v d => ∃ ad, Reads (sortingHeap h2 h'.objs.size (as.map Value.ref)) v d ad) encI rd') hal hk' (fun d hd => ?_)) (by rw [List.length_map]; omega) ⟨.none, rfl, ?_⟩
  · obtain ⟨x, _, rfl⟩ := List.mem_map.mp hd
    have : (encI x).depth ≤ 5 := by simp [PyData.depth, PyData.depthAll]
    show _ + (encI x).depth < cLine
    simp only [Around.in1] at *
    omega
  · have ho := sortVals_data (h' := sortingHeap h2 h'.objs.size (as.map Value.ref)) false hself rd' hal
    rw [hms] at ho
    generalize hout : sortVals (dataKind (sortingHeap h2 h'.objs.size (as.map Value.ref)) (es.map encI)) false (as.map Value.ref) (as.map Value.ref) = out at ho ⊢
    have hoe : out = as.map Value.ref := by
      apply List.ext_getElem?
      intro j
      have ol := ho.length
      by_cases hj : j < es.length
      · have h1 : out[j]? = some out[j] := List.getElem?_eq_getElem (by omega)
        have h2 : es[j]? = some es[j] := List.getElem?_eq_getElem hj
        obtain ⟨i, b, e1, e2, e3⟩ := each_at ho j _ _ h1 h2
        rw [hnd i j _ e3 h2] at e2
        rw [h1, e1, List.getElem?_map, e2]; rfl
      · rw [List.getElem?_eq_none (by omega), List.getElem?_eq_none (by rw [List.length_map]; omega)]
    subst hoe
    show EP X pins σ Q (.ref h'.objs.size) { s with heap := sortedHeap h2 h'.objs.size (as.map Value.ref) (as.map Value.ref).toArray, toks := tk }
    have kF : ∀ b o, b ≠ h'.objs.size → h2.get? b = some o → (sortedHeap h2 h'.objs.size (as.map Value.ref) (as.map Value.ref).toArray).get? b = some o := fun b o hb e => (PyProof.Rows.sortedHeap_old hb (Heap.lt_size e)).trans e
    have kS : ∀ b o, s.heap.get? b = some o → (sortedHeap h2 h'.objs.size (as.map Value.ref) (as.map Value.ref).toArray).get? b = some o := fun b o e => kF b o (ne0 _ _ (hk b o e)) (kb b o e)
    obtain ⟨eF, heF⟩ := PyProof.Rows.sortedHeap_at (vs := as.map Value.ref) (out := (as.map Value.ref).toArray) hob
    have I1 : Inv X pins σ H { s with heap := sortedHeap h2 h'.objs.size (as.map Value.ref) (as.map Value.ref).toArray, toks := tk } := I.kept (t' := tk) kS
    have hn0 : H h'.objs.size = none := I.hok.fresh (Nat.le_of_lt hlt)
    have rv : Vals (as.map V.ref) (as.map Value.ref) := vals_maps (fun z : Addr => V.ref z) (fun z => Value.ref z) as fun _ _ => rfl
    have I2 : Inv X pins σ (upd H h'.objs.size (.lst (as.map V.ref))) { s with heap := sortedHeap h2 h'.objs.size (as.map Value.ref) (as.map Value.ref).toArray, toks := tk } :=
      I1.take (h' := sortedHeap h2 h'.objs.size (as.map Value.ref) (as.map Value.ref).toArray) (t' := tk) (fun b ob _ e => e) (I.fpOk (Nat.le_of_lt hlt) hn0) ⟨by rw [List.length_map]; omega, as.map Value.ref, eF, rv, by simpa using heF⟩
    have fresh : ∀ b ∈ as, H b = none ∧ b ≠ h'.objs.size := fun b hb => by
      obtain ⟨j, hj⟩ := List.mem_iff_getElem?.mp hb
      obtain ⟨e, _, hg⟩ := hG.pairs j b hj
      exact ⟨I.hok.fresh (Nat.le_of_lt (hG.above b hb)), ne0 _ _ hg⟩
    obtain ⟨H2, I3, g, qt⟩ := takeT (P := fun b vs => ∃ (j : Nat) (e : Int × Str), as[j]? = some b ∧ es[j]? = some e ∧ vs = [.int e.1, .str e.2]) I as _ I2 nd fun b hb => by
      obtain ⟨j, hj⟩ := List.mem_iff_getElem?.mp hb
      have hjl : j < es.length := by rw [← las]; exact (List.getElem?_eq_some_iff.mp hj).1
      have he : es[j]? = some es[j] := List.getElem?_eq_getElem hjl
      obtain ⟨t, u, hg⟩ := pr j b _ hj he
      refine ⟨Nat.le_of_lt (hG.above b hb), ?_, [.int es[j].1, .str es[j].2], ⟨j, _, hj, he, rfl⟩, fun H3 => ⟨(by rw [sizeLine_eq]; show 2 ≤ 16777216; omega), [Value.int es[j].1 t, Value.str es[j].2 u], .cons ⟨t, rfl⟩ (.cons ⟨u, rfl⟩ .nil), ⟨_, kF _ _ (ne0 _ _ hg) (ka _ _ hg), rfl, 0, rfl⟩⟩⟩
      rw [upd_ne (fresh b hb).2]
      exact (fresh b hb).1
    have gr : ∀ b o, H b = some o → H2 b = some o := fun b o e => g b o (by rw [upd_ne (ne_of_none e hn0)]; exact e)
    refine ⟨.ref h'.objs.size, H2, I3, rfl, q H2 h'.objs.size as gr hn0 nd las fresh (g _ _ upd_same) fun j b e hj he => ?_⟩
    obtain ⟨vs', ⟨i, e', i1, i2, ev⟩, hH⟩ := qt b (List.mem_of_getElem? hj)
    have eij : i = j := (List.getElem?_inj (List.getElem?_eq_some_iff.mp i1).1 nd).mp (i1.trans hj.symm)
    subst eij
    rw [he] at i2
    cases i2
    rw [ev] at hH
    exact hH
end Y

namespace Y
open PySem PySem.Spec PyProof.Rows L2 L2.DX Z
def rIsF (K : PySem.W.Frag) : List V → Hp → VK → Prop := fun xs H Q => ∃ (a D d : Addr) (fs : List (Str × V)) (c : V) (cv : Value) (b : Bool), xs = [.ref a, c] ∧ H a = some (ExV (.ref D) (some d) a) ∧ H d = some (.xd fs) ∧ ExcC K D ∧ (∀ u, RelV c u → u = cv) ∧ PySem.W.kitOne K (.ref D) cv = some b ∧ Q (.bl b) H
theorem call_isF {X : Cx} : CallR X (.builtin "isinstance") (rIsF X.K) := by
  intro pins s σ H xs us Q I r h
  obtain ⟨a, D, d, fs, c, cv, b, rfl, ha, ed, C, hcv, e, q⟩ := h
  obtain ⟨u1, u2, rfl, r1, r2⟩ := vals2 r
  obtain rfl : u1 = Value.ref a := r1
  obtain rfl := hcv _ r2
  obtain ⟨oe, vs, h1, hz, hd⟩ := (I.hok a _ ha).1
  have hx : ObjOk X.prog X.w H s.heap d (.xd fs) := I.hok d _ ed
  obtain ⟨mA, hns, hr⟩ := hx
  obtain ⟨od, ho, hl⟩ := lookIn_ns hns
  have J : PySem.W.InstAt s.heap a oe D (some od) := ⟨h1, hz.1, by unfold PySem.W.notCls; rw [hd] <;> rfl, by rw [hz.2]; exact ho⟩
  exact PySem.W.kia_one (PySem.W.kitx_excO C.hg C.hk C.hs C.hd C.ha C.hn C.ht C.hm) I.kIn J e (fun z => nomatch z) fun tk => ⟨.bl b, H, I.kept (t' := tk) fun _ _ z => z, rfl, q⟩
def rIsE2 (K : PySem.W.Frag) : List V → Hp → VK → Prop := fun xs H Q => rIsA K xs H Q ∨ rIsF K xs H Q
theorem call_isE2 {X : Cx} : CallR X (.builtin "isinstance") (rIsE2 X.K) := CallR.or call_isA call_isF
def isiE (tab : List (Str × Str × Bool)) (xs : List D) : Option D := match isiD tab xs with
  | some d => some d
  | none => match xs with
    | [.exc C (_ :: _), .glo B] => (lookX tab C B).map .bl
    | _ => none
theorem cs_isE {k : Kx} {tab : List (Str × Str × Bool)} (ht : XTab k tab) : CaS k (rIsE2 k.K) (isiE tab) := fun G H xs ds d hi px hd Q q => by
  unfold isiE at hd
  split at hd
  · rename_i e h1
    cases hd
    exact .inl (cs_isi ht G H xs ds _ hi px h1 Q q)
  · split at hd
    · rename_i C f fs B _
      simp only [Option.map_eq_some_iff] at hd
      obtain ⟨b, h1, rfl⟩ := hd
      obtain ⟨v, w, rfl, p1, p2⟩ := rpa_two px
      unfold lookX at h1
      simp only [Option.map_eq_some_iff] at h1
      obtain ⟨p, hp, rfl⟩ := h1
      have hm := List.mem_of_find?_eq_some hp
      have he := List.find?_some hp
      obtain ⟨e1, e2⟩ := of_decide_eq_true he
      obtain ⟨t1, t2⟩ := ht p hm
      cases p2
      cases p1 with
      | excF g g2 ra ne =>
        rw [e1] at t1 t2
        rw [e2] at t2
        exact .inr ⟨_, k.ca C, _, _, .ref (k.ca B), .ref (k.ca B), p.2.2, rfl, hi.ex g rfl, hi.ex g2 rfl, t1, fun u r => r, t2, q _ G H (Up.refl hi) (.bl _)⟩
    · cases hd
def tItemsV (te : TE) : TE := fun σ H Q => te σ H fun x H1 => ∃ (a : Addr) (kvs : List (Key × V)), x = .ref a ∧ Rd H1 a (.dK kvs) ∧ ∀ p, H1 p = none → Q (.ref p) (upd H1 p (itemsO p a))
theorem pe_itemsK {X : Cx} {te : TE} {e : Expr} {cpos apos : Pos} (he : PE X e te) (hbase : attributeBase e "items" X.env (eval e X.env) = eval e X.env := by rfl) (hline : (apos.endLine == cpos.line) = true := by rfl) :
    PE X (.Call (.Attribute e "items" apos) [] [] cpos) (tItemsV te) := by
  refine ⟨fun pins s σ H Q I hq => ?_⟩
  refine wpAny_Call_method (T := "dict") (id := "dict.items") hbase rfl hline F.plainAttrs_dict F.slot_dict_items F.type_dict_items (thn (he.run pins s σ H _ I hq) fun u s1 ⟨x, H1, I1, rx, a, kvs, ex, hd, q⟩ => ?_)
  obtain rfl : x = V.ref a := ex
  obtain rfl : u = Value.ref a := rx
  obtain ⟨z, hs0, vs, kv, dd⟩ := dk_rd I1.hok hd
  obtain ⟨es, ep, raw, _, _⟩ := PySem.Heap.DictOf.raw dd
  refine ⟨dd.typeIs, dd.mapOf.noDict, ?_⟩
  show wpAny _ _ (callWith cpos (.builtin "dict.items") [.ref a] [] []) _ X.xe s1
  refine Calls.callWith_builtin rfl (PySem.evalArgs_none ?_)
  refine DT.callItems (es := es) (ep := ep) hs0 raw ?_
  have hf : H1 s1.heap.objs.size = none := I1.hok.fresh (Nat.le_refl _)
  exact ⟨.ref s1.heap.objs.size, upd H1 s1.heap.objs.size (itemsO s1.heap.objs.size a), I1.laid (t' := s1.toks) (fun b u e => Heap.get?_push_of_some _ e) (Nat.le_refl _) (itemsO_ok (Heap.get?_push_size _ rfl)), rfl, q _ hf⟩
def intStr : List (Ky × D) → Option (List (Int × List Nat))
  | [] => some []
  | (.inl i, .str w) :: es => (intStr es).map ((i, w) :: ·)
  | _ => none
def ascB : List (Int × List Nat) → Bool
  | (i, _) :: (j, w) :: es => decide (i < j) && ascB ((j, w) :: es)
  | _ => true
def pairI (e : Int × List Nat) : D := .tup [.int e.1, .str e.2]
def sortItD : D → Option D
  | .dic es => (intStr es).bind fun ps => if ascB ps then some (.lst (ps.map pairI)) else none
  | _ => none
theorem ascB_ok : ∀ {ps : List (Int × List Nat)}, ascB ps = true → ps.Pairwise fun e f => e.1 < f.1
  | [], _ => .nil
  | [(i, w)], _ => .cons (fun _ h => nomatch h) .nil
  | (i, w) :: (j, v) :: ps, h => by
    unfold ascB at h
    simp only [Bool.and_eq_true, decide_eq_true_eq] at h
    have ih := ascB_ok h.2
    refine .cons (fun f hf => ?_) ih
    rcases List.mem_cons.mp hf with rfl | hf
    · exact h.1
    · have := (List.pairwise_cons.mp ih).1 f hf
      exact Int.lt_trans h.1 this
theorem intStr_rp {k : Kx} {G : Hp} : ∀ {es : List (Ky × D)} {ps : List (Int × List Nat)} {kvs : List (Key × V)}, intStr es = some ps → RpD k G kvs es → kvs = (ps.map fun e => (e.1, S e.2)).map entI
  | [], ps, kvs, h, r => by
    cases h
    cases r; rfl
  | (.inl i, .str w) :: es, ps, kvs, h, r => by
    unfold intStr at h
    obtain ⟨ps2, h2, rfl⟩ := Option.map_eq_some_iff.mp h
    cases r with
    | cons p r =>
      rw [rp_str p, intStr_rp h2 r]; rfl
  | (.inr _, _) :: _, _, _, h, _ => by cases h
  | (.inl i, d) :: es, ps, kvs, h, r => by
    cases d <;> first
      | (unfold intStr at h
         obtain ⟨ps2, h2, rfl⟩ := Option.map_eq_some_iff.mp h
         cases r with
         | cons p r => rw [rp_str p, intStr_rp h2 r]; rfl)
      | cases h
def rSortU : V → Hp → VK → Prop := fun x H Q => ∃ (a : Addr) (kvs : List (Key × V)), x = .ref a ∧ Rd H a (.dK kvs) ∧ ∀ p, H p = none → rSortI [.ref p] (upd H p (itemsO p a)) Q
theorem un_sortIt {k : Kx} : UnS k rSortU sortItD := fun G H x d0 d hi px hd Q q => by
  unfold sortItD at hd
  split at hd
  · rename_i es
    obtain ⟨ps, h1, h2⟩ := Option.bind_eq_some_iff.mp hd
    by_cases ha : ascB ps = true
    · rw [if_pos ha] at h2
      cases h2
      obtain ⟨a, vs, rfl, g1, g2⟩ := rp_dic px
      have ev := intStr_rp h1 g2
      refine ⟨a, vs, rfl, hi.rd g1, fun p hp => ?_⟩
      have u := Up.hid (o := itemsO p a) hi hp
      have g3 := u.i.rd g1
      rw [ev] at g3
      refine ⟨p, a, ps.map fun e => (e.1, S e.2), rfl, upd_same, g3, (ascB_ok ha).map _ fun _ _ z => z, fun H' l as le hl nd las fr hL hp' => ?_⟩
      have hl0 : H l = none := by
        by_cases e : l = p
        · rw [e]; exact hp
        · rw [upd_ne e] at hl; exact hl
      have fr0 : ∀ b ∈ as, H b = none := fun b hb => by
        have := (fr b hb).1
        by_cases e : b = p
        · rw [e]; exact hp
        · rw [upd_ne e] at this; exact this
      have le0 : Le H H' := fun b o e => le b o (u.h b o e)
      let G2 : Hp := fun b => if b = l ∨ b ∈ as then H' b else G b
      have new : ∀ b, (b = l ∨ b ∈ as) → H b = none := fun b hb => by
        rcases hb with rfl | hb
        · exact hl0
        · exact fr0 b hb
      have gnew : ∀ b, (b = l ∨ b ∈ as) → G b = none := fun b hb => hi.no (new b hb)
      have gat : ∀ b, (b = l ∨ b ∈ as) → G2 b = H' b := fun b hb => if_pos hb
      refine q (.ref l) G2 H' ⟨fun b o e => ?_, fun b o e => ?_, le0, fun b o e => ?_⟩ (.lst (xs := as.map V.ref) (by rw [gat l (.inl rfl)]; exact hL) ?_)
      · have hb : ¬ (b = l ∨ b ∈ as) := fun z => by rw [gnew b z] at e; cases e
        show G2 b = some o
        rw [show G2 b = G b from if_neg hb]; exact e
      · by_cases hb : b = l ∨ b ∈ as
        · rw [gat b hb] at e; exact .inl e
        · rw [show G2 b = G b from if_neg hb] at e
          exact (hi.ge le0) b o e
      · by_cases hb : b = l ∨ b ∈ as
        · exact .inr (new b hb)
        · rw [show G2 b = G b from if_neg hb] at e
          exact .inl e
      · rw [List.length_map] at las
        refine rpa_take (by rw [List.length_map, List.length_map]; exact las) fun j y d hy hd => ?_
        rw [List.getElem?_map] at hy hd
        obtain ⟨b, hb, rfl⟩ := Option.map_eq_some_iff.mp hy
        obtain ⟨e, he, rfl⟩ := Option.map_eq_some_iff.mp hd
        have := hp' j b (e.1, S e.2) hb (by rw [List.getElem?_map, he]; rfl)
        exact .tup (.inl (.inl (by rw [gat b (.inr (List.mem_of_getElem? hb))]; exact this))) (.cons (.int _) (.cons (.str _) .nil))
    · rw [if_neg ha] at h2; cases h2
  · cases hd
theorem se_sortIt {k : Kx} {E : XK} {te : TE} {fe : Env → M Vl} (he : SE k E te fe) : SE k E (tCB rSortI (tCons (tItemsV te) tNil)) (eUn sortItD fe) := by
  have h : SE k E (tUn rSortU te) (eUn sortItD fe) := se_un un_sortIt he
  exact h
def dropD (es : List (Ky × D)) (q : Ky) : List (Ky × D) := es.filter fun e => decide (e.1 ≠ q)
theorem RpD.drop {k : Kx} {G : Hp} {q : Ky} : ∀ {kvs : List (Key × V)} {es : List (Ky × D)}, RpD k G kvs es → RpD k G (dropK kvs (kk q)) (dropD es q)
  | _, _, .nil => .nil
  | _, _, .cons (q := q0) (vs := vs) (ds := ds) p r => by
    have ih := RpD.drop (q := q) r
    unfold dropK dropD at ih ⊢
    by_cases e : q0 = q
    · subst e
      simpa using ih
    · have e2 : kk q0 ≠ kk q := fun z => e (kk_inj z)
      simp only [List.filter_cons, ne_eq, e, e2, not_false_eq_true, decide_true, if_true]
      exact .cons p ih
def bDPop (i : Nat) (fk : Env → M Vl) : Env → M Out := fun env => (M.of (ownD env i)).bind fun es => (fk env).bind fun kr => (M.of (keyD kr.2)).bind fun q => if (getD es q).isSome then .ok (.nx (env.set i (some (true, .dic (dropD es q))))) else .bad
section
variable {k : Kx} {E : XK} {i : Nat} {tj : TE} {fj : Env → M Vl}
theorem ss_dpop (hj : SE k E tj fj) : SS k E (tDrop (tDPop1 (tVar i) tj)) (bDPop i fj) := fun R dr env σ G H n D rl w => by
  obtain ⟨es, h0, w1⟩ := wp_of.mp (wp_bind' w)
  have h0 := ownD_some h0
  obtain ⟨a, vs, f1, f2, f3⟩ := own_dic rl h0
  refine ⟨.ref a, f1, a, rfl, .inl ⟨vs, .inl f2⟩, ?_⟩
  refine hj.run rl (wp_bind' w1) (fun _ _ _ h => h) fun dr n2 v2 z G2 H2 w2 l2 r2 s2 => ?_
  obtain ⟨q, hq, w2⟩ := wp_of.mp (wp_bind' w2)
  cases hs : (getD es q).isSome with
  | false => rw [hs, if_neg (by simp)] at w2; exact w2.elim
  | true =>
    rw [hs, if_pos rfl] at w2
    obtain ⟨a', vs', g1, g2, g3⟩ := own_dic r2 h0
    rw [f1] at g1; cases g1
    obtain ⟨v, hv⟩ := Option.isSome_iff_exists.mp (g3.isSome.trans hs)
    exact ⟨vs', kk q, v, g2, rs_key r2 hq s2, hv, w2 σ G2 _ l2 (r2.chg h0 f1 (.dic g3.drop))⟩
theorem ss_ddel (hj : SE k E tj fj) : SS k E (sDDel (tVar i) tj) (bDPop i fj) := fun R dr env σ G H n D rl w => by
  obtain ⟨es, h0, w1⟩ := wp_of.mp (wp_bind' w)
  have h0 := ownD_some h0
  obtain ⟨a, vs, f1, f2, f3⟩ := own_dic rl h0
  refine ⟨.ref a, f1, ?_⟩
  refine hj.run rl (wp_bind' w1) (fun _ _ _ h => h) fun dr n2 v2 z G2 H2 w2 l2 r2 s2 => ?_
  obtain ⟨q, hq, w2⟩ := wp_of.mp (wp_bind' w2)
  cases hs : (getD es q).isSome with
  | false => rw [hs, if_neg (by simp)] at w2; exact w2.elim
  | true =>
    rw [hs, if_pos rfl] at w2
    obtain ⟨a', vs', g1, g2, g3⟩ := own_dic r2 h0
    rw [f1] at g1; cases g1
    exact ⟨a, vs', kk q, rfl, g2, rs_key r2 hq s2, g3.isSome.trans hs, w2 σ G2 _ l2 (r2.chg h0 f1 (.dic g3.drop))⟩
theorem Rl.rputD {R : Hp} {dr : Dr} {env : Env} {σ : L2.St} {G H : Hp} {n : Nat} {p : Addr} {xs ys : List (Key × V)} (r : Rl k R dr env σ G H n) (h : R p = some (.dK xs)) : Rl k (upd R p (.dK ys)) dr env σ G (upd H p (.dK ys)) n := by
  have e : R = upd (fun b => if b = p then none else R b) p (.dK xs) := by
    funext b
    by_cases hb : b = p
    · rw [hb, upd_same, h]
    · rw [upd_ne hb, if_neg hb]
  rw [e] at r
  have e2 : upd R p (.dK ys) = upd (fun b => if b = p then none else R b) p (.dK ys) := by
    funext b
    by_cases hb : b = p
    · rw [hb, upd_same, upd_same]
    · rw [upd_ne hb, upd_ne hb, if_neg hb]
  rw [e2]
  exact r.rput (if_pos rfl) rfl (fun ps z => nomatch z) (not_code (.inr ⟨_, rfl⟩))
def bTmpClr (fo : Env → M Vl) : Env → M Out := fun env => (fo env).bind fun r => match r with
  | (.o, .dic _) => .ok (.nx env)
  | _ => .bad
theorem ss_tmpClr {to : TE} {fo : Env → M Vl} (ho : SE k E to fo) : SS k E (tDrop (tBM0 k.K "dict" rDClear to)) (bTmpClr fo) := fun R dr env σ G H n D rl w => by
  show to σ H _
  refine ho R dr env σ G H n _ rl (wp_mono (wp_bind' w) (fun dr n1 v w1 x G1 H1 l1 r1 rv => ?_) fun _ _ _ h => h)
  obtain ⟨md, d⟩ := v
  cases md with
  | s => exact w1.elim
  | v j => exact w1.elim
  | o =>
    cases d with
    | dic ds =>
      dsimp only at w1
      obtain ⟨a, rfl, ⟨o, h1, h2, h3⟩, ap⟩ := rv
      cases h2 with
      | dic pa =>
        rename_i xs
        refine ⟨.inr (.inr (.inl ⟨rfl, .inl ⟨_, h1⟩⟩)), a, xs, rfl, rfl, h1, ?_⟩
        have r2 := r1.res h1 (fun ps z => nomatch z) h3 ap
        have r3 := r2.rputD (p := a) (ys := []) upd_same
        have e : upd (upd R a (HO.dK xs)) a (.dK []) = upd R a (.dK []) := by
          funext b
          by_cases hb : b = a
          · rw [hb, upd_same, upd_same]
          · rw [upd_ne hb, upd_ne hb, upd_ne hb]
        rw [e] at r3
        exact w1 σ G1 _ l1 (r3.sub (le_upd h3.r))
    | _ => exact w1.elim
def idxB (b : Bool) : List D → Option Nat
  | .bl c :: ds => if c = b then (ds.all fun d => match d with | .bl _ => true | _ => false) |> fun t => if t then some 0 else none else (idxB b ds).map (· + 1)
  | _ => none
def indexB : D → List D → Option D
  | .lst ds, [.bl b] => (idxB b ds).map fun j => .int (j : Nat)
  | _, _ => none
def eMtL (g : D → List D → Option D) (fo : Env → M Vl) (fa : Env → M (List Vl)) : Env → M Vl := fun env => (fo env).bind fun x => if isV x then .bad else match x.2 with
  | .lst _ => (fa env).bind fun xs => (M.of (g x.2 (dats xs))).bind fun d => fin (xs.any isV) d
  | _ => .bad
theorem idxB_ok {G : Hp} {b : Bool} : ∀ {ds : List D} {vs : List V} {j : Nat}, idxB b ds = some j → RpA k G vs ds → vs.all flatV = true ∧ ∃ z, vs[j]? = some z ∧ eqV z (.bl b) = true ∧ ∀ (m : Nat) (z' : V), m < j → vs[m]? = some z' → eqV z' (.bl b) = false
  | [], _, _, h, _ => by cases h
  | d :: ds, vs, j, h, r => by
    cases r with
    | cons p r =>
      rename_i v us
      cases d <;> try (cases h; done)
      rename_i c
      cases p
      unfold idxB at h
      by_cases e : c = b
      · rw [if_pos e] at h
        dsimp only at h
        split at h
        · rename_i hall
          cases h
          refine ⟨?_, .bl c, rfl, by subst e; show (c == c) = true; cases c <;> rfl, fun m _ hm => absurd hm (Nat.not_lt_zero _)⟩
          rw [List.all_cons]
          have : ∀ {ds : List D} {us : List V}, (ds.all fun d => match d with | .bl _ => true | _ => false) = true → RpA k G us ds → us.all flatV = true := by
            intro ds us h r
            induction ds generalizing us with
            | nil => cases r; rfl
            | cons d ds ih =>
              cases r with
              | cons p r =>
                rw [List.all_cons, Bool.and_eq_true] at h
                cases d <;> try (simp at h; done)
                cases p
                rw [List.all_cons, ih h.2 r]; rfl
          rw [this hall r]; rfl
        · cases h
      · rw [if_neg e] at h
        obtain ⟨j2, h2, rfl⟩ := Option.map_eq_some_iff.mp h
        obtain ⟨g1, z, g2, g3, g4⟩ := idxB_ok h2 r
        refine ⟨by rw [List.all_cons, g1]; rfl, z, by simpa using g2, g3, fun m z' hm hz => ?_⟩
        cases m with
        | zero =>
          simp at hz; subst hz
          show (c == b) = false
          cases c <;> cases b <;> simp_all
        | succ m => exact g4 m z' (by omega) (by simpa using hz)
theorem se_idxL {to : TE} {fo : Env → M Vl} {tr : TA} {fr : Env → M (List Vl)} (ho : SE k E to fo) (hr : SA k E tr fr) : SE k E (tBM k.K "list" (rIndex k.K) to tr) (eMtL indexB fo fr) := fun R dr env σ G H n Q rl w => by
  refine ho.run rl (wp_bind' w) (fun _ _ _ h => h) fun dr n1 v x G1 H1 w1 l1 r1 s1 => ?_
  cases hv : isV v with
  | true => rw [hv, if_pos rfl] at w1; exact w1.elim
  | false =>
    rw [hv, if_neg (by simp)] at w1
    have px := rs_s hv s1
    split at w1
    · rename_i ds hds
      rw [hds] at px
      obtain ⟨a, vs, rfl, g1, g2⟩ := rp_lst px
      refine ⟨.inl ⟨rfl, _, .inl (.inl (r1.i.ex g1 rfl))⟩, ?_⟩
      refine hr R dr env σ G1 H1 n1 _ r1 (wp_mono (wp_bind' w1) (fun dr n2 vs2 w2 xs G2 H2 l2 r2 s2 => ?_) fun _ _ _ h => h.mono l1)
      obtain ⟨d, hd, w3⟩ := wp_of.mp (wp_bind' w2)
      refine op_end (P := rIndex k.K (.ref a) xs H2 Q) r2 (wp_mono w3 (fun dr n' r q x G3 H3 l3 => q x G3 H3 ((l1.trans l2).trans l3)) (fun _ _ _ h => h)) fun G' l' i' _ q1 q2 fin => ?_
      have pa := q2 xs vs2 (fun z => z) s2
      rw [hds] at hd
      unfold indexB at hd
      split at hd
      · rename_i ds' b e1 e2
        cases e1
        obtain ⟨j, hj, rfl⟩ := Option.map_eq_some_iff.mp hd
        have e2' : vs2.map (·.2) = [.bl b] := e2
        rw [e2'] at pa
        obtain ⟨y, rfl, py⟩ := rpa_one pa
        cases py
        obtain ⟨c1, z, c2, c3, c4⟩ := idxB_ok hj (g2.mono (l2.trans l'))
        exact ⟨a, vs, .bl b, j, z, rfl, rfl, .inl (.inl (i'.ex ((l2.trans l') _ _ g1) rfl)), rfl, c1, c2, c3, c4, fin _ _ _ (Up.refl i') (.int _)⟩
      · cases hd
    · exact w1.elim
end
end Y

namespace Y
open PySem PySem.Spec PyProof.Rows L2 L2.DX Z
def rSortDki : List V → Hp → VK → Prop := fun xs H Q => ∃ (a : Addr) (kvs : List (Key × V)) (ks : List Int), xs = [.ref a] ∧ Rd H a (.dK kvs) ∧ kvs.map (·.1) = ks.map Sum.inl ∧ ks.length < 64 ∧
    ∀ (ys : List Int) (p : Addr), ys.Perm ks → ys.Pairwise (· ≤ ·) → H p = none → Q (.ref p) (upd H p (.lst (ys.map V.int)))
theorem cr_sortDI {X : Cx} (hc : X.calm = true) : CallR X (.builtin "sorted") rSortDki := call_sortedDI hc
def keysI : List (Ky × D) → Option (List Int)
  | [] => some []
  | (.inl i, _) :: es => (keysI es).map (i :: ·)
  | _ => none
def sortedDI : List D → Option D
  | [.dic es] => if es.length < 64 then (keysI es).map fun is => .lst ((sortI is).map .int) else none
  | _ => none
section
variable {k : Kx} {G H : Hp}
theorem keysI_of : ∀ {kvs : List (Key × V)} {es : List (Ky × D)} {ws : List Int}, RpD k G kvs es → keysI es = some ws → kvs.map (·.1) = ws.map Sum.inl
  | _, _, _, .nil, h => by cases h; rfl
  | _, _, _, .cons (q := q) _ a, h => by
    cases q with
    | inr i => cases h
    | inl w =>
      simp only [keysI, Option.map_eq_some_iff] at h
      obtain ⟨ys, h1, rfl⟩ := h
      simp only [List.map_cons, kk]
      rw [keysI_of a h1]
theorem keysI_len : ∀ {es : List (Ky × D)} {ws : List Int}, keysI es = some ws → ws.length = es.length
  | [], _, h => by cases h; rfl
  | (q, _) :: es, ws, h => by
    cases q with
    | inr i => cases h
    | inl w =>
      simp only [keysI, Option.map_eq_some_iff] at h
      obtain ⟨ys, h1, rfl⟩ := h
      simp [keysI_len h1]
theorem sortI_uniq {xs ys : List Int} (p : ys.Perm xs) (h : ys.Pairwise fun a b => a ≤ b) : sortI xs = ys := by
  unfold sortI
  refine List.Perm.eq_of_pairwise (le := fun a b : Int => a ≤ b) (fun a b _ _ h1 h2 => by omega) ?_ h ((List.mergeSort_perm _ _).trans p.symm)
  exact (List.pairwise_mergeSort (le := fun a b : Int => decide (a ≤ b)) (fun a b c => by simp; omega) (fun a b => by simp; omega) xs).imp fun h => of_decide_eq_true h
theorem co_sortDI : CaO k rSortDki sortedDI := fun G H xs ds d hi px hd Q q => by
  unfold sortedDI at hd
  split at hd
  · rename_i es
    split at hd
    · rename_i hl
      simp only [Option.map_eq_some_iff] at hd
      obtain ⟨ws, h1, rfl⟩ := hd
      obtain ⟨v, rfl, p⟩ := rpa_one px
      obtain ⟨a, vs, rfl, h2, h3⟩ := rp_dic p
      refine ⟨a, vs, ws, rfl, hi.rd h2, keysI_of h3 h1, by rw [keysI_len h1]; exact hl, fun ys r pm so hr => ?_⟩
      rw [sortI_uniq pm so] at q
      exact q r _ hr (.lst (ints_rpa' _))
    · cases hd
  · cases hd
end
end Y

namespace Y
open PySem PySem.Spec PyProof.Rows L2 L2.DX Z
def rEqLst : R2 := fun x y H Q => (∃ (a b : Addr) (xs ys : List V), x = .ref a ∧ y = .ref b ∧ H a = some (.lst xs) ∧ H b = some (.lst ys) ∧ xs.length ≠ ys.length) ∧ Q (.bl false) H
theorem op_eqLst {X : Cx} (hu : X.A.units + 1 < cLine) : OpR X (compareOp .Eq) rEqLst := fun pins s σ H x y v u Q I rx ry ⟨⟨a, b, xs, ys, ex, ey, ha, hb, hl⟩, q⟩ => by
  subst ex ey
  cases rx; cases ry
  obtain ⟨_, va, n, ra, ga⟩ := I.hok a _ ha
  obtain ⟨_, vb, m, rb, gb⟩ := I.hok b _ hb
  have e : va.length ≠ vb.length := by
    rw [← Vals.length ra, ← Vals.length rb]; exact hl
  exact PySem.SeqAt.RcAt.lists_lengths (items := va.toArray) (items2 := vb.toArray) ⟨_, ga, rfl, _, rfl⟩ ⟨_, gb, rfl, _, rfl⟩ (by simpa using e) (Nat.lt_of_succ_lt hu) _ _ _ _ (fin_bl I q rfl)
def qEq2 (K : PySem.W.Frag) : R2 := fun x y H Q => qEq K x y H Q ∨ rEqLst x y H Q
theorem or_eq2 {X : Cx} (hu : X.A.units + 100 < cLine) : OpR X (compareOp .Eq) (qEq2 X.K) := (or_eq hu).or (op_eqLst (by omega))
def eqB2 (a b : D) : Option D := match eqB a b with
  | some d => some d
  | none => match a, b with
    | .lst xs, .lst ys => if xs.length = ys.length then none else some (.bl false)
    | _, _ => none
theorem os_eq2 {k : Kx} : OpS k (qEq2 k.K) eqB2 := fun G H x y a b d hi px py hd Q q => by
  unfold eqB2 at hd
  split at hd
  · rename_i e h1
    cases hd
    exact .inl (os_eq G H x y a b _ hi px py h1 Q q)
  · split at hd
    · rename_i xs ys _
      split at hd
      · cases hd
      · rename_i hl
        cases hd
        obtain ⟨p, vs, rfl, h1, h2⟩ := rp_lst px
        obtain ⟨p', ws, rfl, h3, h4⟩ := rp_lst py
        exact .inr ⟨⟨p, p', vs, ws, rfl, rfl, hi.ex h1 rfl, hi.ex h3 rfl, by rw [h2.len, h4.len]; exact hl⟩, q _ G H (Up.refl hi) (.bl _)⟩
    · cases hd
end Y

namespace Y
open PySem PySem.Spec PyProof.Rows L2 Z
def XT : List (Str × Str × Bool) := [("BadWord", "BadIndex", false), ("BadWord", "BadLength", false), ("BadWord", "BadWord", true), ("BadWord", "NothingDone", false), ("BadWord", "TooMany", false), ("BadLength", "BadIndex", false), ("BadLength", "BadLength", true), ("BadLength", "BadWord", false), ("BadLength", "NothingDone", false), ("BadLength", "TooMany", false), ("BadIndex", "BadIndex", true), ("BadIndex", "BadLength", false), ("BadIndex", "BadWord", false), ("BadIndex", "NothingDone", false), ("BadIndex", "TooMany", false), ("NothingDone", "BadIndex", false), ("NothingDone", "BadLength", false), ("NothingDone", "BadWord", false), ("NothingDone", "NothingDone", true), ("NothingDone", "TooMany", false), ("TooMany", "BadIndex", false), ("TooMany", "BadLength", false), ("TooMany", "BadWord", false), ("TooMany", "NothingDone", false), ("TooMany", "TooMany", true)]
def CAT : List Str := ["BadWord", "BadLength", "BadIndex", "NothingDone", "TooMany"]
def XF : List (Str × Str) := [("TooMany", "limit")]
def CTB : List (Str × Str) := [("Mark", "outer"), ("Mark", "deeds"), ("Mark", "known"), ("Bench", "own_length"), ("Bench", "deeds"), ("Bench", "known"), ("Bench", "mark")]
def OCLS : List Str := ["Mark", "Bench"]
def t__wall (k : Kx) (E : XK) : TS := (tWhile ((tB (tC (.bl true)))) (tNext))
-- _wall: 0 k
def b__wall_1 : Env → M Out := bNext
def b__wall : Env → M Out := (bWhile 100000 ((eB (eC (.bl true)))) (b__wall_1))
def m__wall : List D → M Vl := bodyM 1 1 b__wall
theorem s__wall {k : Kx} (E : XK) : SS k E (t__wall k E) b__wall := (ss_while (st_b se_bl) ss_next)
def t_is_integer (k : Kx) (E : XK) : TS := (tRet ((tAndV ((tCB (rIsA k.K) ((tCons (tVar 0) ((tCons (tC (.ty "int")) (tNil))))))) ((tNotV ((tCB (rIsA k.K) ((tCons (tVar 0) ((tCons (tC (.ty "bool")) (tNil))))))))))))
-- is_integer: 0 value
def b_is_integer : Env → M Out := (bRet ((eAndV ((eCB (isiD XT) ((eCons (eVar 0) ((eCons (eC (.ty "int")) (eNil))))))) ((eNotV ((eCB (isiD XT) ((eCons (eVar 0) ((eCons (eC (.ty "bool")) (eNil))))))))))))
def m_is_integer : List D → M Vl := bodyM 1 1 b_is_integer
theorem s_is_integer {k : Kx} (hXT : XTab k XT) (E : XK) : SS k E (t_is_integer k E) b_is_integer := (ss_ret (se_andV (se_cb (cs_isi hXT) (sa_cons se_var (sa_cons se_ty sa_nil))) (se_notV (se_cb (cs_isi hXT) (sa_cons se_var (sa_cons se_ty sa_nil))))))
def t_is_between (k : Kx) (E : XK) : TS := (tRet ((tAndV ((tCall (spM k m_is_integer) [] E ((tCons (tVar 0) (tNil))))) ((tChain (rI0 fun i j => .bl (decide (i ≤ j))) (rI0 fun i j => .bl (decide (i ≤ j))) (tVar 1) (tVar 0) (tVar 2))))))
-- is_between: 0 value 1 least 2 most
def b_is_between : Env → M Out := (bRet ((eAndV ((eCall m_is_integer ((eCons (eVar 0) (eNil))))) ((eChain leD leD (eVar 1) (eVar 0) (eVar 2))))))
def m_is_between : List D → M Vl := bodyM 3 3 b_is_between
theorem s_is_between {k : Kx} (E : XK) : SS k E (t_is_between k E) b_is_between := (ss_ret (se_andV (se_call (sa_cons se_var sa_nil)) (se_chain os_le os_le se_var se_var se_var)))
def t_is_line (k : Kx) (E : XK) : TS := (tRet ((tAndV ((tCB (rIsA k.K) ((tCons (tVar 0) ((tCons (tC (.ty "str")) (tNil))))))) ((tCB (rAll k.K) ((tCons ((tLc ((iAnyD k.K (tVar 0))) ((gName 1)) (tYes) ((tOp (qInA k.K) (tVar 1) (tC (.str "acgt")))) [1])) (tNil))))))))
-- is_line: 0 value 1 sign
def b_is_line : Env → M Out := (bRet ((eAndV ((eCB (isiD XT) ((eCons (eVar 0) ((eCons (eC (.ty "str")) (eNil))))))) ((eCB allD ((eCons ((eLc ((eItA (eVar 0))) ((eTgN 1)) (eYes) ((eOp inAB (eVar 1) (eC (.str [97, 99, 103, 116])))) [1])) (eNil))))))))
def m_is_line : List D → M Vl := bodyM 1 2 b_is_line
theorem s_is_line {k : Kx} (hXT : XTab k XT) (E : XK) : SS k E (t_is_line k E) b_is_line := (ss_ret (se_andV (se_cb (cs_isi hXT) (sa_cons se_var (sa_cons se_ty sa_nil))) (se_cb cs_all (sa_cons (se_lc (si_anyD se_var) tg_name st_yes (se_op os_inA se_var (se_str (by decide +kernel)))) sa_nil))))
def t_is_word (k : Kx) (E : XK) : TS := (tRet ((tAndV ((tCall (spM k m_is_line) [] E ((tCons (tVar 0) (tNil))))) ((tOp (rI0 fun i j => .bl (decide (j < i))) ((tCB (qLen k.K) ((tCons (tVar 0) (tNil))))) (tC (.int 0)))))))
-- is_word: 0 value
def b_is_word : Env → M Out := (bRet ((eAndV ((eCall m_is_line ((eCons (eVar 0) (eNil))))) ((eOp gtD ((eCB lenD ((eCons (eVar 0) (eNil))))) (eC (.int 0)))))))
def m_is_word : List D → M Vl := bodyM 1 1 b_is_word
theorem s_is_word {k : Kx} (E : XK) : SS k E (t_is_word k E) b_is_word := (ss_ret (se_andV (se_call (sa_cons se_var sa_nil)) (se_op os_gt (se_cb cs_len (sa_cons se_var sa_nil)) se_int)))
def t_need_word (k : Kx) (E : XK) : TS := (tIfS ((tNot ((tB ((tCall (spM k m_is_word) [] E ((tCons (tVar 0) (tNil))))))))) ((tRaise (fun cls d _ H => E cls d H) (fun _ H Q => Q (.ref (k.ca "BadWord")) none H))) (tNext))
-- need_word: 0 word
def b_need_word : Env → M Out := (bIf ((eNot ((eB ((eCall m_is_word ((eCons (eVar 0) (eNil))))))))) ((bRaise "BadWord")) (bNext))
def m_need_word : List D → M Vl := bodyM 1 1 b_need_word
theorem s_need_word {k : Kx} (E : XK) : SS k E (t_need_word k E) b_need_word := (ss_if (st_not (st_b (se_call (sa_cons se_var sa_nil)))) ss_raise ss_next)
def t_need_length (k : Kx) (E : XK) : TS := (tIfS ((tNot ((tB ((tCall (spM k m_is_between) [] E ((tCons (tVar 0) ((tCons (tC (.int 1)) ((tCons (tC (.int 120)) (tNil))))))))))))) ((tRaise (fun cls d _ H => E cls d H) (fun _ H Q => Q (.ref (k.ca "BadLength")) none H))) (tNext))
-- need_length: 0 length
def b_need_length : Env → M Out := (bIf ((eNot ((eB ((eCall m_is_between ((eCons (eVar 0) ((eCons (eC (.int 1)) ((eCons (eC (.int 120)) (eNil))))))))))))) ((bRaise "BadLength")) (bNext))
def m_need_length : List D → M Vl := bodyM 1 1 b_need_length
theorem s_need_length {k : Kx} (E : XK) : SS k E (t_need_length k E) b_need_length := (ss_if (st_not (st_b (se_call (sa_cons se_var (sa_cons se_int (sa_cons se_int sa_nil)))))) ss_raise ss_next)
def t_standing_behind (k : Kx) (E : XK) : TS := (tSeq ((tPar 1 2 ((tCons (tDNewK) ((tCons (tC (.int 0)) (tNil))))))) ((tSeq ((tFor ((iAnyD k.K (tVar 0))) ((gName 3)) ((tIfS ((tTest (tOp (qEq k.K) ((tOp (qIxA k.K) (tVar 3) (tC (.int 0)))) (tC (.str "add"))))) ((tSeq ((sDPut (tVar 1) (tVar 2) ((tOp (qIxA k.K) (tVar 3) (tC (.int 1)))))) ((tAug 2 (tC (.int 1)) ipAdd)))) ((tIfS ((tTest (tOp (qEq k.K) ((tOp (qIxA k.K) (tVar 3) (tC (.int 0)))) (tC (.str "strike"))))) ((sDDel (tVar 1) ((tOp (qIxA k.K) (tVar 3) (tC (.int 1)))))) ((sDPut (tVar 1) ((tOp (qIxA k.K) (tVar 3) (tC (.int 1)))) ((tOp (qIxA k.K) (tVar 3) (tC (.int 2)))))))))))) ((tRet (tVar 1))))))
-- standing_behind: 0 deeds 1 known 2 many 3 deed
def b_standing_behind_1 : Env → M Out := (bIf ((eB (eOp eqB ((eIxA (eVar 3) (eC (.int 0)))) (eC (.str [97, 100, 100]))))) ((bSeq ((bDPut 1 (eVar 2) ((eIxA (eVar 3) (eC (.int 1)))))) ((bAug 2 augD (eC (.int 1)))))) ((bIf ((eB (eOp eqB ((eIxA (eVar 3) (eC (.int 0)))) (eC (.str [115, 116, 114, 105, 107, 101]))))) ((bDPop 1 ((eIxA (eVar 3) (eC (.int 1)))))) ((bDPut 1 ((eIxA (eVar 3) (eC (.int 1)))) ((eIxA (eVar 3) (eC (.int 2)))))))))
def b_standing_behind : Env → M Out := (bSeq ((bSets [1, 2] ((eCons (eDNew) ((eCons (eC (.int 0)) (eNil))))))) ((bSeq ((bFor ((eItA (eVar 0))) ((eTgN 3)) (b_standing_behind_1))) ((bRet (eVar 1))))))
def m_standing_behind : List D → M Vl := bodyM 1 4 b_standing_behind
theorem s_standing_behind {k : Kx} (E : XK) : SS k E (t_standing_behind k E) b_standing_behind := (ss_seq (ss_par (sao_cons se_dnew (sao_cons se_int sao_nil))) (ss_seq (ss_for (si_anyD se_var) tg_name (ss_if (st_test (se_op os_eq (se_ixA se_var se_int) (se_str (by decide +kernel)))) (ss_seq (ss_dput se_var (se_ixA se_var se_int)) (ss_aug os_augA se_int)) (ss_if (st_test (se_op os_eq (se_ixA se_var se_int) (se_str (by decide +kernel)))) (ss_ddel (se_ixA se_var se_int)) (ss_dput (se_ixA se_var se_int) (se_ixA se_var se_int))))) (ss_ret se_var)))
def t__law_pick (k : Kx) (E : XK) : TS := (tRet ((tOp (qIxA k.K) (tVar 1) ((tCall (spM k m_take) [] E ((tCons (tVar 0) ((tCons ((tCB (qLen k.K) ((tCons (tVar 1) (tNil))))) (tNil))))))))))
-- _law_pick: 0 _law_draw 1 _law_some
def b__law_pick : Env → M Out := (bRet ((eIxA (eVar 1) ((eCall m_take ((eCons (eVar 0) ((eCons ((eCB lenD ((eCons (eVar 1) (eNil))))) (eNil))))))))))
def m__law_pick : List D → M Vl := bodyM 2 2 b__law_pick
theorem s__law_pick {k : Kx} (E : XK) : SS k E (t__law_pick k E) b__law_pick := (ss_ret (se_ixA se_var (se_call (sa_cons se_var (sa_cons (se_cb cs_len (sa_cons se_var sa_nil)) sa_nil)))))
def t__law_signs (k : Kx) (E : XK) : TS := (tRet ((tCall (spM k m__law_pick) [] E ((tCons (tVar 0) ((tCons ((tLst ((tCons (tC (.str "a")) ((tCons (tC (.str "ac")) ((tCons (tC (.str "ag")) ((tCons (tC (.str "ct")) ((tCons (tC (.str "aac")) ((tCons (tC (.str "acg")) ((tCons (tC (.str "acgt")) ((tCons (tC (.str "acgt")) ((tCons (tC (.str "gt")) ((tCons (tC (.str "aaact")) (tNil))))))))))))))))))))))) (tNil))))))))
-- _law_signs: 0 _law_draw
def b__law_signs : Env → M Out := (bRet ((eCall m__law_pick ((eCons (eVar 0) ((eCons ((eLst ((eCons (eC (.str [97])) ((eCons (eC (.str [97, 99])) ((eCons (eC (.str [97, 103])) ((eCons (eC (.str [99, 116])) ((eCons (eC (.str [97, 97, 99])) ((eCons (eC (.str [97, 99, 103])) ((eCons (eC (.str [97, 99, 103, 116])) ((eCons (eC (.str [97, 99, 103, 116])) ((eCons (eC (.str [103, 116])) ((eCons (eC (.str [97, 97, 97, 99, 116])) (eNil))))))))))))))))))))))) (eNil))))))))
def m__law_signs : List D → M Vl := bodyM 1 1 b__law_signs
theorem s__law_signs {k : Kx} (E : XK) : SS k E (t__law_signs k E) b__law_signs := (ss_ret (se_call (sa_cons se_var (sa_cons (se_lst (sa_cons (se_str (by decide +kernel)) (sa_cons (se_str (by decide +kernel)) (sa_cons (se_str (by decide +kernel)) (sa_cons (se_str (by decide +kernel)) (sa_cons (se_str (by decide +kernel)) (sa_cons (se_str (by decide +kernel)) (sa_cons (se_str (by decide +kernel)) (sa_cons (se_str (by decide +kernel)) (sa_cons (se_str (by decide +kernel)) (sa_cons (se_str (by decide +kernel)) sa_nil))))))))))) sa_nil))))
def t__law_letters (k : Kx) (E : XK) : TS := (tRet ((tM1 (rJoin k.K) (tC (.str "")) ((tLc ((iRng1 ((tCons (tVar 2) (tNil))))) ((gName 3)) (tYes) ((tCall (spM k m__law_pick) [] L2.E0 ((tCons (tVar 0) ((tCons (tVar 1) (tNil))))))) [3])))))
-- _law_letters: 0 _law_draw 1 _law_signs_here 2 _law_many 3 _law_lap
def b__law_letters : Env → M Out := (bRet ((eJoin (eC (.str [])) ((eLc ((eRng rngD1 ((eCons (eVar 2) (eNil))))) ((eTgN 3)) (eYes) ((eCall m__law_pick ((eCons (eVar 0) ((eCons (eVar 1) (eNil))))))) [3])))))
def m__law_letters : List D → M Vl := bodyM 3 4 b__law_letters
theorem s__law_letters {k : Kx} (E : XK) : SS k E (t__law_letters k E) b__law_letters := (ss_ret (se_join (se_str (by decide +kernel)) (se_lc (si_rng1 (sa_cons se_var sa_nil)) tg_name st_yes (se_call (sa_cons se_var (sa_cons se_var sa_nil))))))
def t__law_is_int (k : Kx) (E : XK) : TS := (tRet ((tAndV ((tCB (rIsA k.K) ((tCons (tVar 0) ((tCons (tC (.ty "int")) (tNil))))))) ((tNotV ((tCB (rIsA k.K) ((tCons (tVar 0) ((tCons (tC (.ty "bool")) (tNil))))))))))))
-- _law_is_int: 0 _law_value
def b__law_is_int : Env → M Out := (bRet ((eAndV ((eCB (isiD XT) ((eCons (eVar 0) ((eCons (eC (.ty "int")) (eNil))))))) ((eNotV ((eCB (isiD XT) ((eCons (eVar 0) ((eCons (eC (.ty "bool")) (eNil))))))))))))
def m__law_is_int : List D → M Vl := bodyM 1 1 b__law_is_int
theorem s__law_is_int {k : Kx} (hXT : XTab k XT) (E : XK) : SS k E (t__law_is_int k E) b__law_is_int := (ss_ret (se_andV (se_cb (cs_isi hXT) (sa_cons se_var (sa_cons se_ty sa_nil))) (se_notV (se_cb (cs_isi hXT) (sa_cons se_var (sa_cons se_ty sa_nil))))))
def t__law_odd (k : Kx) (E : XK) : TS := (tSeq ((tAsg ((tLst ((tCons (tC .non) ((tCons (tC (.bl true)) ((tCons (tC (.bl false)) ((tCons ((tUn (rU fun i => .int (-i)) (tC (.int 1)))) ((tCons ((tOp (rI0 fun i j => .int (i - j)) ((tOp (rI CPow fun i j => .int (i ^ j.toNat)) (tC (.int 10)) (tC (.int 30)))) (tC (.int 1)))) ((tCons (tC (.str "")) ((tCons (tC (.str "A")) ((tCons (tC (.str "acgu")) ((tCons (tC (.str "a c")) ((tCons (tC (.str " a")) ((tCons (tC (.str "ac\n")) ((tCons ((tTup (tNil))) ((tCons ((tLst (tNil))) ((tCons (tDNewK) ((tCons ((tTup ((tCons (tC (.str "a")) (tNil))))) ((tCons ((tLst ((tCons (tC (.str "a")) (tNil))))) (tNil))))))))))))))))))))))))))))))))))) (gName 1))) ((tRet ((tCall (spM k m__law_pick) [] E ((tCons (tVar 0) ((tCons ((tOp (qAdd k.K) (tVar 1) ((tLst ((tCons ((tDisp [(tC (.str "a"), tC (.int 1))])) ((tCons ((tTup ((tCons (tC .non) (tNil))))) ((tCons (tC (.str "1")) ((tCons ((tTup ((tCons (tC (.str "a")) ((tCons (tC (.str "c")) (tNil))))))) ((tCons ((tLst ((tCons ((tLst ((tCons (tC (.str "a")) (tNil))))) (tNil))))) ((tCons (tC (.str "n")) (tNil))))))))))))))))) (tNil))))))))))
-- _law_odd: 0 _law_draw 1 _law_some
def b__law_odd : Env → M Out := (bSeq ((bSet 1 ((eLst ((eCons (eC .non) ((eCons (eC (.bl true)) ((eCons (eC (.bl false)) ((eCons ((eUn negD (eC (.int 1)))) ((eCons ((eOp subD ((eOp powD (eC (.int 10)) (eC (.int 30)))) (eC (.int 1)))) ((eCons (eC (.str [])) ((eCons (eC (.str [65])) ((eCons (eC (.str [97, 99, 103, 117])) ((eCons (eC (.str [97, 32, 99])) ((eCons (eC (.str [32, 97])) ((eCons (eC (.str [97, 99, 10])) ((eCons ((eTup (eNil))) ((eCons ((eLst (eNil))) ((eCons (eDNew) ((eCons ((eTup ((eCons (eC (.str [97])) (eNil))))) ((eCons ((eLst ((eCons (eC (.str [97])) (eNil))))) (eNil))))))))))))))))))))))))))))))))))))) ((bFrz [1] ((bRet ((eCall m__law_pick ((eCons (eVar 0) ((eCons ((eOp addD (eVar 1) ((eLst ((eCons ((eDisp [(eC (.str [97]), eC (.int 1))])) ((eCons ((eTup ((eCons (eC .non) (eNil))))) ((eCons (eC (.str [49])) ((eCons ((eTup ((eCons (eC (.str [97])) ((eCons (eC (.str [99])) (eNil))))))) ((eCons ((eLst ((eCons ((eLst ((eCons (eC (.str [97])) (eNil))))) (eNil))))) ((eCons (eC (.str [110])) (eNil))))))))))))))))) (eNil))))))))))))
def m__law_odd : List D → M Vl := bodyM 1 2 b__law_odd
theorem s__law_odd {k : Kx} (E : XK) : SS k E (t__law_odd k E) b__law_odd := (ss_seq (ss_set (se_lst (sa_cons se_non (sa_cons se_bl (sa_cons se_bl (sa_cons (se_un us_neg se_int) (sa_cons (se_op os_sub (se_op os_pow se_int se_int) se_int) (sa_cons (se_str (by decide +kernel)) (sa_cons (se_str (by decide +kernel)) (sa_cons (se_str (by decide +kernel)) (sa_cons (se_str (by decide +kernel)) (sa_cons (se_str (by decide +kernel)) (sa_cons (se_str (by decide +kernel)) (sa_cons (se_tup sa_nil) (sa_cons (se_lst sa_nil) (sa_cons se_dnew (sa_cons (se_tup (sa_cons (se_str (by decide +kernel)) sa_nil)) (sa_cons (se_lst (sa_cons (se_str (by decide +kernel)) sa_nil)) sa_nil)))))))))))))))))) (ss_frz (ss_ret (se_call (sa_cons se_var (sa_cons (se_op os_add se_var (se_lst (sa_cons (se_disp (.cons (se_str (by decide +kernel)) se_int .nil)) (sa_cons (se_tup (sa_cons se_non sa_nil)) (sa_cons (se_str (by decide +kernel)) (sa_cons (se_tup (sa_cons (se_str (by decide +kernel)) (sa_cons (se_str (by decide +kernel)) sa_nil))) (sa_cons (se_lst (sa_cons (se_lst (sa_cons (se_str (by decide +kernel)) sa_nil)) sa_nil)) (sa_cons (se_str (by decide +kernel)) sa_nil)))))))) sa_nil))))))
def t__law_fresh_read (k : Kx) (E : XK) : TS := (tRet ((tCall (spM k m__law_letters) [] E ((tCons (tVar 0) ((tCons ((tCall (spM k m__law_signs) [] E ((tCons (tVar 0) (tNil))))) ((tCons ((tOp (qAdd k.K) ((tOp (qAdd k.K) (tVar 1) (tC (.int 1)))) ((tCall (spM k m_take) [] E ((tCons (tVar 0) ((tCons (tC (.int 4)) (tNil))))))))) (tNil))))))))))
-- _law_fresh_read: 0 _law_draw 1 _law_length
def b__law_fresh_read : Env → M Out := (bRet ((eCall m__law_letters ((eCons (eVar 0) ((eCons ((eCall m__law_signs ((eCons (eVar 0) (eNil))))) ((eCons ((eOp addD ((eOp addD (eVar 1) (eC (.int 1)))) ((eCall m_take ((eCons (eVar 0) ((eCons (eC (.int 4)) (eNil))))))))) (eNil))))))))))
def m__law_fresh_read : List D → M Vl := bodyM 2 2 b__law_fresh_read
theorem s__law_fresh_read {k : Kx} (E : XK) : SS k E (t__law_fresh_read k E) b__law_fresh_read := (ss_ret (se_call (sa_cons se_var (sa_cons (se_call (sa_cons se_var sa_nil)) (sa_cons (se_op os_add (se_op os_add se_var se_int) (se_call (sa_cons se_var (sa_cons se_int sa_nil)))) sa_nil)))))
def t__law_begun_bench (k : Kx) (E : XK) : TS := (tRet ((tDisp [(tC (.str "length"), tVar 0), (tC (.str "reads"), tDNewK), (tC (.str "log"), (tLst (tNil))), (tC (.str "ahead"), tC .non)])))
-- _law_begun_bench: 0 _law_length
def b__law_begun_bench : Env → M Out := (bRet ((eDisp [(eC (.str [108, 101, 110, 103, 116, 104]), eVar 0), (eC (.str [114, 101, 97, 100, 115]), eDNew), (eC (.str [108, 111, 103]), (eLst (eNil))), (eC (.str [97, 104, 101, 97, 100]), eC .non)])))
def m__law_begun_bench : List D → M Vl := bodyM 1 1 b__law_begun_bench
theorem s__law_begun_bench {k : Kx} (E : XK) : SS k E (t__law_begun_bench k E) b__law_begun_bench := (ss_ret (se_disp (.cons (se_str (by decide +kernel)) se_var (.cons (se_str (by decide +kernel)) se_dnew (.cons (se_str (by decide +kernel)) (se_lst sa_nil) (.cons (se_str (by decide +kernel)) se_non .nil))))))
def t__law_is_read (k : Kx) (E : XK) : TS := (tSeq ((tIfS ((tOr ((tNot ((tB ((tCB (rIsA k.K) ((tCons (tVar 0) ((tCons (tC (.ty "str")) (tNil))))))))))) ((tTest (tOp (qLt) ((tCB (qLen k.K) ((tCons (tVar 0) (tNil))))) ((tOp (qAdd k.K) (tVar 1) (tC (.int 1))))))))) ((tRet (tC (.bl false)))) (tNext))) ((tRet ((tOp (qEq k.K) ((tLc ((iAnyD k.K (tVar 0))) ((gName 2)) ((tTest (tOp (qNotInA k.K) (tVar 2) (tC (.str "acgt"))))) (tVar 2) [2])) ((tLst (tNil))))))))
-- _law_is_read: 0 _law_value 1 _law_length 2 _law_sign
def b__law_is_read : Env → M Out := (bSeq ((bIf ((eOr ((eNot ((eB ((eCB (isiD XT) ((eCons (eVar 0) ((eCons (eC (.ty "str")) (eNil))))))))))) ((eB (eOp ltD ((eCB lenD ((eCons (eVar 0) (eNil))))) ((eOp addD (eVar 1) (eC (.int 1))))))))) ((bRet (eC (.bl false)))) (bNext))) ((bRet ((eOp eqB ((eLc ((eItA (eVar 0))) ((eTgN 2)) ((eB (eOp notInAB (eVar 2) (eC (.str [97, 99, 103, 116]))))) (eVar 2) [2])) ((eLst (eNil))))))))
def m__law_is_read : List D → M Vl := bodyM 2 3 b__law_is_read
theorem s__law_is_read {k : Kx} (hXT : XTab k XT) (E : XK) : SS k E (t__law_is_read k E) b__law_is_read := (ss_seq (ss_if (st_or (st_not (st_b (se_cb (cs_isi hXT) (sa_cons se_var (sa_cons se_ty sa_nil))))) (st_test (se_op os_lt (se_cb cs_len (sa_cons se_var sa_nil)) (se_op os_add se_var se_int)))) (ss_ret se_bl) ss_next) (ss_ret (se_op os_eq (se_lc (si_anyD se_var) tg_name (st_test (se_op os_notinA se_var (se_str (by decide +kernel)))) se_var) (se_lst sa_nil))))
def t__law_refusal (k : Kx) (E : XK) : TS := (tSeq ((tAsg ((tOp (qIxA k.K) (tVar 0) (tC (.str "reads")))) (gName 2))) ((tSeq ((tIfS ((tTest (tOp (qEq k.K) ((tOp (qIxA k.K) (tVar 1) (tC (.int 0)))) (tC (.str "undo"))))) ((tRet ((tIf ((tB (tIsN ((tOp (qIxA k.K) (tVar 0) (tC (.str "ahead"))))))) (tC (.str "nothing")) (tC (.str "")))))) (tNext))) ((tSeq ((tIfS ((tAnd ((tTest (tOp (qInA k.K) ((tOp (qIxA k.K) (tVar 1) (tC (.int 0)))) ((tLst ((tCons (tC (.str "strike")) ((tCons (tC (.str "mend")) (tNil)))))))))) ((tOr ((tNot ((tB ((tCall (spM k m__law_is_int) [] E ((tCons ((tOp (qIxA k.K) (tVar 1) (tC (.int 1)))) (tNil))))))))) ((tTest (tOp (qNotInA k.K) ((tOp (qIxA k.K) (tVar 1) (tC (.int 1)))) (tVar 2)))))))) ((tRet (tC (.str "index")))) (tNext))) ((tSeq ((tIfS ((tAnd ((tTest (tOp (qInA k.K) ((tOp (qIxA k.K) (tVar 1) (tC (.int 0)))) ((tLst ((tCons (tC (.str "add")) ((tCons (tC (.str "mend")) (tNil)))))))))) ((tNot ((tB ((tCall (spM k m__law_is_read) [] E ((tCons ((tOp (qIxA k.K) (tVar 1) ((tUn (rU fun i => .int (-i)) (tC (.int 1)))))) ((tCons ((tOp (qIxA k.K) (tVar 0) (tC (.str "length")))) (tNil))))))))))))) ((tRet (tC (.str "word")))) (tNext))) ((tRet ((tIf ((tAnd ((tTest (tOp (qEq k.K) ((tOp (qIxA k.K) (tVar 1) (tC (.int 0)))) (tC (.str "add"))))) ((tTest (tOp (rI0 fun i j => .bl (decide (j < i))) ((tCB (qLen k.K) ((tCons (tVar 2) (tNil))))) (tC (.int 19))))))) (tC (.str "many")) (tC (.str "")))))))))))))
-- _law_refusal: 0 _law_account 1 _law_deed 2 _law_some
def b__law_refusal : Env → M Out := (bSeq ((bSet 2 ((eIxA (eVar 0) (eC (.str [114, 101, 97, 100, 115])))))) ((bSeq ((bIf ((eB (eOp eqB ((eIxA (eVar 1) (eC (.int 0)))) (eC (.str [117, 110, 100, 111]))))) ((bRet ((eIf ((eB (eIsN false ((eIxA (eVar 0) (eC (.str [97, 104, 101, 97, 100]))))))) (eC (.str [110, 111, 116, 104, 105, 110, 103])) (eC (.str [])))))) (bNext))) ((bSeq ((bIf ((eAnd ((eB (eOp inAB ((eIxA (eVar 1) (eC (.int 0)))) ((eLst ((eCons (eC (.str [115, 116, 114, 105, 107, 101])) ((eCons (eC (.str [109, 101, 110, 100])) (eNil)))))))))) ((eOr ((eNot ((eB ((eCall m__law_is_int ((eCons ((eIxA (eVar 1) (eC (.int 1)))) (eNil))))))))) ((eB (eOp notInAB ((eIxA (eVar 1) (eC (.int 1)))) (eVar 2)))))))) ((bRet (eC (.str [105, 110, 100, 101, 120])))) (bNext))) ((bSeq ((bIf ((eAnd ((eB (eOp inAB ((eIxA (eVar 1) (eC (.int 0)))) ((eLst ((eCons (eC (.str [97, 100, 100])) ((eCons (eC (.str [109, 101, 110, 100])) (eNil)))))))))) ((eNot ((eB ((eCall m__law_is_read ((eCons ((eIxA (eVar 1) ((eUn negD (eC (.int 1)))))) ((eCons ((eIxA (eVar 0) (eC (.str [108, 101, 110, 103, 116, 104])))) (eNil))))))))))))) ((bRet (eC (.str [119, 111, 114, 100])))) (bNext))) ((bRet ((eIf ((eAnd ((eB (eOp eqB ((eIxA (eVar 1) (eC (.int 0)))) (eC (.str [97, 100, 100]))))) ((eB (eOp gtD ((eCB lenD ((eCons (eVar 2) (eNil))))) (eC (.int 19))))))) (eC (.str [109, 97, 110, 121])) (eC (.str [])))))))))))))
def m__law_refusal : List D → M Vl := bodyM 2 3 b__law_refusal
theorem s__law_refusal {k : Kx} (E : XK) : SS k E (t__law_refusal k E) b__law_refusal := (ss_seq (ss_set (se_ixA se_var (se_str (by decide +kernel)))) (ss_seq (ss_if (st_test (se_op os_eq (se_ixA se_var se_int) (se_str (by decide +kernel)))) (ss_ret (se_if (st_b (se_isN (se_ixA se_var (se_str (by decide +kernel))))) (se_str (by decide +kernel)) (se_str (by decide +kernel)))) ss_next) (ss_seq (ss_if (st_and (st_test (se_op os_inA (se_ixA se_var se_int) (se_lst (sa_cons (se_str (by decide +kernel)) (sa_cons (se_str (by decide +kernel)) sa_nil))))) (st_or (st_not (st_b (se_call (sa_cons (se_ixA se_var se_int) sa_nil)))) (st_test (se_op os_notinA (se_ixA se_var se_int) se_var)))) (ss_ret (se_str (by decide +kernel))) ss_next) (ss_seq (ss_if (st_and (st_test (se_op os_inA (se_ixA se_var se_int) (se_lst (sa_cons (se_str (by decide +kernel)) (sa_cons (se_str (by decide +kernel)) sa_nil))))) (st_not (st_b (se_call (sa_cons (se_ixA se_var (se_un us_neg se_int)) (sa_cons (se_ixA se_var (se_str (by decide +kernel))) sa_nil)))))) (ss_ret (se_str (by decide +kernel))) ss_next) (ss_ret (se_if (st_and (st_test (se_op os_eq (se_ixA se_var se_int) (se_str (by decide +kernel)))) (st_test (se_op os_gt (se_cb cs_len (sa_cons se_var sa_nil)) se_int))) (se_str (by decide +kernel)) (se_str (by decide +kernel))))))))
def t__law_number_of (k : Kx) (E : XK) : TS := (tRet ((tCB (qLen k.K) ((tCons ((tLc ((iAnyD k.K ((tOp (qIxA k.K) (tVar 0) (tC (.str "log")))))) ((gName 1)) ((tTest (tOp (qEq k.K) ((tOp (qIxA k.K) (tVar 1) (tC (.int 0)))) (tC (.str "add"))))) (tVar 1) [1])) (tNil))))))
-- _law_number_of: 0 _law_account 1 _law_deed
def b__law_number_of : Env → M Out := (bRet ((eCB lenD ((eCons ((eLc ((eItA ((eIxA (eVar 0) (eC (.str [108, 111, 103])))))) ((eTgN 1)) ((eB (eOp eqB ((eIxA (eVar 1) (eC (.int 0)))) (eC (.str [97, 100, 100]))))) (eVar 1) [1])) (eNil))))))
def m__law_number_of : List D → M Vl := bodyM 1 2 b__law_number_of
theorem s__law_number_of {k : Kx} (E : XK) : SS k E (t__law_number_of k E) b__law_number_of := (ss_ret (se_cb cs_len (sa_cons (se_lc (si_anyD (se_ixA se_var (se_str (by decide +kernel)))) tg_name (st_test (se_op os_eq (se_ixA se_var se_int) (se_str (by decide +kernel)))) se_var) sa_nil)))
def t__law_behind (k : Kx) (E : XK) : TS := (tSeq ((tIfS ((tTest (tOp (qEq k.K) ((tOp (qIxA k.K) (tVar 1) (tC (.int 0)))) (tC (.str "undo"))))) ((tRet ((tOp (qIxA k.K) (tVar 0) (tC (.str "ahead")))))) (tNext))) ((tSeq ((tAsg ((tCB (rDictP k.K) (tCons ((tCB rSortI (tCons (tItemsV ((tOp (qIxA k.K) (tVar 0) (tC (.str "reads"))))) tNil))) tNil))) (gName 2))) ((tSeq ((tIfS ((tTest (tOp (qEq k.K) ((tOp (qIxA k.K) (tVar 1) (tC (.int 0)))) (tC (.str "strike"))))) ((tDrop (tDPop1 (tVar 2) ((tOp (qIxA k.K) (tVar 1) (tC (.int 1))))))) ((tIfS ((tTest (tOp (qEq k.K) ((tOp (qIxA k.K) (tVar 1) (tC (.int 0)))) (tC (.str "add"))))) ((sDPut (tVar 2) ((tCall (spM k m__law_number_of) [] E ((tCons (tVar 0) (tNil))))) ((tOp (qIxA k.K) (tVar 1) (tC (.int 1)))))) ((sDPut (tVar 2) ((tOp (qIxA k.K) (tVar 1) (tC (.int 1)))) ((tOp (qIxA k.K) (tVar 1) (tC (.int 2)))))))))) ((tRet ((tDisp [(tC (.str "length"), (tOp (qIxA k.K) (tVar 0) (tC (.str "length")))), (tC (.str "reads"), tVar 2), (tC (.str "log"), (tOp (qAdd k.K) ((tOp (qIxA k.K) (tVar 0) (tC (.str "log")))) ((tLst ((tCons (tVar 1) (tNil))))))), (tC (.str "ahead"), tVar 0)])))))))))
-- _law_behind: 0 _law_account 1 _law_deed 2 _law_some
def b__law_behind : Env → M Out := (bSeq ((bIf ((eB (eOp eqB ((eIxA (eVar 1) (eC (.int 0)))) (eC (.str [117, 110, 100, 111]))))) ((bRet ((eIxA (eVar 0) (eC (.str [97, 104, 101, 97, 100])))))) (bNext))) ((bSeq ((bSet 2 ((eCOV dictPD (eCons ((eUn sortItD ((eIxA (eVar 0) (eC (.str [114, 101, 97, 100, 115])))))) eNil))))) ((bSeq ((bIf ((eB (eOp eqB ((eIxA (eVar 1) (eC (.int 0)))) (eC (.str [115, 116, 114, 105, 107, 101]))))) ((bDPop 2 ((eIxA (eVar 1) (eC (.int 1)))))) ((bIf ((eB (eOp eqB ((eIxA (eVar 1) (eC (.int 0)))) (eC (.str [97, 100, 100]))))) ((bDPut 2 ((eCall m__law_number_of ((eCons (eVar 0) (eNil))))) ((eIxA (eVar 1) (eC (.int 1)))))) ((bDPut 2 ((eIxA (eVar 1) (eC (.int 1)))) ((eIxA (eVar 1) (eC (.int 2)))))))))) ((bFrz [2] ((bRet ((eDisp [(eC (.str [108, 101, 110, 103, 116, 104]), (eIxA (eVar 0) (eC (.str [108, 101, 110, 103, 116, 104])))), (eC (.str [114, 101, 97, 100, 115]), eVar 2), (eC (.str [108, 111, 103]), (eOp addD ((eIxA (eVar 0) (eC (.str [108, 111, 103])))) ((eLst ((eCons (eVar 1) (eNil))))))), (eC (.str [97, 104, 101, 97, 100]), eVar 0)])))))))))))
def m__law_behind : List D → M Vl := bodyM 2 3 b__law_behind
theorem s__law_behind {k : Kx} (E : XK) : SS k E (t__law_behind k E) b__law_behind := (ss_seq (ss_if (st_test (se_op os_eq (se_ixA se_var se_int) (se_str (by decide +kernel)))) (ss_ret (se_ixA se_var (se_str (by decide +kernel)))) ss_next) (ss_seq (ss_set (se_cov co_dictP (sa_cons (se_sortIt (se_ixA se_var (se_str (by decide +kernel)))) sa_nil))) (ss_seq (ss_if (st_test (se_op os_eq (se_ixA se_var se_int) (se_str (by decide +kernel)))) (ss_dpop (se_ixA se_var se_int)) (ss_if (st_test (se_op os_eq (se_ixA se_var se_int) (se_str (by decide +kernel)))) (ss_dput (se_call (sa_cons se_var sa_nil)) (se_ixA se_var se_int)) (ss_dput (se_ixA se_var se_int) (se_ixA se_var se_int)))) (ss_frz (ss_ret (se_disp (.cons (se_str (by decide +kernel)) (se_ixA se_var (se_str (by decide +kernel))) (.cons (se_str (by decide +kernel)) se_var (.cons (se_str (by decide +kernel)) (se_op os_add (se_ixA se_var (se_str (by decide +kernel))) (se_lst (sa_cons se_var sa_nil))) (.cons (se_str (by decide +kernel)) se_var .nil))))))))))
def t_Bench__need_read (k : Kx) (E : XK) : TS := (tSeq ((tDrop ((tCall (spM k m_need_word) [] E ((tCons (tVar 1) (tNil))))))) ((tIfS ((tTest (tOp (rI0 fun i j => .bl (decide (i ≤ j))) ((tCB (qLen k.K) ((tCons (tVar 1) (tNil))))) ((tFld k.K (tVar 0) "own_length"))))) ((tRaise (fun cls d _ H => E cls d H) (fun _ H Q => Q (.ref (k.ca "BadWord")) none H))) (tNext))))
-- Bench__need_read: 0 self 1 word
def b_Bench__need_read : Env → M Out := (bSeq ((bDrop ((eCall m_need_word ((eCons (eVar 1) (eNil))))))) ((bIf ((eB (eOp leD ((eCB lenD ((eCons (eVar 1) (eNil))))) ((eFld CTB "own_length" (eVar 0)))))) ((bRaise "BadWord")) (bNext))))
def m_Bench__need_read : List D → M Vl := bodyM 2 2 b_Bench__need_read
theorem s_Bench__need_read {k : Kx} (hCT : CTab k CTB) (E : XK) : SS k E (t_Bench__need_read k E) b_Bench__need_read := (ss_seq (ss_drop (se_call (sa_cons se_var sa_nil))) (ss_if (st_test (se_op os_le (se_cb cs_len (sa_cons se_var sa_nil)) (se_fld hCT se_var))) ss_raise ss_next))
def t_Bench__do (k : Kx) (E : XK) : TS := (tSeq ((sFld k.K (tVar 0) ((tOp (qAdd k.K) ((tFld k.K (tVar 0) "deeds")) ((tTup ((tCons (tVar 1) (tNil))))))) "deeds")) ((sFld k.K (tVar 0) ((tCall (spM k m_standing_behind) [] E ((tCons ((tFld k.K (tVar 0) "deeds")) (tNil))))) "known")))
-- Bench__do: 0 self 1 deed
def b_Bench__do : Env → M Out := (bSeq ((bFld CTB "deeds" (eVar 0) ((eOp addT ((eFld CTB "deeds" (eVar 0))) ((eTup ((eCons (eVar 1) (eNil))))))))) ((bFld CTB "known" (eVar 0) ((eCall m_standing_behind ((eCons ((eFld CTB "deeds" (eVar 0))) (eNil))))))))
def m_Bench__do : List D → M Vl := bodyM 2 2 b_Bench__do
theorem s_Bench__do {k : Kx} (hCT : CTab k CTB) (E : XK) : SS k E (t_Bench__do k E) b_Bench__do := (ss_seq (ss_fld hCT se_var (se_op os_addT (se_fld hCT se_var) (se_tup (sa_cons se_var sa_nil)))) (ss_fld hCT se_var (se_call (sa_cons (se_fld hCT se_var) sa_nil))))
def t_Bench__add (k : Kx) (E : XK) : TS := (tSeq ((tDrop ((tMeth (k.ca "Bench") "need_read" (spM k m_Bench__need_read) [] E (tVar 0) ((tCons (tVar 1) (tNil))))))) ((tSeq ((tIfS ((tTest (tOp (rI0 fun i j => .bl (decide (j ≤ i))) ((tCB (qLen k.K) ((tCons ((tFld k.K (tVar 0) "known")) (tNil))))) (tC (.int 20))))) ((tRaise (fun cls d _ H => E cls d H) (tMkO (k.ca "TooMany") (sp_exi k "TooMany" "limit") [] (tCons (tC (.int 20)) tNil)))) (tNext))) ((tSeq ((tAsg ((tCB (qLen k.K) ((tCons ((tLc ((iAnyD k.K ((tFld k.K (tVar 0) "deeds")))) ((gName 3)) ((tTest (tOp (qEq k.K) ((tOp (qIxA k.K) (tVar 3) (tC (.int 0)))) (tC (.str "add"))))) (tVar 3) [3])) (tNil))))) (gName 2))) ((tSeq ((tDrop ((tMeth (k.ca "Bench") "do" (spM k m_Bench__do) [] E (tVar 0) ((tCons ((tTup ((tCons (tC (.str "add")) ((tCons (tVar 1) (tNil))))))) (tNil))))))) ((tRet (tVar 2))))))))))
-- Bench__add: 0 self 1 word 2 number 3 deed
def b_Bench__add : Env → M Out := (bSeq ((bDrop ((eMeth "Bench" "need_read" m_Bench__need_read (eVar 0) ((eCons (eVar 1) (eNil))))))) ((bSeq ((bIf ((eB (eOp geD ((eCB lenD ((eCons ((eFld CTB "known" (eVar 0))) (eNil))))) (eC (.int 20))))) ((bRaiseF "TooMany" "limit" (eC (.int 20)))) (bNext))) ((bSeq ((bSet 2 ((eCB lenD ((eCons ((eLc ((eItA ((eFld CTB "deeds" (eVar 0))))) ((eTgN 3)) ((eB (eOp eqB ((eIxA (eVar 3) (eC (.int 0)))) (eC (.str [97, 100, 100]))))) (eVar 3) [3])) (eNil))))))) ((bSeq ((bDrop ((eMeth "Bench" "do" m_Bench__do (eVar 0) ((eCons ((eTup ((eCons (eC (.str [97, 100, 100])) ((eCons (eVar 1) (eNil))))))) (eNil))))))) ((bRet (eVar 2))))))))))
def m_Bench__add : List D → M Vl := bodyM 2 4 b_Bench__add
theorem s_Bench__add {k : Kx} (hCT : CTab k CTB) (E : XK) : SS k E (t_Bench__add k E) b_Bench__add := (ss_seq (ss_drop (se_meth se_var (sa_cons se_var sa_nil))) (ss_seq (ss_if (st_test (se_op os_ge (se_cb cs_len (sa_cons (se_fld hCT se_var) sa_nil)) se_int)) (ss_raiseF se_int) ss_next) (ss_seq (ss_set (se_cb cs_len (sa_cons (se_lc (si_anyD (se_fld hCT se_var)) tg_name (st_test (se_op os_eq (se_ixA se_var se_int) (se_str (by decide +kernel)))) se_var) sa_nil))) (ss_seq (ss_drop (se_meth se_var (sa_cons (se_tup (sa_cons (se_str (by decide +kernel)) (sa_cons se_var sa_nil))) sa_nil))) (ss_ret se_var)))))
def t_Bench__need_number (k : Kx) (E : XK) : TS := (tIfS ((tOr ((tNot ((tB ((tCall (spM k m_is_integer) [] E ((tCons (tVar 1) (tNil))))))))) ((tTest (tOp (qNotInA k.K) (tVar 1) ((tFld k.K (tVar 0) "known"))))))) ((tRaise (fun cls d _ H => E cls d H) (fun _ H Q => Q (.ref (k.ca "BadIndex")) none H))) (tNext))
-- Bench__need_number: 0 self 1 number
def b_Bench__need_number : Env → M Out := (bIf ((eOr ((eNot ((eB ((eCall m_is_integer ((eCons (eVar 1) (eNil))))))))) ((eB (eOp notInAB (eVar 1) ((eFld CTB "known" (eVar 0)))))))) ((bRaise "BadIndex")) (bNext))
def m_Bench__need_number : List D → M Vl := bodyM 2 2 b_Bench__need_number
theorem s_Bench__need_number {k : Kx} (hCT : CTab k CTB) (E : XK) : SS k E (t_Bench__need_number k E) b_Bench__need_number := (ss_if (st_or (st_not (st_b (se_call (sa_cons se_var sa_nil)))) (st_test (se_op os_notinA se_var (se_fld hCT se_var)))) ss_raise ss_next)
def t_Bench__strike (k : Kx) (E : XK) : TS := (tSeq ((tDrop ((tMeth (k.ca "Bench") "need_number" (spM k m_Bench__need_number) [] E (tVar 0) ((tCons (tVar 1) (tNil))))))) ((tDrop ((tMeth (k.ca "Bench") "do" (spM k m_Bench__do) [] E (tVar 0) ((tCons ((tTup ((tCons (tC (.str "strike")) ((tCons (tVar 1) (tNil))))))) (tNil))))))))
-- Bench__strike: 0 self 1 number
def b_Bench__strike : Env → M Out := (bSeq ((bDrop ((eMeth "Bench" "need_number" m_Bench__need_number (eVar 0) ((eCons (eVar 1) (eNil))))))) ((bDrop ((eMeth "Bench" "do" m_Bench__do (eVar 0) ((eCons ((eTup ((eCons (eC (.str [115, 116, 114, 105, 107, 101])) ((eCons (eVar 1) (eNil))))))) (eNil))))))))
def m_Bench__strike : List D → M Vl := bodyM 2 2 b_Bench__strike
theorem s_Bench__strike {k : Kx} (E : XK) : SS k E (t_Bench__strike k E) b_Bench__strike := (ss_seq (ss_drop (se_meth se_var (sa_cons se_var sa_nil))) (ss_drop (se_meth se_var (sa_cons (se_tup (sa_cons (se_str (by decide +kernel)) (sa_cons se_var sa_nil))) sa_nil))))
def t_Bench__undo (k : Kx) (E : XK) : TS := (tSeq ((tIfS ((tTest (tOp (qEq k.K) ((tCB (qLen k.K) ((tCons ((tFld k.K (tVar 0) "deeds")) (tNil))))) (tC (.int 0))))) ((tRaise (fun cls d _ H => E cls d H) (fun _ H Q => Q (.ref (k.ca "NothingDone")) none H))) (tNext))) ((tSeq ((sFld k.K (tVar 0) ((L2.tSl (qSl k.K) ((tFld k.K (tVar 0) "deeds")) (tNoPart) ((tPart ((tUn (rU fun i => .int (-i)) (tC (.int 1)))))))) "deeds")) ((sFld k.K (tVar 0) ((tCall (spM k m_standing_behind) [] E ((tCons ((tFld k.K (tVar 0) "deeds")) (tNil))))) "known")))))
-- Bench__undo: 0 self
def b_Bench__undo : Env → M Out := (bSeq ((bIf ((eB (eOp eqB ((eCB lenD ((eCons ((eFld CTB "deeds" (eVar 0))) (eNil))))) (eC (.int 0))))) ((bRaise "NothingDone")) (bNext))) ((bSeq ((bFld CTB "deeds" (eVar 0) ((eSlT ((eFld CTB "deeds" (eVar 0))) (eNo) ((ePart ((eUn negD (eC (.int 1)))))))))) ((bFld CTB "known" (eVar 0) ((eCall m_standing_behind ((eCons ((eFld CTB "deeds" (eVar 0))) (eNil))))))))))
def m_Bench__undo : List D → M Vl := bodyM 1 1 b_Bench__undo
theorem s_Bench__undo {k : Kx} (hCT : CTab k CTB) (E : XK) : SS k E (t_Bench__undo k E) b_Bench__undo := (ss_seq (ss_if (st_test (se_op os_eq (se_cb cs_len (sa_cons (se_fld hCT se_var) sa_nil)) se_int)) ss_raise ss_next) (ss_seq (ss_fld hCT se_var (se_slT (se_fld hCT se_var) so_no (so_part (se_un us_neg se_int)))) (ss_fld hCT se_var (se_call (sa_cons (se_fld hCT se_var) sa_nil)))))
def t_Bench__mend (k : Kx) (E : XK) : TS := (tSeq ((tDrop ((tMeth (k.ca "Bench") "need_number" (spM k m_Bench__need_number) [] E (tVar 0) ((tCons (tVar 1) (tNil))))))) ((tSeq ((tDrop ((tMeth (k.ca "Bench") "need_read" (spM k m_Bench__need_read) [] E (tVar 0) ((tCons (tVar 2) (tNil))))))) ((tDrop ((tMeth (k.ca "Bench") "do" (spM k m_Bench__do) [] E (tVar 0) ((tCons ((tTup ((tCons (tC (.str "mend")) ((tCons (tVar 1) ((tCons (tVar 2) (tNil))))))))) (tNil))))))))))
-- Bench__mend: 0 self 1 number 2 word
def b_Bench__mend : Env → M Out := (bSeq ((bDrop ((eMeth "Bench" "need_number" m_Bench__need_number (eVar 0) ((eCons (eVar 1) (eNil))))))) ((bSeq ((bDrop ((eMeth "Bench" "need_read" m_Bench__need_read (eVar 0) ((eCons (eVar 2) (eNil))))))) ((bDrop ((eMeth "Bench" "do" m_Bench__do (eVar 0) ((eCons ((eTup ((eCons (eC (.str [109, 101, 110, 100])) ((eCons (eVar 1) ((eCons (eVar 2) (eNil))))))))) (eNil))))))))))
def m_Bench__mend : List D → M Vl := bodyM 3 3 b_Bench__mend
theorem s_Bench__mend {k : Kx} (E : XK) : SS k E (t_Bench__mend k E) b_Bench__mend := (ss_seq (ss_drop (se_meth se_var (sa_cons se_var sa_nil))) (ss_seq (ss_drop (se_meth se_var (sa_cons se_var sa_nil))) (ss_drop (se_meth se_var (sa_cons (se_tup (sa_cons (se_str (by decide +kernel)) (sa_cons se_var (sa_cons se_var sa_nil)))) sa_nil)))))
def t__law_do (k : Kx) (E : XK) : TS := (tSeq ((tIfS ((tTest (tOp (qEq k.K) ((tOp (qIxA k.K) (tVar 1) (tC (.int 0)))) (tC (.str "add"))))) ((tRet ((tMeth (k.ca "Bench") "add" (spM k m_Bench__add) [] E (tVar 0) ((tCons ((tOp (qIxA k.K) (tVar 1) (tC (.int 1)))) (tNil))))))) (tNext))) ((tSeq ((tIfS ((tTest (tOp (qEq k.K) ((tOp (qIxA k.K) (tVar 1) (tC (.int 0)))) (tC (.str "strike"))))) ((tRet ((tMeth (k.ca "Bench") "strike" (spM k m_Bench__strike) [] E (tVar 0) ((tCons ((tOp (qIxA k.K) (tVar 1) (tC (.int 1)))) (tNil))))))) (tNext))) ((tRet ((tIf ((tTest (tOp (qEq k.K) ((tOp (qIxA k.K) (tVar 1) (tC (.int 0)))) (tC (.str "undo"))))) ((tMeth (k.ca "Bench") "undo" (spM k m_Bench__undo) [] E (tVar 0) (tNil))) ((tMeth (k.ca "Bench") "mend" (spM k m_Bench__mend) [] E (tVar 0) ((tCons ((tOp (qIxA k.K) (tVar 1) (tC (.int 1)))) ((tCons ((tOp (qIxA k.K) (tVar 1) (tC (.int 2)))) (tNil))))))))))))))
-- _law_do: 0 _law_bench 1 _law_deed
def b__law_do : Env → M Out := (bSeq ((bIf ((eB (eOp eqB ((eIxA (eVar 1) (eC (.int 0)))) (eC (.str [97, 100, 100]))))) ((bRet ((eMeth "Bench" "add" m_Bench__add (eVar 0) ((eCons ((eIxA (eVar 1) (eC (.int 1)))) (eNil))))))) (bNext))) ((bSeq ((bIf ((eB (eOp eqB ((eIxA (eVar 1) (eC (.int 0)))) (eC (.str [115, 116, 114, 105, 107, 101]))))) ((bRet ((eMeth "Bench" "strike" m_Bench__strike (eVar 0) ((eCons ((eIxA (eVar 1) (eC (.int 1)))) (eNil))))))) (bNext))) ((bRet ((eIf ((eB (eOp eqB ((eIxA (eVar 1) (eC (.int 0)))) (eC (.str [117, 110, 100, 111]))))) ((eMeth "Bench" "undo" m_Bench__undo (eVar 0) (eNil))) ((eMeth "Bench" "mend" m_Bench__mend (eVar 0) ((eCons ((eIxA (eVar 1) (eC (.int 1)))) ((eCons ((eIxA (eVar 1) (eC (.int 2)))) (eNil))))))))))))))
def m__law_do : List D → M Vl := bodyM 2 2 b__law_do
theorem s__law_do {k : Kx} (E : XK) : SS k E (t__law_do k E) b__law_do := (ss_seq (ss_if (st_test (se_op os_eq (se_ixA se_var se_int) (se_str (by decide +kernel)))) (ss_ret (se_meth se_var (sa_cons (se_ixA se_var se_int) sa_nil))) ss_next) (ss_seq (ss_if (st_test (se_op os_eq (se_ixA se_var se_int) (se_str (by decide +kernel)))) (ss_ret (se_meth se_var (sa_cons (se_ixA se_var se_int) sa_nil))) ss_next) (ss_ret (se_if (st_test (se_op os_eq (se_ixA se_var se_int) (se_str (by decide +kernel)))) (se_meth se_var sa_nil) (se_meth se_var (sa_cons (se_ixA se_var se_int) (sa_cons (se_ixA se_var se_int) sa_nil)))))))
def t__law_drawn_deed (k : Kx) (E : XK) : TS := (tSeq ((tAsg ((tCall (spM k m__law_pick) [] E ((tCons (tVar 0) ((tCons ((tLst ((tCons (tC (.str "add")) ((tCons (tC (.str "add")) ((tCons (tC (.str "add")) ((tCons (tC (.str "strike")) ((tCons (tC (.str "mend")) ((tCons (tC (.str "undo")) (tNil))))))))))))))) (tNil))))))) (gName 2))) ((tSeq ((tAsg ((tOp (qAdd k.K) ((tCB (rSortDki) ((tCons ((tOp (qIxA k.K) (tVar 1) (tC (.str "reads")))) (tNil))))) ((tLst ((tCons ((tCall (spM k m_take) [] E ((tCons (tVar 0) ((tCons (tC (.int 5)) (tNil))))))) (tNil))))))) (gName 3))) ((tSeq ((tIfS ((tTest (tOp (qEq k.K) (tVar 2) (tC (.str "add"))))) ((tRet ((tTup ((tCons (tVar 2) ((tCons ((tCall (spM k m__law_fresh_read) [] E ((tCons (tVar 0) ((tCons ((tOp (qIxA k.K) (tVar 1) (tC (.str "length")))) (tNil))))))) (tNil))))))))) (tNext))) ((tSeq ((tIfS ((tTest (tOp (qEq k.K) (tVar 2) (tC (.str "undo"))))) ((tRet ((tTup ((tCons (tVar 2) (tNil))))))) (tNext))) ((tSeq ((tAsg ((tCall (spM k m__law_pick) [] E ((tCons (tVar 0) ((tCons ((tOp (qAdd k.K) (tVar 3) ((L2.tSl (qSl k.K) (tVar 3) (tNoPart) ((tPart ((tUn (rU fun i => .int (-i)) (tC (.int 1)))))))))) (tNil))))))) (gName 4))) ((tRet ((tIf ((tTest (tOp (qEq k.K) (tVar 2) (tC (.str "strike"))))) ((tTup ((tCons (tVar 2) ((tCons (tVar 4) (tNil))))))) ((tTup ((tCons (tVar 2) ((tCons (tVar 4) ((tCons ((tCall (spM k m__law_fresh_read) [] E ((tCons (tVar 0) ((tCons ((tOp (qIxA k.K) (tVar 1) (tC (.str "length")))) (tNil))))))) (tNil))))))))))))))))))))))
-- _law_drawn_deed: 0 _law_draw 1 _law_account 2 _law_word 3 _law_some 4 _law_number
def b__law_drawn_deed : Env → M Out := (bSeq ((bSet 2 ((eCall m__law_pick ((eCons (eVar 0) ((eCons ((eLst ((eCons (eC (.str [97, 100, 100])) ((eCons (eC (.str [97, 100, 100])) ((eCons (eC (.str [97, 100, 100])) ((eCons (eC (.str [115, 116, 114, 105, 107, 101])) ((eCons (eC (.str [109, 101, 110, 100])) ((eCons (eC (.str [117, 110, 100, 111])) (eNil))))))))))))))) (eNil))))))))) ((bSeq ((bSet 3 ((eOp addD ((eCOV sortedDI ((eCons ((eIxA (eVar 1) (eC (.str [114, 101, 97, 100, 115])))) (eNil))))) ((eLst ((eCons ((eCall m_take ((eCons (eVar 0) ((eCons (eC (.int 5)) (eNil))))))) (eNil))))))))) ((bSeq ((bFrz [2] ((bIf ((eB (eOp eqB (eVar 2) (eC (.str [97, 100, 100]))))) ((bFrz [2] ((bRet ((eTup ((eCons (eVar 2) ((eCons ((eCall m__law_fresh_read ((eCons (eVar 0) ((eCons ((eIxA (eVar 1) (eC (.str [108, 101, 110, 103, 116, 104])))) (eNil))))))) (eNil))))))))))) (bNext))))) ((bSeq ((bFrz [2] ((bIf ((eB (eOp eqB (eVar 2) (eC (.str [117, 110, 100, 111]))))) ((bFrz [2] ((bRet ((eTup ((eCons (eVar 2) (eNil))))))))) (bNext))))) ((bSeq ((bSet 4 ((eCall m__law_pick ((eCons (eVar 0) ((eCons ((eOp addD (eVar 3) ((eSl (eVar 3) (eNo) ((ePart ((eUn negD (eC (.int 1)))))))))) (eNil))))))))) ((bFrz [2, 4] ((bRet ((eIf ((eB (eOp eqB (eVar 2) (eC (.str [115, 116, 114, 105, 107, 101]))))) ((eTup ((eCons (eVar 2) ((eCons (eVar 4) (eNil))))))) ((eTup ((eCons (eVar 2) ((eCons (eVar 4) ((eCons ((eCall m__law_fresh_read ((eCons (eVar 0) ((eCons ((eIxA (eVar 1) (eC (.str [108, 101, 110, 103, 116, 104])))) (eNil))))))) (eNil))))))))))))))))))))))))
def m__law_drawn_deed : List D → M Vl := bodyM 2 5 b__law_drawn_deed
theorem s__law_drawn_deed {k : Kx} (E : XK) : SS k E (t__law_drawn_deed k E) b__law_drawn_deed := (ss_seq (ss_set (se_call (sa_cons se_var (sa_cons (se_lst (sa_cons (se_str (by decide +kernel)) (sa_cons (se_str (by decide +kernel)) (sa_cons (se_str (by decide +kernel)) (sa_cons (se_str (by decide +kernel)) (sa_cons (se_str (by decide +kernel)) (sa_cons (se_str (by decide +kernel)) sa_nil))))))) sa_nil)))) (ss_seq (ss_set (se_op os_add (se_cov co_sortDI (sa_cons (se_ixA se_var (se_str (by decide +kernel))) sa_nil)) (se_lst (sa_cons (se_call (sa_cons se_var (sa_cons se_int sa_nil))) sa_nil)))) (ss_seq (ss_frz (ss_if (st_test (se_op os_eq se_var (se_str (by decide +kernel)))) (ss_frz (ss_ret (se_tup (sa_cons se_var (sa_cons (se_call (sa_cons se_var (sa_cons (se_ixA se_var (se_str (by decide +kernel))) sa_nil))) sa_nil))))) ss_next)) (ss_seq (ss_frz (ss_if (st_test (se_op os_eq se_var (se_str (by decide +kernel)))) (ss_frz (ss_ret (se_tup (sa_cons se_var sa_nil)))) ss_next)) (ss_seq (ss_set (se_call (sa_cons se_var (sa_cons (se_op os_add se_var (se_sl se_var so_no (so_part (se_un us_neg se_int)))) sa_nil)))) (ss_frz (ss_ret (se_if (st_test (se_op os_eq se_var (se_str (by decide +kernel)))) (se_tup (sa_cons se_var (sa_cons se_var sa_nil))) (se_tup (sa_cons se_var (sa_cons se_var (sa_cons (se_call (sa_cons se_var (sa_cons (se_ixA se_var (se_str (by decide +kernel))) sa_nil))) sa_nil))))))))))))
def t_Bench__log (k : Kx) (E : XK) : TS := (tRet ((tCB (qListA k.K) ((tCons ((tFld k.K (tVar 0) "deeds")) (tNil))))))
-- Bench__log: 0 self
def b_Bench__log : Env → M Out := (bRet ((eCOV listA ((eCons ((eFld CTB "deeds" (eVar 0))) (eNil))))))
def m_Bench__log : List D → M Vl := bodyM 1 1 b_Bench__log
theorem s_Bench__log {k : Kx} (hCT : CTab k CTB) (E : XK) : SS k E (t_Bench__log k E) b_Bench__log := (ss_ret (se_cov co_listA (sa_cons (se_fld hCT se_var) sa_nil)))
def t_Bench__reads (k : Kx) (E : XK) : TS := (tRet ((tCB (rDictC) ((tCons ((tFld k.K (tVar 0) "known")) (tNil))))))
-- Bench__reads: 0 self
def b_Bench__reads : Env → M Out := (bRet ((eCOV dictCD ((eCons ((eFld CTB "known" (eVar 0))) (eNil))))))
def m_Bench__reads : List D → M Vl := bodyM 1 1 b_Bench__reads
theorem s_Bench__reads {k : Kx} (hCT : CTab k CTB) (E : XK) : SS k E (t_Bench__reads k E) b_Bench__reads := (ss_ret (se_cov co_dictC (sa_cons (se_fld hCT se_var) sa_nil)))
def t_Bench__length (k : Kx) (E : XK) : TS := (tRet ((tFld k.K (tVar 0) "own_length")))
-- Bench__length: 0 self
def b_Bench__length : Env → M Out := (bRet ((eFld CTB "own_length" (eVar 0))))
def m_Bench__length : List D → M Vl := bodyM 1 1 b_Bench__length
theorem s_Bench__length {k : Kx} (hCT : CTab k CTB) (E : XK) : SS k E (t_Bench__length k E) b_Bench__length := (ss_ret (se_fld hCT se_var))
def t__law_is_as (k : Kx) (E : XK) : TS := (tSeq ((tAsg ((tLst ((tCons ((tProp (k.ca "Bench") (spM k m_Bench__length) [] L2.E0 (tVar 0))) ((tCons ((tProp (k.ca "Bench") (spM k m_Bench__reads) [] L2.E0 (tVar 0))) ((tCons ((tProp (k.ca "Bench") (spM k m_Bench__log) [] L2.E0 (tVar 0))) (tNil))))))))) (gName 2))) ((tRet ((tOp (qEq k.K) ((tCB (rReprX k.K) ((tCons (tVar 2) (tNil))))) ((tCB (rReprX k.K) ((tCons ((tLst ((tCons ((tOp (qIxA k.K) (tVar 1) (tC (.str "length")))) ((tCons ((tOp (qIxA k.K) (tVar 1) (tC (.str "reads")))) ((tCons ((tOp (qIxA k.K) (tVar 1) (tC (.str "log")))) (tNil))))))))) (tNil))))))))))
-- _law_is_as: 0 _law_bench 1 _law_account 2 _law_told
def b__law_is_as : Env → M Out := (bSeq ((bSet 2 ((eLst ((eCons ((eProp0 "Bench" m_Bench__length (eVar 0))) ((eCons ((eProp0 "Bench" m_Bench__reads (eVar 0))) ((eCons ((eProp0 "Bench" m_Bench__log (eVar 0))) (eNil))))))))))) ((bFrz [2] ((bRet ((eOp eqB ((eCB reprX ((eCons (eVar 2) (eNil))))) ((eCB reprX ((eCons ((eLst ((eCons ((eIxA (eVar 1) (eC (.str [108, 101, 110, 103, 116, 104])))) ((eCons ((eIxA (eVar 1) (eC (.str [114, 101, 97, 100, 115])))) ((eCons ((eIxA (eVar 1) (eC (.str [108, 111, 103])))) (eNil))))))))) (eNil))))))))))))
def m__law_is_as : List D → M Vl := bodyM 2 3 b__law_is_as
theorem s__law_is_as {k : Kx} (hSys : SysD k.K) (E : XK) : SS k E (t__law_is_as k E) b__law_is_as := (ss_seq (ss_set (se_lst (sa_cons (se_prop0 se_var) (sa_cons (se_prop0 se_var) (sa_cons (se_prop0 se_var) sa_nil))))) (ss_frz (ss_ret (se_op os_eq (se_cb (cs_reprX hSys) (sa_cons se_var sa_nil)) (se_cb (cs_reprX hSys) (sa_cons (se_lst (sa_cons (se_ixA se_var (se_str (by decide +kernel))) (sa_cons (se_ixA se_var (se_str (by decide +kernel))) (sa_cons (se_ixA se_var (se_str (by decide +kernel))) sa_nil)))) sa_nil))))))
def t__law_word_of (k : Kx) (E : XK) : TS := (tSeq ((tIfS ((tB (tIsN (tVar 0)))) ((tRet (tC (.str "")))) (tNext))) ((tSeq ((tAsg ((tLst ((tCons ((tCB (rIsE2 k.K) ((tCons (tVar 0) ((tCons (tC (.ref (k.ca "BadIndex"))) (tNil))))))) ((tCons ((tCB (rIsE2 k.K) ((tCons (tVar 0) ((tCons (tC (.ref (k.ca "BadWord"))) (tNil))))))) ((tCons ((tCB (rIsE2 k.K) ((tCons (tVar 0) ((tCons (tC (.ref (k.ca "TooMany"))) (tNil))))))) (tNil))))))))) (gName 1))) ((tSeq ((tAsg ((tOp (qAdd k.K) (tVar 1) ((tLst ((tCons ((tCB (rIsE2 k.K) ((tCons (tVar 0) ((tCons (tC (.ref (k.ca "NothingDone"))) (tNil))))))) ((tCons (tC (.bl true)) (tNil))))))))) (gName 1))) ((tRet ((tOp (qIxA k.K) ((tLst ((tCons (tC (.str "index")) ((tCons (tC (.str "word")) ((tCons (tC (.str "many")) ((tCons (tC (.str "nothing")) ((tCons (tC (.str "another")) (tNil))))))))))))) ((tBM k.K "list" (rIndex k.K) (tVar 1) ((tCons (tC (.bl true)) (tNil))))))))))))))
-- _law_word_of: 0 _law_error 1 _law_some
def b__law_word_of : Env → M Out := (bSeq ((bIf ((eB (eIsN false (eVar 0)))) ((bRet (eC (.str [])))) (bNext))) ((bSeq ((bSet 1 ((eLst ((eCons ((eCB (isiE XT) ((eCons (eVar 0) ((eCons (eC (.glo "BadIndex")) (eNil))))))) ((eCons ((eCB (isiE XT) ((eCons (eVar 0) ((eCons (eC (.glo "BadWord")) (eNil))))))) ((eCons ((eCB (isiE XT) ((eCons (eVar 0) ((eCons (eC (.glo "TooMany")) (eNil))))))) (eNil))))))))))) ((bSeq ((bFrz [1] ((bSet 1 ((eOp addD (eVar 1) ((eLst ((eCons ((eCB (isiE XT) ((eCons (eVar 0) ((eCons (eC (.glo "NothingDone")) (eNil))))))) ((eCons (eC (.bl true)) (eNil))))))))))))) ((bFrz [1] ((bRet ((eIxA ((eLst ((eCons (eC (.str [105, 110, 100, 101, 120])) ((eCons (eC (.str [119, 111, 114, 100])) ((eCons (eC (.str [109, 97, 110, 121])) ((eCons (eC (.str [110, 111, 116, 104, 105, 110, 103])) ((eCons (eC (.str [97, 110, 111, 116, 104, 101, 114])) (eNil))))))))))))) ((eMtL indexB (eVar 1) ((eCons (eC (.bl true)) (eNil))))))))))))))))
def m__law_word_of : List D → M Vl := bodyM 1 2 b__law_word_of
theorem s__law_word_of {k : Kx} (hXT : XTab k XT) (E : XK) : SS k E (t__law_word_of k E) b__law_word_of := (ss_seq (ss_if (st_b (se_isN se_var)) (ss_ret (se_str (by decide +kernel))) ss_next) (ss_seq (ss_set (se_lst (sa_cons (se_cb (cs_isE hXT) (sa_cons se_var (sa_cons (se_glo rfl) sa_nil))) (sa_cons (se_cb (cs_isE hXT) (sa_cons se_var (sa_cons (se_glo rfl) sa_nil))) (sa_cons (se_cb (cs_isE hXT) (sa_cons se_var (sa_cons (se_glo rfl) sa_nil))) sa_nil))))) (ss_seq (ss_frz (ss_set (se_op os_add se_var (se_lst (sa_cons (se_cb (cs_isE hXT) (sa_cons se_var (sa_cons (se_glo rfl) sa_nil))) (sa_cons se_bl sa_nil)))))) (ss_frz (ss_ret (se_ixA (se_lst (sa_cons (se_str (by decide +kernel)) (sa_cons (se_str (by decide +kernel)) (sa_cons (se_str (by decide +kernel)) (sa_cons (se_str (by decide +kernel)) (sa_cons (se_str (by decide +kernel)) sa_nil)))))) (se_idxL se_var (sa_cons se_bl sa_nil))))))))
def t__law_bent (k : Kx) (E : XK) : TS := (tSeq ((tIfS ((tTest (tOp (qLt) ((tCB (qLen k.K) ((tCons (tVar 2) (tNil))))) (tC (.int 2))))) ((tRet (tVar 2))) (tNext))) ((tSeq ((tPar 3 4 ((tCons ((tCall (spM k m__law_odd) [] E ((tCons (tVar 0) (tNil))))) ((tCons ((tCall (spM k m__law_letters) [] E ((tCons (tVar 0) ((tCons (tC (.str "ac")) ((tCons ((tOp (qIxA k.K) (tVar 1) (tC (.str "length")))) (tNil))))))))) (tNil))))))) ((tSeq ((tIfS ((tTest (tOp (qEq k.K) ((tOp (qIxA k.K) (tVar 2) (tC (.int 0)))) (tC (.str "add"))))) ((tRet ((tTup ((tCons (tC (.str "add")) ((tCons ((tCall (spM k m__law_pick) [] E ((tCons (tVar 0) ((tCons ((tLst ((tCons (tVar 3) ((tCons (tVar 4) ((tCons (tC (.str "acgtu")) ((tCons (tC (.str "acgt ")) (tNil))))))))))) (tNil))))))) (tNil))))))))) (tNext))) ((tSeq ((tAsg ((tCall (spM k m__law_pick) [] E ((tCons (tVar 0) ((tCons ((tLst ((tCons (tVar 3) ((tCons (tC (.bl true)) ((tCons (tC (.bl false)) ((tCons (tC (.int 99)) ((tCons ((tUn (rU fun i => .int (-i)) (tC (.int 1)))) ((tCons ((tCB (rStrI) ((tCons ((tOp (qIxA k.K) (tVar 2) (tC (.int 1)))) (tNil))))) (tNil))))))))))))))) (tNil))))))) (gName 5))) ((tSeq ((tIfS ((tTest (tOp (qEq k.K) ((tOp (qIxA k.K) (tVar 2) (tC (.int 0)))) (tC (.str "strike"))))) ((tRet ((tTup ((tCons (tC (.str "strike")) ((tCons (tVar 5) (tNil))))))))) (tNext))) ((tSeq ((tAsg ((tCall (spM k m__law_pick) [] E ((tCons (tVar 0) ((tCons ((tLst ((tCons (tVar 3) ((tCons (tVar 4) (tNil))))))) (tNil))))))) (gName 6))) ((tRet ((tCall (spM k m__law_pick) [] E ((tCons (tVar 0) ((tCons ((tLst ((tCons ((tTup ((tCons (tC (.str "mend")) ((tCons (tVar 5) ((tCons ((tOp (qIxA k.K) (tVar 2) (tC (.int 2)))) (tNil))))))))) ((tCons ((tTup ((tCons (tC (.str "mend")) ((tCons ((tOp (qIxA k.K) (tVar 2) (tC (.int 1)))) ((tCons (tVar 6) (tNil))))))))) ((tCons ((tTup ((tCons (tC (.str "mend")) ((tCons (tVar 5) ((tCons (tVar 3) (tNil))))))))) (tNil))))))))) (tNil))))))))))))))))))))
-- _law_bent: 0 _law_draw 1 _law_account 2 _law_deed 3 _law_odd_here 4 _law_short 5 _law_number 6 _law_wrong
def b__law_bent : Env → M Out := (bSeq ((bIf ((eB (eOp ltD ((eCB lenD ((eCons (eVar 2) (eNil))))) (eC (.int 2))))) ((bRet (eVar 2))) (bNext))) ((bSeq ((bSets [3, 4] ((eCons ((eCall m__law_odd ((eCons (eVar 0) (eNil))))) ((eCons ((eCall m__law_letters ((eCons (eVar 0) ((eCons (eC (.str [97, 99])) ((eCons ((eIxA (eVar 1) (eC (.str [108, 101, 110, 103, 116, 104])))) (eNil))))))))) (eNil))))))) ((bSeq ((bIf ((eB (eOp eqB ((eIxA (eVar 2) (eC (.int 0)))) (eC (.str [97, 100, 100]))))) ((bFrz [3, 4] ((bRet ((eTup ((eCons (eC (.str [97, 100, 100])) ((eCons ((eCall m__law_pick ((eCons (eVar 0) ((eCons ((eLst ((eCons (eVar 3) ((eCons (eVar 4) ((eCons (eC (.str [97, 99, 103, 116, 117])) ((eCons (eC (.str [97, 99, 103, 116, 32])) (eNil))))))))))) (eNil))))))) (eNil))))))))))) (bNext))) ((bSeq ((bFrz [3] ((bSet 5 ((eCall m__law_pick ((eCons (eVar 0) ((eCons ((eLst ((eCons (eVar 3) ((eCons (eC (.bl true)) ((eCons (eC (.bl false)) ((eCons (eC (.int 99)) ((eCons ((eUn negD (eC (.int 1)))) ((eCons ((eCB strID ((eCons ((eIxA (eVar 2) (eC (.int 1)))) (eNil))))) (eNil))))))))))))))) (eNil))))))))))) ((bSeq ((bIf ((eB (eOp eqB ((eIxA (eVar 2) (eC (.int 0)))) (eC (.str [115, 116, 114, 105, 107, 101]))))) ((bFrz [5] ((bRet ((eTup ((eCons (eC (.str [115, 116, 114, 105, 107, 101])) ((eCons (eVar 5) (eNil))))))))))) (bNext))) ((bSeq ((bFrz [3, 4] ((bSet 6 ((eCall m__law_pick ((eCons (eVar 0) ((eCons ((eLst ((eCons (eVar 3) ((eCons (eVar 4) (eNil))))))) (eNil))))))))))) ((bFrz [3, 5, 6] ((bRet ((eCall m__law_pick ((eCons (eVar 0) ((eCons ((eLst ((eCons ((eTup ((eCons (eC (.str [109, 101, 110, 100])) ((eCons (eVar 5) ((eCons ((eIxA (eVar 2) (eC (.int 2)))) (eNil))))))))) ((eCons ((eTup ((eCons (eC (.str [109, 101, 110, 100])) ((eCons ((eIxA (eVar 2) (eC (.int 1)))) ((eCons (eVar 6) (eNil))))))))) ((eCons ((eTup ((eCons (eC (.str [109, 101, 110, 100])) ((eCons (eVar 5) ((eCons (eVar 3) (eNil))))))))) (eNil))))))))) (eNil))))))))))))))))))))))
def m__law_bent : List D → M Vl := bodyM 3 7 b__law_bent
theorem s__law_bent {k : Kx} (E : XK) : SS k E (t__law_bent k E) b__law_bent := (ss_seq (ss_if (st_test (se_op os_lt (se_cb cs_len (sa_cons se_var sa_nil)) se_int)) (ss_ret se_var) ss_next) (ss_seq (ss_par (sao_cons (se_call (sa_cons se_var sa_nil)) (sao_cons (se_call (sa_cons se_var (sa_cons (se_str (by decide +kernel)) (sa_cons (se_ixA se_var (se_str (by decide +kernel))) sa_nil)))) sao_nil))) (ss_seq (ss_if (st_test (se_op os_eq (se_ixA se_var se_int) (se_str (by decide +kernel)))) (ss_frz (ss_ret (se_tup (sa_cons (se_str (by decide +kernel)) (sa_cons (se_call (sa_cons se_var (sa_cons (se_lst (sa_cons se_var (sa_cons se_var (sa_cons (se_str (by decide +kernel)) (sa_cons (se_str (by decide +kernel)) sa_nil))))) sa_nil))) sa_nil))))) ss_next) (ss_seq (ss_frz (ss_set (se_call (sa_cons se_var (sa_cons (se_lst (sa_cons se_var (sa_cons se_bl (sa_cons se_bl (sa_cons se_int (sa_cons (se_un us_neg se_int) (sa_cons (se_cb cs_strI (sa_cons (se_ixA se_var se_int) sa_nil)) sa_nil))))))) sa_nil))))) (ss_seq (ss_if (st_test (se_op os_eq (se_ixA se_var se_int) (se_str (by decide +kernel)))) (ss_frz (ss_ret (se_tup (sa_cons (se_str (by decide +kernel)) (sa_cons se_var sa_nil))))) ss_next) (ss_seq (ss_frz (ss_set (se_call (sa_cons se_var (sa_cons (se_lst (sa_cons se_var (sa_cons se_var sa_nil))) sa_nil))))) (ss_frz (ss_ret (se_call (sa_cons se_var (sa_cons (se_lst (sa_cons (se_tup (sa_cons (se_str (by decide +kernel)) (sa_cons se_var (sa_cons (se_ixA se_var se_int) sa_nil)))) (sa_cons (se_tup (sa_cons (se_str (by decide +kernel)) (sa_cons (se_ixA se_var se_int) (sa_cons se_var sa_nil)))) (sa_cons (se_tup (sa_cons (se_str (by decide +kernel)) (sa_cons se_var (sa_cons se_var sa_nil)))) sa_nil)))) sa_nil)))))))))))
def t__law_step_right (k : Kx) (E : XK) : TS := (tSeq ((tAsg (tTup ((tCons ((tLst (tNil))) ((tCons ((tCall (spM k m__law_refusal) [] E ((tCons (tVar 2) ((tCons (tVar 3) (tNil))))))) (tNil)))))) (gTL k.K 2 (gCons (gName 4) (gCons (gName 5) gNil))))) ((tSeq ((tAsg (LamX.tLam k.T (TCaught k.K (k.ca "ReadError")) (fun E' => (tBM k.K "list" rAppend (tVar 4) (tCons ((tCall (spM k m__law_do) [] E' ((tCons (tVar 1) ((tCons (tVar 3) (tNil))))))) tNil)))) (gName 6))) ((tSeq ((tIfS ((tOr ((tTest (tOp (qNe k.K) ((tCall (spM k m__law_word_of) [] E ((tCons (tVar 6) (tNil))))) (tVar 5)))) ((tAnd ((tTest (tOp (qEq k.K) (tVar 5) (tC (.str "many"))))) ((tTest (tOp (qNe k.K) ((tExF k.K "limit" (tVar 6))) (tC (.int 20))))))))) ((tRet ((tLst (tNil))))) (tNext))) ((tSeq ((tIfS ((tTest (tOp (qNe k.K) (tVar 5) (tC (.str ""))))) ((tRet ((tIf ((tB ((tCall (spM k m__law_is_as) [] E ((tCons (tVar 1) ((tCons (tVar 2) (tNil))))))))) ((tLst ((tCons (tVar 2) (tNil))))) ((tLst (tNil))))))) (tNext))) ((tSeq ((tAsg ((tIf ((tTest (tOp (qEq k.K) ((tOp (qIxA k.K) (tVar 3) (tC (.int 0)))) (tC (.str "add"))))) ((tCall (spM k m__law_number_of) [] E ((tCons (tVar 2) (tNil))))) (tC .non))) (gName 7))) ((tSeq ((tAsg ((tCall (spM k m__law_behind) [] E ((tCons (tVar 2) ((tCons (tVar 3) (tNil))))))) (gName 8))) ((tRet ((tIf ((tAnd ((tTest (tOp (qEq k.K) ((tCB (rReprX k.K) ((tCons (tVar 4) (tNil))))) ((tCB (rReprX k.K) ((tCons ((tLst ((tCons (tVar 7) (tNil))))) (tNil)))))))) ((tB ((tCall (spM k m__law_is_as) [] E ((tCons (tVar 1) ((tCons (tVar 8) (tNil))))))))))) ((tLst ((tCons (tVar 8) (tNil))))) ((tLst (tNil))))))))))))))))))
-- _law_step_right: 0 _law_draw 1 _law_bench 2 _law_account 3 _law_deed 4 _law_found 5 _law_word 6 _law_error 7 _law_due 8 _law_fresh
def b__law_step_right : Env → M Out := (bSeq ((bSets [4, 5] ((eCons ((eLst (eNil))) ((eCons ((eCall m__law_refusal ((eCons (eVar 2) ((eCons (eVar 3) (eNil))))))) (eNil))))))) ((bSeq ((bCaughtApp CAT 6 4 ((eCall m__law_do ((eCons (eVar 1) ((eCons (eVar 3) (eNil))))))))) ((bSeq ((bFrz [5, 6] ((bIf ((eOr ((eB (eOp neB ((eCall m__law_word_of ((eCons (eVar 6) (eNil))))) (eVar 5)))) ((eAnd ((eB (eOp eqB (eVar 5) (eC (.str [109, 97, 110, 121]))))) ((eB (eOp neB ((eExF XF "limit" (eVar 6))) (eC (.int 20))))))))) ((bRet ((eLst (eNil))))) (bNext))))) ((bSeq ((bFrz [5] ((bIf ((eB (eOp neB (eVar 5) (eC (.str []))))) ((bRet ((eIf ((eB ((eCall m__law_is_as ((eCons (eVar 1) ((eCons (eVar 2) (eNil))))))))) ((eLst ((eCons (eVar 2) (eNil))))) ((eLst (eNil))))))) (bNext))))) ((bSeq ((bSet 7 ((eIf ((eB (eOp eqB ((eIxA (eVar 3) (eC (.int 0)))) (eC (.str [97, 100, 100]))))) ((eCall m__law_number_of ((eCons (eVar 2) (eNil))))) (eC .non))))) ((bSeq ((bSet 8 ((eCall m__law_behind ((eCons (eVar 2) ((eCons (eVar 3) (eNil))))))))) ((bFrz [4, 7, 8] ((bRet ((eIf ((eAnd ((eB (eOp eqB ((eCB reprX ((eCons (eVar 4) (eNil))))) ((eCB reprX ((eCons ((eLst ((eCons (eVar 7) (eNil))))) (eNil)))))))) ((eB ((eCall m__law_is_as ((eCons (eVar 1) ((eCons (eVar 8) (eNil))))))))))) ((eLst ((eCons (eVar 8) (eNil))))) ((eLst (eNil))))))))))))))))))))
def m__law_step_right : List D → M Vl := bodyM 4 9 b__law_step_right
theorem s__law_step_right {k : Kx} (hCAT : ∀ C ∈ CAT, PySem.W.exmOne k.K (.ref (k.ca C)) (.ref (k.ca "ReadError")) = some true) (hXF : XFTab k XF) (hSys : SysD k.K) (E : XK) : SS k E (t__law_step_right k E) b__law_step_right := (ss_seq (ss_parT (sao_cons (se_lst sa_nil) (sao_cons (se_call (sa_cons se_var (sa_cons se_var sa_nil))) sao_nil))) (ss_seq (ss_caughtApp hCAT (fun E' => (se_call (sa_cons se_var (sa_cons se_var sa_nil))))) (ss_seq (ss_frz (ss_if (st_or (st_test (se_op os_ne (se_call (sa_cons se_var sa_nil)) se_var)) (st_and (st_test (se_op os_eq se_var (se_str (by decide +kernel)))) (st_test (se_op os_ne (se_exf hXF se_var) se_int)))) (ss_ret (se_lst sa_nil)) ss_next)) (ss_seq (ss_frz (ss_if (st_test (se_op os_ne se_var (se_str (by decide +kernel)))) (ss_ret (se_if (st_b (se_call (sa_cons se_var (sa_cons se_var sa_nil)))) (se_lst (sa_cons se_var sa_nil)) (se_lst sa_nil))) ss_next)) (ss_seq (ss_set (se_if (st_test (se_op os_eq (se_ixA se_var se_int) (se_str (by decide +kernel)))) (se_call (sa_cons se_var sa_nil)) se_non)) (ss_seq (ss_set (se_call (sa_cons se_var (sa_cons se_var sa_nil)))) (ss_frz (ss_ret (se_if (st_and (st_test (se_op os_eq (se_cb (cs_reprX hSys) (sa_cons se_var sa_nil)) (se_cb (cs_reprX hSys) (sa_cons (se_lst (sa_cons se_var sa_nil)) sa_nil)))) (st_b (se_call (sa_cons se_var (sa_cons se_var sa_nil))))) (se_lst (sa_cons se_var sa_nil)) (se_lst sa_nil))))))))))
def t_Bench__init (k : Kx) (E : XK) : TS := (tSeq ((tDrop ((tCall (spM k m_need_length) [] E ((tCons (tVar 1) (tNil))))))) ((tSeq ((sFld k.K (tVar 0) (tVar 1) "own_length")) ((tSeq ((sFld k.K (tVar 0) ((tTup (tNil))) "deeds")) ((tSeq ((sFld k.K (tVar 0) (tDNewK) "known")) ((sFld k.K (tVar 0) (tC .non) "mark")))))))))
-- Bench__init: 0 self 1 length
def b_Bench__init : Env → M Out := (bSeq ((bDrop ((eCall m_need_length ((eCons (eVar 1) (eNil))))))) ((bSeq ((bFld CTB "own_length" (eVar 0) (eVar 1))) ((bSeq ((bFld CTB "deeds" (eVar 0) ((eTup (eNil))))) ((bSeq ((bFld CTB "known" (eVar 0) (eDNew))) ((bFld CTB "mark" (eVar 0) (eC .non))))))))))
def m_Bench__init : List D → M Vl := bodyM 2 2 b_Bench__init
theorem s_Bench__init {k : Kx} (hCT : CTab k CTB) (E : XK) : SS k E (t_Bench__init k E) b_Bench__init := (ss_seq (ss_drop (se_call (sa_cons se_var sa_nil))) (ss_seq (ss_fld hCT se_var se_var) (ss_seq (ss_fld hCT se_var (se_tup sa_nil)) (ss_seq (ss_fld hCT se_var se_dnew) (ss_fld hCT se_var se_non)))))
def t__law_full_right (k : Kx) (E : XK) : TS := (tSeq ((tPar 1 2 ((tCons ((tMake (k.ca "Bench") (spM k m_Bench__init) [] E ((tCons (tC (.int 1)) (tNil))))) ((tCons ((tCall (spM k m__law_begun_bench) [] E ((tCons (tC (.int 1)) (tNil))))) (tNil))))))) ((tSeq ((tFor ((iRng1 ((tCons (tC (.int 20)) (tNil))))) ((gName 3)) ((tSeq ((tAsg ((tCall (spM k m__law_letters) [] E ((tCons (tVar 0) ((tCons (tC (.str "acgt")) ((tCons (tC (.int 2)) (tNil))))))))) (gName 4))) ((tSeq ((tIfS ((tTest (tOp (qNe k.K) ((tMethK (k.ca "Bench") "add" 1 (spM k m_Bench__add) [0, 1] E (tVar 1) ((tCons (tVar 4) (tNil))))) (tVar 3)))) ((tRet (tC (.bl false)))) (tNext))) ((tAsg ((tCall (spM k m__law_behind) [] E ((tCons (tVar 2) ((tCons ((tTup ((tCons (tC (.str "add")) ((tCons (tVar 4) (tNil))))))) (tNil))))))) (gName 2))))))))) ((tSeq ((tAsg ((tLst ((tCons ((tTup ((tCons (tC (.str "add")) ((tCons (tC (.str "ac")) (tNil))))))) ((tCons ((tTup ((tCons (tC (.str "add")) ((tCons (tC (.str "a")) (tNil))))))) ((tCons ((tTup ((tCons (tC (.str "strike")) ((tCons ((tCall (spM k m_take) [] E ((tCons (tVar 0) ((tCons (tC (.int 20)) (tNil))))))) (tNil))))))) ((tCons ((tTup ((tCons (tC (.str "add")) ((tCons (tC (.str "gt")) (tNil))))))) ((tCons ((tTup ((tCons (tC (.str "add")) ((tCons (tC (.str "gt")) (tNil))))))) (tNil))))))))))))) (gName 5))) ((tSeq ((tFor ((iAnyD k.K ((tOp (qAdd k.K) (tVar 5) ((tLst ((tCons ((tTup ((tCons (tC (.str "undo")) (tNil))))) ((tCons ((tTup ((tCons (tC (.str "undo")) (tNil))))) (tNil))))))))))) ((gName 6)) ((tSeq ((tAsg ((tCall (spM k m__law_step_right) [] E ((tCons (tVar 0) ((tCons (tVar 1) ((tCons (tVar 2) ((tCons (tVar 6) (tNil))))))))))) (gName 7))) ((tSeq ((tIfS ((tTest (tOp (qEq2 k.K) (tVar 7) ((tLst (tNil)))))) ((tRet (tC (.bl false)))) (tNext))) ((tAsg ((tOp (qIxA k.K) (tVar 7) (tC (.int 0)))) (gName 2))))))))) ((tSeq ((tIfS ((tOr ((tTest (tOp (qNe k.K) ((tCB (qLen k.K) ((tCons ((tOp (qIxA k.K) (tVar 2) (tC (.str "reads")))) (tNil))))) (tC (.int 20))))) ((tOr ((tB (tNotN ((tMethK (k.ca "Bench") "mend" 2 (spM k m_Bench__mend) [0, 1, 2] E (tVar 1) ((tCons (tC (.int 3)) ((tCons (tC (.str "ttt")) (tNil)))))))))) ((tTest (tOp (qNe k.K) ((tOp (qIxA k.K) ((tProp (k.ca "Bench") (spM k m_Bench__reads) [] L2.E0 (tVar 1))) (tC (.int 3)))) (tC (.str "ttt"))))))))) ((tRet (tC (.bl false)))) (tNext))) ((tRet ((tAndV ((tIsN ((tMethK (k.ca "Bench") "strike" 1 (spM k m_Bench__strike) [0, 1] E (tVar 1) ((tCons (tC (.int 3)) (tNil))))))) ((tOp (qNotInA k.K) (tC (.int 3)) ((tProp (k.ca "Bench") (spM k m_Bench__reads) [] L2.E0 (tVar 1))))))))))))))))))
-- _law_full_right: 0 _law_draw 1 _law_bench 2 _law_account 3 _law_number 4 _law_word 5 _law_some 6 _law_deed 7 _law_line
def b__law_full_right_1 : Env → M Out := (bSeq ((bSet 4 ((eCall m__law_letters ((eCons (eVar 0) ((eCons (eC (.str [97, 99, 103, 116])) ((eCons (eC (.int 2)) (eNil))))))))))) ((bSeq ((bFrz [4] ((bIf ((eB (eOp neB ((eMethK "Bench" "add" 1 [0, 1] m_Bench__add (eVar 1) ((eCons (eVar 4) (eNil))))) (eVar 3)))) ((bRet (eC (.bl false)))) (bNext))))) ((bFrz [2, 4] ((bSet 2 ((eCall m__law_behind ((eCons (eVar 2) ((eCons ((eTup ((eCons (eC (.str [97, 100, 100])) ((eCons (eVar 4) (eNil))))))) (eNil))))))))))))))
def b__law_full_right_2 : Env → M Out := (bSeq ((bFrz [2] ((bSet 7 ((eCall m__law_step_right ((eCons (eVar 0) ((eCons (eVar 1) ((eCons (eVar 2) ((eCons (eVar 6) (eNil))))))))))))))) ((bSeq ((bFrz [7] ((bIf ((eB (eOp eqB2 (eVar 7) ((eLst (eNil)))))) ((bRet (eC (.bl false)))) (bNext))))) ((bFrz [7] ((bSet 2 ((eIxA (eVar 7) (eC (.int 0)))))))))))
def b__law_full_right : Env → M Out := (bSeq ((bSets [1, 2] ((eCons ((eMake "Bench" m_Bench__init ((eCons (eC (.int 1)) (eNil))))) ((eCons ((eCall m__law_begun_bench ((eCons (eC (.int 1)) (eNil))))) (eNil))))))) ((bSeq ((bFor ((eRng rngD1 ((eCons (eC (.int 20)) (eNil))))) ((eTgN 3)) (b__law_full_right_1))) ((bSeq ((bSet 5 ((eLst ((eCons ((eTup ((eCons (eC (.str [97, 100, 100])) ((eCons (eC (.str [97, 99])) (eNil))))))) ((eCons ((eTup ((eCons (eC (.str [97, 100, 100])) ((eCons (eC (.str [97])) (eNil))))))) ((eCons ((eTup ((eCons (eC (.str [115, 116, 114, 105, 107, 101])) ((eCons ((eCall m_take ((eCons (eVar 0) ((eCons (eC (.int 20)) (eNil))))))) (eNil))))))) ((eCons ((eTup ((eCons (eC (.str [97, 100, 100])) ((eCons (eC (.str [103, 116])) (eNil))))))) ((eCons ((eTup ((eCons (eC (.str [97, 100, 100])) ((eCons (eC (.str [103, 116])) (eNil))))))) (eNil))))))))))))))) ((bSeq ((bFrz [5] ((bFor ((eItA ((eOp addD (eVar 5) ((eLst ((eCons ((eTup ((eCons (eC (.str [117, 110, 100, 111])) (eNil))))) ((eCons ((eTup ((eCons (eC (.str [117, 110, 100, 111])) (eNil))))) (eNil))))))))))) ((eTgN 6)) (b__law_full_right_2))))) ((bSeq ((bFrz [2] ((bIf ((eOr ((eB (eOp neB ((eCB lenD ((eCons ((eIxA (eVar 2) (eC (.str [114, 101, 97, 100, 115])))) (eNil))))) (eC (.int 20))))) ((eOr ((eB (eIsN true ((eMethK "Bench" "mend" 2 [0, 1, 2] m_Bench__mend (eVar 1) ((eCons (eC (.int 3)) ((eCons (eC (.str [116, 116, 116])) (eNil)))))))))) ((eB (eOp neB ((eIxA ((eProp0 "Bench" m_Bench__reads (eVar 1))) (eC (.int 3)))) (eC (.str [116, 116, 116]))))))))) ((bRet (eC (.bl false)))) (bNext))))) ((bRet ((eAndV ((eIsN false ((eMethK "Bench" "strike" 1 [0, 1] m_Bench__strike (eVar 1) ((eCons (eC (.int 3)) (eNil))))))) ((eOp notInAB (eC (.int 3)) ((eProp0 "Bench" m_Bench__reads (eVar 1))))))))))))))))))
def m__law_full_right : List D → M Vl := bodyM 1 8 b__law_full_right
theorem s__law_full_right {k : Kx} (E : XK) : SS k E (t__law_full_right k E) b__law_full_right := (ss_seq (ss_par (sao_cons (se_make (sa_cons se_int sa_nil)) (sao_cons (se_call (sa_cons se_int sa_nil)) sao_nil))) (ss_seq (ss_for (si_rng1 (sa_cons se_int sa_nil)) tg_name (ss_seq (ss_set (se_call (sa_cons se_var (sa_cons (se_str (by decide +kernel)) (sa_cons se_int sa_nil))))) (ss_seq (ss_frz (ss_if (st_test (se_op os_ne (se_methK se_var (sa_cons se_var sa_nil)) se_var)) (ss_ret se_bl) ss_next)) (ss_frz (ss_set (se_call (sa_cons se_var (sa_cons (se_tup (sa_cons (se_str (by decide +kernel)) (sa_cons se_var sa_nil))) sa_nil)))))))) (ss_seq (ss_set (se_lst (sa_cons (se_tup (sa_cons (se_str (by decide +kernel)) (sa_cons (se_str (by decide +kernel)) sa_nil))) (sa_cons (se_tup (sa_cons (se_str (by decide +kernel)) (sa_cons (se_str (by decide +kernel)) sa_nil))) (sa_cons (se_tup (sa_cons (se_str (by decide +kernel)) (sa_cons (se_call (sa_cons se_var (sa_cons se_int sa_nil))) sa_nil))) (sa_cons (se_tup (sa_cons (se_str (by decide +kernel)) (sa_cons (se_str (by decide +kernel)) sa_nil))) (sa_cons (se_tup (sa_cons (se_str (by decide +kernel)) (sa_cons (se_str (by decide +kernel)) sa_nil))) sa_nil))))))) (ss_seq (ss_frz (ss_for (si_anyD (se_op os_add se_var (se_lst (sa_cons (se_tup (sa_cons (se_str (by decide +kernel)) sa_nil)) (sa_cons (se_tup (sa_cons (se_str (by decide +kernel)) sa_nil)) sa_nil))))) tg_name (ss_seq (ss_frz (ss_set (se_call (sa_cons se_var (sa_cons se_var (sa_cons se_var (sa_cons se_var sa_nil))))))) (ss_seq (ss_frz (ss_if (st_test (se_op os_eq2 se_var (se_lst sa_nil))) (ss_ret se_bl) ss_next)) (ss_frz (ss_set (se_ixA se_var se_int))))))) (ss_seq (ss_frz (ss_if (st_or (st_test (se_op os_ne (se_cb cs_len (sa_cons (se_ixA se_var (se_str (by decide +kernel))) sa_nil)) se_int)) (st_or (st_b (se_notN (se_methK se_var (sa_cons se_int (sa_cons (se_str (by decide +kernel)) sa_nil))))) (st_test (se_op os_ne (se_ixA (se_prop0 se_var) se_int) (se_str (by decide +kernel)))))) (ss_ret se_bl) ss_next)) (ss_ret (se_andV (se_isN (se_methK se_var (sa_cons se_int sa_nil))) (se_op os_notinA se_int (se_prop0 se_var)))))))))
def t_law (k : Kx) (E : XK) : TS := (tSeq ((tAsg ((tCall (spM k m_begun) [] E ((tCons (tVar 0) (tNil))))) (gName 1))) ((tSeq ((tFor ((iRng1 ((tCons ((tOp (qAdd k.K) (tC (.int 1)) ((tCB (rMin2) ((tCons ((tCB (qLen k.K) ((tCons (tVar 0) (tNil))))) ((tCons (tC (.int 3)) (tNil))))))))) (tNil))))) ((gName 2)) ((tSeq ((tAsg ((tOp (qAdd k.K) (tC (.int 1)) ((tCall (spM k m_take) [] E ((tCons (tVar 1) ((tCons (tC (.int 3)) (tNil))))))))) (gName 3))) ((tSeq ((tPar 6 7 ((tCons ((tMakeP (k.ca "Bench") 1 [0, 1] (spM k m_Bench__init) E ((tCons (tVar 3) (tNil))))) ((tCons ((tCall (spM k m__law_begun_bench) [] E ((tCons (tVar 3) (tNil))))) (tNil))))))) ((tSeq ((tFor ((iRng1 ((tCons ((tOp (qAdd k.K) (tC (.int 4)) ((tCB (rMin2) ((tCons ((tCB (qLen k.K) ((tCons (tVar 0) (tNil))))) ((tCons (tC (.int 10)) (tNil))))))))) (tNil))))) ((gName 4)) ((tSeq ((tAsg ((tCall (spM k m__law_drawn_deed) [] E ((tCons (tVar 1) ((tCons (tVar 7) (tNil))))))) (gName 8))) ((tSeq ((tAsg ((tIf ((tTest (tOp (qEq k.K) ((tCall (spM k m_take) [] E ((tCons (tVar 1) ((tCons (tC (.int 3)) (tNil))))))) (tC (.int 0))))) ((tCall (spM k m__law_bent) [] E ((tCons (tVar 1) ((tCons (tVar 7) ((tCons (tVar 8) (tNil))))))))) (tVar 8))) (gName 8))) ((tSeq ((tAsg ((tCall (spM k m__law_step_right) [] E ((tCons (tVar 1) ((tCons (tVar 6) ((tCons (tVar 7) ((tCons (tVar 8) (tNil))))))))))) (gName 9))) ((tSeq ((tIfS ((tTest (tOp (qEq2 k.K) (tVar 9) ((tLst (tNil)))))) ((tRet (tC (.bl false)))) (tNext))) ((tAsg ((tOp (qIxA k.K) (tVar 9) (tC (.int 0)))) (gName 7))))))))))))) ((tSeq ((tDrop (tBM0 k.K "dict" rDClear ((tProp (k.ca "Bench") (spM k m_Bench__reads) [] L2.E0 (tVar 6)))))) ((tSeq ((tDrop (tBM k.K "list" rAppend ((tProp (k.ca "Bench") (spM k m_Bench__log) [] L2.E0 (tVar 6))) (tCons (tC .non) tNil)))) ((tSeq ((tIfS ((tNot ((tB ((tCall (spM k m__law_is_as) [] E ((tCons (tVar 6) ((tCons (tVar 7) (tNil))))))))))) ((tRet (tC (.bl false)))) (tNext))) ((tSeq ((tAsg ((tCall (spM k m__law_pick) [] E ((tCons (tVar 1) ((tCons ((tLst ((tCons (tC (.int 0)) ((tCons (tC (.int 121)) ((tCons ((tUn (rU fun i => .int (-i)) (tC (.int 1)))) ((tCons (tC (.bl true)) ((tCons (tC .non) ((tCons (tC (.str "1")) ((tCons ((tLst ((tCons (tC (.int 1)) (tNil))))) (tNil))))))))))))))))) (tNil))))))) (gName 5))) ((tIfS ((tNot ((tB ((tCB (rIsA k.K) ((tCons ((LamX.tLam k.T (TCaught k.K (k.ca "ReadError")) (fun E' => (tMake (k.ca "Bench") (spM k m_Bench__init) [] E' ((tCons (tVar 5) (tNil))))))) ((tCons (tC (.ref (k.ca "BadLength"))) (tNil))))))))))) ((tRet (tC (.bl false)))) (tNext))))))))))))))))))) ((tRet ((tCall (spM k m__law_full_right) [] E ((tCons (tVar 1) (tNil))))))))))
-- law: 0 _law_script 1 _law_draw 2 _law_turn 3 _law_length 4 _law_step 5 _law_odd_here 6 _law_bench 7 _law_account 8 _law_deed 9 _law_line
def b_law_1 : Env → M Out := (bSeq ((bFrz [1, 7] ((bSet 8 ((eCall m__law_drawn_deed ((eCons (eVar 1) ((eCons (eVar 7) (eNil))))))))))) ((bSeq ((bFrz [1, 7, 8] ((bSet 8 ((eIf ((eB (eOp eqB ((eCall m_take ((eCons (eVar 1) ((eCons (eC (.int 3)) (eNil))))))) (eC (.int 0))))) ((eCall m__law_bent ((eCons (eVar 1) ((eCons (eVar 7) ((eCons (eVar 8) (eNil))))))))) (eVar 8))))))) ((bSeq ((bFrz [1, 7, 8] ((bSet 9 ((eCall m__law_step_right ((eCons (eVar 1) ((eCons (eVar 6) ((eCons (eVar 7) ((eCons (eVar 8) (eNil))))))))))))))) ((bSeq ((bFrz [9] ((bIf ((eB (eOp eqB2 (eVar 9) ((eLst (eNil)))))) ((bRet (eC (.bl false)))) (bNext))))) ((bFrz [9] ((bSet 7 ((eIxA (eVar 9) (eC (.int 0)))))))))))))))
def b_law_2 : Env → M Out := (bSeq ((bFrz [1] ((bSet 3 ((eOp addD (eC (.int 1)) ((eCall m_take ((eCons (eVar 1) ((eCons (eC (.int 3)) (eNil))))))))))))) ((bSeq ((bSets [6, 7] ((eCons ((eMakeK "Bench" 1 [0, 1] m_Bench__init ((eCons (eVar 3) (eNil))))) ((eCons ((eCall m__law_begun_bench ((eCons (eVar 3) (eNil))))) (eNil))))))) ((bSeq ((bFor ((eRng rngD1 ((eCons ((eOp addD (eC (.int 4)) ((eCB minD2 ((eCons ((eCB lenD ((eCons (eVar 0) (eNil))))) ((eCons (eC (.int 10)) (eNil))))))))) (eNil))))) ((eTgN 4)) (b_law_1))) ((bSeq ((bTmpClr ((eProp0 "Bench" m_Bench__reads (eVar 6))))) ((bSeq ((bTmpApp ((eProp0 "Bench" m_Bench__log (eVar 6))))) ((bSeq ((bFrz [7] ((bIf ((eNot ((eB ((eCall m__law_is_as ((eCons (eVar 6) ((eCons (eVar 7) (eNil))))))))))) ((bRet (eC (.bl false)))) (bNext))))) ((bSeq ((bFrz [1] ((bSet 5 ((eCall m__law_pick ((eCons (eVar 1) ((eCons ((eLst ((eCons (eC (.int 0)) ((eCons (eC (.int 121)) ((eCons ((eUn negD (eC (.int 1)))) ((eCons (eC (.bl true)) ((eCons (eC .non) ((eCons (eC (.str [49])) ((eCons ((eLst ((eCons (eC (.int 1)) (eNil))))) (eNil))))))))))))))))) (eNil))))))))))) ((bFrz [5] ((bIf ((eNot ((eB ((eCB (isiD XT) ((eCons ((eCaughtH CAT ((eMake "Bench" m_Bench__init ((eCons (eVar 5) (eNil))))))) ((eCons (eC (.glo "BadLength")) (eNil))))))))))) ((bRet (eC (.bl false)))) (bNext))))))))))))))))))
def b_law : Env → M Out := (bSeq ((bSet 1 ((eCall m_begun ((eCons (eVar 0) (eNil))))))) ((bSeq ((bFor ((eRng rngD1 ((eCons ((eOp addD (eC (.int 1)) ((eCB minD2 ((eCons ((eCB lenD ((eCons (eVar 0) (eNil))))) ((eCons (eC (.int 3)) (eNil))))))))) (eNil))))) ((eTgN 2)) (b_law_2))) ((bFrz [1] ((bRet ((eCall m__law_full_right ((eCons (eVar 1) (eNil))))))))))))
def m_law : List D → M Vl := bodyM 1 10 b_law
theorem s_law {k : Kx} (hXT : XTab k XT) (hCAT : ∀ C ∈ CAT, PySem.W.exmOne k.K (.ref (k.ca C)) (.ref (k.ca "ReadError")) = some true) (E : XK) : SS k E (t_law k E) b_law := (ss_seq (ss_set (se_call (sa_cons se_var sa_nil))) (ss_seq (ss_for (si_rng1 (sa_cons (se_op os_add se_int (se_cb cs_min2 (sa_cons (se_cb cs_len (sa_cons se_var sa_nil)) (sa_cons se_int sa_nil)))) sa_nil)) tg_name (ss_seq (ss_frz (ss_set (se_op os_add se_int (se_call (sa_cons se_var (sa_cons se_int sa_nil)))))) (ss_seq (ss_par (sao_cons (se_makeK (sa_cons se_var sa_nil)) (sao_cons (se_call (sa_cons se_var sa_nil)) sao_nil))) (ss_seq (ss_for (si_rng1 (sa_cons (se_op os_add se_int (se_cb cs_min2 (sa_cons (se_cb cs_len (sa_cons se_var sa_nil)) (sa_cons se_int sa_nil)))) sa_nil)) tg_name (ss_seq (ss_frz (ss_set (se_call (sa_cons se_var (sa_cons se_var sa_nil))))) (ss_seq (ss_frz (ss_set (se_if (st_test (se_op os_eq (se_call (sa_cons se_var (sa_cons se_int sa_nil))) se_int)) (se_call (sa_cons se_var (sa_cons se_var (sa_cons se_var sa_nil)))) se_var))) (ss_seq (ss_frz (ss_set (se_call (sa_cons se_var (sa_cons se_var (sa_cons se_var (sa_cons se_var sa_nil))))))) (ss_seq (ss_frz (ss_if (st_test (se_op os_eq2 se_var (se_lst sa_nil))) (ss_ret se_bl) ss_next)) (ss_frz (ss_set (se_ixA se_var se_int)))))))) (ss_seq (ss_tmpClr (se_prop0 se_var)) (ss_seq (ss_tmpApp (se_prop0 se_var)) (ss_seq (ss_frz (ss_if (st_not (st_b (se_call (sa_cons se_var (sa_cons se_var sa_nil))))) (ss_ret se_bl) ss_next)) (ss_seq (ss_frz (ss_set (se_call (sa_cons se_var (sa_cons (se_lst (sa_cons se_int (sa_cons se_int (sa_cons (se_un us_neg se_int) (sa_cons se_bl (sa_cons se_non (sa_cons (se_str (by decide +kernel)) (sa_cons (se_lst (sa_cons se_int sa_nil)) sa_nil)))))))) sa_nil))))) (ss_frz (ss_if (st_not (st_b (se_cb (cs_isi hXT) (sa_cons (se_caughtH hCAT (fun E' => (se_make (sa_cons se_var sa_nil)))) (sa_cons (se_glo rfl) sa_nil))))) (ss_ret se_bl) ss_next)))))))))) (ss_frz (ss_ret (se_call (sa_cons se_var sa_nil))))))
def t_Mark__init (k : Kx) (E : XK) : TS := (tSeq ((sFld k.K (tVar 0) (tVar 1) "outer")) ((tSeq ((sFld k.K (tVar 0) (tVar 2) "deeds")) ((sFld k.K (tVar 0) (tVar 3) "known")))))
-- Mark__init: 0 self 1 outer 2 deeds 3 known
def b_Mark__init : Env → M Out := (bSeq ((bFld CTB "outer" (eVar 0) (eVar 1))) ((bSeq ((bFld CTB "deeds" (eVar 0) (eVar 2))) ((bFld CTB "known" (eVar 0) (eVar 3))))))
def m_Mark__init : List D → M Vl := bodyM 4 4 b_Mark__init
theorem s_Mark__init {k : Kx} (hCT : CTab k CTB) (E : XK) : SS k E (t_Mark__init k E) b_Mark__init := (ss_seq (ss_fld hCT se_var se_var) (ss_seq (ss_fld hCT se_var se_var) (ss_fld hCT se_var se_var)))
def t_Bench__eq (k : Kx) (E : XK) : TS := (tRet ((tAndV ((tCB (rIsA k.K) (tCons (tVar 1) (tCons (tC (.ref (k.ca "Bench"))) tNil)))) ((tAndV ((tOp (qEq k.K) ((tFld k.K (tVar 0) "own_length")) ((tFld k.K (tVar 1) "own_length")))) ((tOp (qEq k.K) ((tFld k.K (tVar 0) "deeds")) ((tFld k.K (tVar 1) "deeds")))))))))
-- Bench__eq: 0 self 1 other
def b_Bench__eq : Env → M Out := (bRet ((eAndV ((eIso OCLS "Bench" (eVar 1))) ((eAndV ((eOp eqB ((eFld CTB "own_length" (eVar 0))) ((eFld CTB "own_length" (eVar 1))))) ((eOp eqB ((eFld CTB "deeds" (eVar 0))) ((eFld CTB "deeds" (eVar 1))))))))))
def m_Bench__eq : List D → M Vl := bodyM 2 2 b_Bench__eq
theorem s_Bench__eq {k : Kx} (hCT : CTab k CTB) (hOT : OTab k OCLS) (E : XK) : SS k E (t_Bench__eq k E) b_Bench__eq := (ss_ret (se_andV (se_iso hOT se_var) (se_andV (se_op os_eq (se_fld hCT se_var) (se_fld hCT se_var)) (se_op os_eq (se_fld hCT se_var) (se_fld hCT se_var)))))
def t_Bench__tried (k : Kx) (E : XK) : TS := (tDrop ((tCall (spM k m__wall) [] E ((tCons (tC (.int 0)) (tNil))))))
-- Bench__tried: 0 self 1 work
def b_Bench__tried : Env → M Out := (bDrop ((eCall m__wall ((eCons (eC (.int 0)) (eNil))))))
def m_Bench__tried : List D → M Vl := bodyM 2 2 b_Bench__tried
theorem s_Bench__tried {k : Kx} (E : XK) : SS k E (t_Bench__tried k E) b_Bench__tried := (ss_drop (se_call (sa_cons se_int sa_nil)))
def t_Bench__copy (k : Kx) (E : XK) : TS := (tDrop ((tCall (spM k m__wall) [] E ((tCons (tC (.int 1)) (tNil))))))
-- Bench__copy: 0 self
def b_Bench__copy : Env → M Out := (bDrop ((eCall m__wall ((eCons (eC (.int 1)) (eNil))))))
def m_Bench__copy : List D → M Vl := bodyM 1 1 b_Bench__copy
theorem s_Bench__copy {k : Kx} (E : XK) : SS k E (t_Bench__copy k E) b_Bench__copy := (ss_drop (se_call (sa_cons se_int sa_nil)))
def t_Bench__runs_of_reads (k : Kx) (E : XK) : TS := (tDrop ((tCall (spM k m__wall) [] E ((tCons (tC (.int 2)) (tNil))))))
-- Bench__runs_of_reads: 0 self
def b_Bench__runs_of_reads : Env → M Out := (bDrop ((eCall m__wall ((eCons (eC (.int 2)) (eNil))))))
def m_Bench__runs_of_reads : List D → M Vl := bodyM 1 1 b_Bench__runs_of_reads
theorem s_Bench__runs_of_reads {k : Kx} (E : XK) : SS k E (t_Bench__runs_of_reads k E) b_Bench__runs_of_reads := (ss_drop (se_call (sa_cons se_int sa_nil)))
def t_Bench__net (k : Kx) (E : XK) : TS := (tDrop ((tCall (spM k m__wall) [] E ((tCons (tC (.int 3)) (tNil))))))
-- Bench__net: 0 self
def b_Bench__net : Env → M Out := (bDrop ((eCall m__wall ((eCons (eC (.int 3)) (eNil))))))
def m_Bench__net : List D → M Vl := bodyM 1 1 b_Bench__net
theorem s_Bench__net {k : Kx} (E : XK) : SS k E (t_Bench__net k E) b_Bench__net := (ss_drop (se_call (sa_cons se_int sa_nil)))
def t_Bench__web (k : Kx) (E : XK) : TS := (tDrop ((tCall (spM k m__wall) [] E ((tCons (tC (.int 4)) (tNil))))))
-- Bench__web: 0 self
def b_Bench__web : Env → M Out := (bDrop ((eCall m__wall ((eCons (eC (.int 4)) (eNil))))))
def m_Bench__web : List D → M Vl := bodyM 1 1 b_Bench__web
theorem s_Bench__web {k : Kx} (E : XK) : SS k E (t_Bench__web k E) b_Bench__web := (ss_drop (se_call (sa_cons se_int sa_nil)))
def t_Bench__line_count (k : Kx) (E : XK) : TS := (tDrop ((tCall (spM k m__wall) [] E ((tCons (tC (.int 5)) (tNil))))))
-- Bench__line_count: 0 self
def b_Bench__line_count : Env → M Out := (bDrop ((eCall m__wall ((eCons (eC (.int 5)) (eNil))))))
def m_Bench__line_count : List D → M Vl := bodyM 1 1 b_Bench__line_count
theorem s_Bench__line_count {k : Kx} (E : XK) : SS k E (t_Bench__line_count k E) b_Bench__line_count := (ss_drop (se_call (sa_cons se_int sa_nil)))
def t_Bench__circuit_count (k : Kx) (E : XK) : TS := (tDrop ((tCall (spM k m__wall) [] E ((tCons (tC (.int 6)) (tNil))))))
-- Bench__circuit_count: 0 self
def b_Bench__circuit_count : Env → M Out := (bDrop ((eCall m__wall ((eCons (eC (.int 6)) (eNil))))))
def m_Bench__circuit_count : List D → M Vl := bodyM 1 1 b_Bench__circuit_count
theorem s_Bench__circuit_count {k : Kx} (E : XK) : SS k E (t_Bench__circuit_count k E) b_Bench__circuit_count := (ss_drop (se_call (sa_cons se_int sa_nil)))
def t_Bench__least_word (k : Kx) (E : XK) : TS := (tDrop ((tCall (spM k m__wall) [] E ((tCons (tC (.int 7)) (tNil))))))
-- Bench__least_word: 0 self
def b_Bench__least_word : Env → M Out := (bDrop ((eCall m__wall ((eCons (eC (.int 7)) (eNil))))))
def m_Bench__least_word : List D → M Vl := bodyM 1 1 b_Bench__least_word
theorem s_Bench__least_word {k : Kx} (E : XK) : SS k E (t_Bench__least_word k E) b_Bench__least_word := (ss_drop (se_call (sa_cons se_int sa_nil)))
def t_Bench__some_web (k : Kx) (E : XK) : TS := (tDrop ((tCall (spM k m__wall) [] E ((tCons (tC (.int 8)) (tNil))))))
-- Bench__some_web: 0 self
def b_Bench__some_web : Env → M Out := (bDrop ((eCall m__wall ((eCons (eC (.int 8)) (eNil))))))
def m_Bench__some_web : List D → M Vl := bodyM 1 1 b_Bench__some_web
theorem s_Bench__some_web {k : Kx} (E : XK) : SS k E (t_Bench__some_web k E) b_Bench__some_web := (ss_drop (se_call (sa_cons se_int sa_nil)))
def t_Bench__sure (k : Kx) (E : XK) : TS := (tDrop ((tCall (spM k m__wall) [] E ((tCons (tC (.int 9)) (tNil))))))
-- Bench__sure: 0 self 1 word
def b_Bench__sure : Env → M Out := (bDrop ((eCall m__wall ((eCons (eC (.int 9)) (eNil))))))
def m_Bench__sure : List D → M Vl := bodyM 2 2 b_Bench__sure
theorem s_Bench__sure {k : Kx} (E : XK) : SS k E (t_Bench__sure k E) b_Bench__sure := (ss_drop (se_call (sa_cons se_int sa_nil)))
def t_Bench__evasion (k : Kx) (E : XK) : TS := (tDrop ((tCall (spM k m__wall) [] E ((tCons (tC (.int 10)) (tNil))))))
-- Bench__evasion: 0 self 1 word
def b_Bench__evasion : Env → M Out := (bDrop ((eCall m__wall ((eCons (eC (.int 10)) (eNil))))))
def m_Bench__evasion : List D → M Vl := bodyM 2 2 b_Bench__evasion
theorem s_Bench__evasion {k : Kx} (E : XK) : SS k E (t_Bench__evasion k E) b_Bench__evasion := (ss_drop (se_call (sa_cons se_int sa_nil)))
def t_Bench__longest_sure (k : Kx) (E : XK) : TS := (tDrop ((tCall (spM k m__wall) [] E ((tCons (tC (.int 11)) (tNil))))))
-- Bench__longest_sure: 0 self
def b_Bench__longest_sure : Env → M Out := (bDrop ((eCall m__wall ((eCons (eC (.int 11)) (eNil))))))
def m_Bench__longest_sure : List D → M Vl := bodyM 1 1 b_Bench__longest_sure
theorem s_Bench__longest_sure {k : Kx} (E : XK) : SS k E (t_Bench__longest_sure k E) b_Bench__longest_sure := (ss_drop (se_call (sa_cons se_int sa_nil)))
def t_Bench__held (k : Kx) (E : XK) : TS := (tDrop ((tCall (spM k m__wall) [] E ((tCons (tC (.int 12)) (tNil))))))
-- Bench__held: 0 self
def b_Bench__held : Env → M Out := (bDrop ((eCall m__wall ((eCons (eC (.int 12)) (eNil))))))
def m_Bench__held : List D → M Vl := bodyM 1 1 b_Bench__held
theorem s_Bench__held {k : Kx} (E : XK) : SS k E (t_Bench__held k E) b_Bench__held := (ss_drop (se_call (sa_cons se_int sa_nil)))
def t_Bench__near (k : Kx) (E : XK) : TS := (tDrop ((tCall (spM k m__wall) [] E ((tCons (tC (.int 13)) (tNil))))))
-- Bench__near: 0 self 1 word 2 edits
def b_Bench__near : Env → M Out := (bDrop ((eCall m__wall ((eCons (eC (.int 13)) (eNil))))))
def m_Bench__near : List D → M Vl := bodyM 3 3 b_Bench__near
theorem s_Bench__near {k : Kx} (E : XK) : SS k E (t_Bench__near k E) b_Bench__near := (ss_drop (se_call (sa_cons se_int sa_nil)))
end Y

namespace Y
open PySem PySem.Spec PyProof.Rows L2 Z
def lineI (w : List Nat) : Bool := w.all fun c => inS [c] [97, 99, 103, 116]
def wordI (w : List Nat) : Bool := lineI w && decide (0 < w.length)
theorem pys_mapf {α : Type} (f : α → D) (T : α → PyData) (h : ∀ x, py (f x) = some (T x)) : ∀ xs : List α, pys (xs.map f) = some (xs.map T)
  | [] => rfl
  | x :: xs => by simp [pys, h, pys_mapf f T h xs]
theorem eqD_lst {α : Type} [DecidableEq α] {f : α → D} {T : α → PyData} {ok : α → Prop} {n : Nat} (h : ∀ x, py (f x) = some (T x)) (e : Eqt T ok n) (hn : n ≤ 60) {xs ys : List α} (hx : ∀ x ∈ xs, ok x) (hy : ∀ x ∈ ys, ok x) : eqD (.lst (xs.map f)) (.lst (ys.map f)) = some (decide (xs = ys)) := by
  have e2 := eqt_L e
  have p1 : py (.lst (xs.map f)) = some (dL T xs) := by simp [py, pys_mapf f T h, dL]
  have p2 : py (.lst (ys.map f)) = some (dL T ys) := by simp [py, pys_mapf f T h, dL]
  have s1 : SeqAt.shaped (dL T xs) = true := by
    unfold SeqAt.shaped
    rw [e2.lay xs hx]
    have := e2.dep xs
    simp; omega
  have s2 : SeqAt.shaped (dL T ys) = true := by
    unfold SeqAt.shaped
    rw [e2.lay ys hy]
    have := e2.dep ys
    simp; omega
  show (match py (.lst (xs.map f)), py (.lst (ys.map f)) with
    | some p, some q => if SeqAt.shaped p && SeqAt.shaped q then some (PyData.eqv p q) else none
    | _, _ => none) = _
  rw [p1, p2]
  show (if SeqAt.shaped (dL T xs) && SeqAt.shaped (dL T ys) then some (PyData.eqv (dL T xs) (dL T ys)) else none) = _
  rw [s1, s2, e2.eq]
  rfl
theorem eqD_strs {α : Type} {f g : α → List Nat} {xs ys : List α} (hx : ∀ x ∈ xs, okS (f x)) (hy : ∀ x ∈ ys, okS (g x)) : eqD (.lst (xs.map fun x => .str (f x))) (.lst (ys.map fun x => .str (g x))) = some (decide (xs.map f = ys.map g)) := by
  have := eqD_lst (f := D.str) (T := dS) (fun x => rfl) eqt_S (by decide) (xs := xs.map f) (ys := ys.map g) (by simpa using hx) (by simpa using hy)
  simpa [Function.comp_def] using this
def Ac (w : List Nat) : Prop := ∀ c ∈ w, c ∈ acgt
theorem lineI_iff {w : List Nat} : lineI w = true ↔ Ac w := by
  unfold lineI
  rw [List.all_eq_true]
  constructor
  · intro h c hc; have := h c hc; rw [inS_one] at this; exact of_decide_eq_true this
  · intro h c hc; rw [inS_one]; exact decide_eq_true (h c hc)
theorem wordI_iff {w : List Nat} : wordI w = true ↔ Ac w ∧ 0 < w.length := by
  simp only [wordI, Bool.and_eq_true, lineI_iff, decide_eq_true_eq]
theorem Ac.okS {w : List Nat} (h : Ac w) : okS w := fun c hc => by
  have := h c hc
  simp only [acgt, List.mem_cons, List.not_mem_nil, or_false] at this
  omega
section
variable {q : Tk}
theorem flat_len {α : Type} : ∀ (xs : List (List α)), (∀ x ∈ xs, x.length = 1) → xs.flatten.length = xs.length ∧ (xs.map List.length).sum = xs.length
  | [], _ => ⟨rfl, rfl⟩
  | x :: xs, h => by
    obtain ⟨h1, h2⟩ := flat_len xs fun y hy => h y (List.mem_cons_of_mem _ hy)
    have h3 := h x (List.mem_cons_self ..)
    simp only [List.flatten_cons, List.length_append, List.map_cons, List.sum_cons, List.length_cons]
    omega
end
section
variable {q : Tk}
theorem strs_all : ∀ (rs : List D) (P : List Nat → Prop), (∀ r ∈ rs, ∃ w, r = .str w ∧ P w) → ∃ ws : List (List Nat), rs = ws.map .str ∧ ∀ w ∈ ws, P w
  | [], _, _ => ⟨[], rfl, fun _ h => nomatch h⟩
  | r :: rs, P, h => by
    obtain ⟨w, rfl, hw⟩ := h r (List.mem_cons_self ..)
    obtain ⟨ws, e, hws⟩ := strs_all rs P fun x hx => h x (List.mem_cons_of_mem _ hx)
    refine ⟨w :: ws, by rw [e]; rfl, fun x hx => ?_⟩
    rcases List.mem_cons.mp hx with rfl | hx
    · exact hw
    · exact hws x hx
end
section
variable {q : Tk}
end
section
variable {q : Tk}
end
section
variable {q : Tk}
def oddL : List D := [.non, .bl true, .bl false, .int (-1), .int (10 ^ 30 - 1), .str [], .str [65], .str [97, 99, 103, 117], .str [97, 32, 99], .str [32, 97], .str [97, 99, 10], .tup [], .lst [], .dic [], .tup [.str [97]], .lst [.str [97]], .dic [(.inr [97], .int 1)], .tup [.non], .str [49], .tup [.str [97], .str [99]], .lst [.lst [.str [97]]], .str [110]]
end
section
variable {q : Tk} {c c1 c2 : Nat} {f g : Env → M Out} {env e' : Env} {P : Out → Prop} {R : Env → Prop}
theorem Dn.seq (h : Dn q c1 (f env) fun o => ∃ e, o = .nx e ∧ R e) (hg : ∀ e, R e → Dn q c2 (g e) P) : Dn q (c1 + c2) (bSeq f g env) P :=
  Dn.bind h fun o ⟨e, eo, r⟩ => by subst eo; exact hg e r
end
section
variable {q : Tk} {c c1 c2 : Nat} {f g : Env → M Out} {env e' : Env} {P : Out → Prop} {R : Env → Prop}
theorem Dn.seqP (h : f env = .ok (.nx e')) (hg : Dn q c (g e') P) : Dn q c (bSeq f g env) P := by
  show Dn q c ((f env).bind _) P
  rw [h]
  exact hg
end
def nf (o : Option D) : Option (Bool × D) := o.map fun d => (false, d)
section
variable {q : Tk} {ns : List Int}
end
abbrev WI := List (List Nat × Int)
def mp (es : WI) : List (Ky × D) := es.map fun e => (Sum.inr e.1, D.int e.2)
def getT (es : WI) (k : List Nat) : Option Int := (es.find? fun e => decide (e.1 = k)).map (·.2)
section
variable {α : Type} {tg : D → Env → Option Env} {fb : Env → M Out} {ft : Env → M Bool} {fk fe : Env → M Vl} {env : Env}
theorem for_okR {J : List α → Env → Prop} (F : α → D) (hb : ∀ x r e, J (x :: r) e → ∃ e1 e2, tg (F x) e = some e1 ∧ fb e1 = .ok (.nx e2) ∧ J r e2) : ∀ (xs : List α) (env : Env), J xs env → ∃ e, Y.forGo tg fb (xs.map F) env = .ok (.nx e) ∧ J [] e
  | [], env, h => ⟨env, rfl, h⟩
  | x :: xs, env, h => by
    obtain ⟨e1, e2, h1, h2, h3⟩ := hb x xs env h
    obtain ⟨e, h4, h5⟩ := for_okR F hb xs e2 h3
    refine ⟨e, ?_, h5⟩
    rw [← h4]
    show (M.of (tg (F x) env)).bind _ = _
    rw [h1]
    show (fb e1).bind _ = _
    rw [h2]
    rfl
end
section
variable {α : Type} {tg : D → Env → Option Env} {fb : Env → M Out} {ft : Env → M Bool} {fk fe : Env → M Vl} {env : Env}
end
end Y

namespace Y
open PySem PySem.Spec PyProof.Rows L2 Z
def subW (w : List Nat) (i n : Nat) : List Nat := (w.drop i).take n
section
variable {α : Type} {tg : D → Env → Option Env} {fb : Env → M Out}
end
end Y
namespace Y
open PySem PySem.Spec PyProof.Rows L2 Z
section
variable {env : Env} {fa fb fc : Env → M Vl} {a b : Int}
theorem eRng1_ok (ha : fa env = .ok (.s, .int a)) (h1 : -1000000 ≤ a) (h2 : a ≤ 1000000) : eRng rngD1 (eCons fa eNil) env = .ok (dInts (rng 0 a.toNat)) := by
  have hc : -1000000 ≤ a ∧ a ≤ 1000000 := ⟨h1, h2⟩
  simp only [eRng, eCons, eNil, ha, ok_bind, isV, List.any_cons, List.any_nil, Bool.or_self, Bool.false_eq_true, if_false, dats_cons, dats_nil, rngD1]
  rw [if_pos hc, of_some]
end
section
variable {α : Type} {tg : D → Env → Option Env} {ft : Env → M Bool} {fk fe : Env → M Vl} {env : Env}
end
def addK (ks : List (List Nat)) (k : List Nat) : List (List Nat) := if k ∈ ks then ks else ks ++ [k]
def dedF (xs : List (List Nat)) : List (List Nat) := xs.foldl addK []
end Y

namespace Y
open PySem PySem.Spec PyProof.Rows L2 Z
def Oc (w u : List Nat) : Prop := ∃ i, i + u.length ≤ w.length ∧ subW w i u.length = u
end Y
namespace Y
open PySem PySem.Spec PyProof.Rows L2 Z
end Y
namespace Y
open PySem PySem.Spec PyProof.Rows L2 Z
end Y
namespace Y
open PySem PySem.Spec PyProof.Rows L2 Z
end Y
namespace Y
open PySem PySem.Spec PyProof.Rows L2 Z
end Y

namespace Y
open PySem PySem.Spec PyProof.Rows L2 Z
section
variable {α β : Type} {c p : Prop} {m m' : M α}
end
section
variable {α : Type} {tg : D → Env → Option Env} {ft : Env → M Bool} {fe : Env → M Vl} {env : Env}
end
theorem atI_nat {α : Type} (xs : List α) (i : Nat) : atI xs (i : Int) = xs[i]? := by
  unfold atI ixN
  by_cases h : i < xs.length
  · simp [h]
  · simp [h]
end Y

namespace Y
open PySem PySem.Spec PyProof.Rows L2 Z
section
variable {f g : Env → M Out} {env e' : Env} {R : M Out}
theorem seq_run (h : f env = .ok (.nx e')) (hg : g e' = R) : bSeq f g env = R := by
  show (f env).bind _ = _
  rw [h]
  exact hg
theorem seq_ok (h : f env = .ok (.nx e')) : bSeq f g env = g e' := seq_run h rfl
theorem body_run {ar N : Nat} {b : Env → M Out} {ds : List D} {v : Vl} (hl : ds.length = ar) (h : b (ds.map (fun d => some (false, d)) ++ List.replicate (N - ar) none) = .ok (.rt v)) : bodyM ar N b ds = .ok v := by
  unfold bodyM
  rw [if_pos hl, h]
  rfl
end
section
variable {α : Type} {fi : Env → M (List D)} {tg : D → Env → Option Env} {fb : Env → M Out}
theorem for_run {J : List α → Env → Prop} {xs : List α} {env : Env} (F : α → D) (hi : fi env = .ok (xs.map F)) (h0 : J xs env) (hb : ∀ x r e, J (x :: r) e → ∃ e1 e2, tg (F x) e = some e1 ∧ fb e1 = .ok (.nx e2) ∧ J r e2) : ∃ e, bFor fi tg fb env = .ok (.nx e) ∧ J [] e := by
  obtain ⟨e, h1, h2⟩ := for_okR F hb xs env h0
  refine ⟨e, ?_, h2⟩
  unfold bFor
  rw [hi, ok_bind, h1]
end
section
variable {α : Type} {fi : Env → M (List D)} {tg : D → Env → Option Env} {ft : Env → M Bool} {fe : Env → M Vl} {env env' : Env} {vs : List Nat}
theorem eLc_ok {xs : List α} (F g : α → D) (p : α → Bool) (hi : fi env = .ok (xs.map F)) (hl : xs.length ≤ 100000) (hno : noOwn env vs = true) (hw : wipeE env vs = env') (h : ∀ x ∈ xs, ∃ e1, tg (F x) env' = some e1 ∧ ft e1 = .ok (p x) ∧ (p x = true → ∃ md, fe e1 = .ok (md, g x) ∧ isV (md, g x) = false)) : eLc fi tg ft fe vs env = .ok (.o, .lst ((xs.filter p).map g)) := by
  unfold eLc
  rw [hi, ok_bind, List.length_map, if_pos ⟨hl, hno⟩, hw]
  have : ∀ ys : List α, (∀ x ∈ ys, x ∈ xs) → lcGo tg ft fe env' (ys.map F) = .ok ((ys.filter p).map g) := by
    intro ys
    induction ys with
    | nil => intro _; rfl
    | cons y ys ih =>
      intro hy
      obtain ⟨e1, h1, h2, h3⟩ := h y (hy y (List.mem_cons_self ..))
      have ih := ih fun x hx => hy x (List.mem_cons_of_mem _ hx)
      simp only [List.map_cons, lcGo, h1, h2, of_some, ok_bind, List.filter_cons]
      cases hp : p y with
      | false => simp only [Bool.false_eq_true, if_false, ih]
      | true =>
        obtain ⟨md, h4, h5⟩ := h3 hp
        simp only [if_true, h4, ok_bind, h5, Bool.false_eq_true, if_false, ih, List.map_cons]
  rw [this xs fun _ h => h]
  rfl
end
section
variable {α β : Type} {f0 : Env → M (List D)} {tg tg1 : D → Env → Option Env} {ft ft1 : Env → M Bool} {fi : Env → M (List D)} {fe : Env → M Vl} {env env' : Env} {vs vs1 : List Nat}
end
theorem any_str (ws : List (List Nat)) (x : List Nat) : ((ws.map D.str).any fun y => flE y (.str x)) = decide (x ∈ ws) := by
  induction ws with
  | nil => rfl
  | cons w ws ih =>
    rw [List.map_cons, List.any_cons, ih]
    by_cases h : w = x
    · subst h
      simp [flE]
    · have h2 : ¬ x = w := fun z => h z.symm
      simp [flE, h, h2]
theorem inA_strs (ws : List (List Nat)) (x : List Nat) : inA (.str x) (.lst (ws.map D.str)) = some (decide (x ∈ ws)) := by
  have hf : (ws.map D.str).all flat = true := by
    rw [List.all_eq_true]
    intro d hd
    obtain ⟨w, _, rfl⟩ := List.mem_map.mp hd
    rfl
  show (if flat (.str x) && (ws.map D.str).all flat then some ((ws.map D.str).any fun y => flE y (.str x)) else none) = _
  rw [hf, any_str]
  rfl
theorem inAB_strs (ws : List (List Nat)) (x : List Nat) : inAB (.str x) (.lst (ws.map D.str)) = some (.bl (decide (x ∈ ws))) := by
  unfold inAB
  rw [inA_strs]
  rfl
end Y
namespace Y
open PySem PySem.Spec PyProof.Rows L2 Z
end Y
namespace Y
theorem eqD_ss (i j : List Nat) : eqD (.str i) (.str j) = some (decide (i = j)) := rfl
end Y

namespace Y
open PySem PySem.Spec PyProof.Rows L2 Z
theorem len_app (a b : Str) : (a ++ b).length = a.length + b.length := strLen_append ..
theorem textFrom_le {n : Nat} : ∀ (ts : List Str) (k : Nat) (acc : Str), (∀ t ∈ ts, t.length ≤ n) → (textFrom k acc ts).length ≤ acc.length + ts.length * (n + 2)
  | [], _, _, _ => by simp [textFrom]
  | t :: ts, k, acc, h => by
    have h0 := h t (List.mem_cons_self ..)
    have ih := textFrom_le ts (k + 1) (acc ++ (if k > 0 then ", " else "" : String) ++ t) fun x hx => h x (List.mem_cons_of_mem _ hx)
    have e : (acc ++ (if k > 0 then ", " else "" : String) ++ t).length ≤ acc.length + 2 + t.length := by
      rw [len_app, len_app]
      split
      · exact Nat.le_refl _
      · show acc.length + 0 + t.length ≤ _
        omega
    show (textFrom (k + 1) _ ts).length ≤ _
    simp only [List.length_cons, Nat.add_mul]
    omega
theorem listText_le {n : Nat} {ts : List Str} (h : ∀ t ∈ ts, t.length ≤ n) : (listText ts).length ≤ 2 + ts.length * (n + 2) := by
  have h1 := textFrom_le ts 0 "[" h
  have h2 : (("[" : String) : Str).length = 1 := rfl
  unfold listText
  rw [len_app]
  have h3 : (("]" : String) : Str).length = 1 := rfl
  omega
theorem piled_le {n : Nat} : ∀ {ts : List Str}, (∀ t ∈ ts, t.length ≤ n) → piled ts ≤ ts.length * (n + 2)
  | [], _ => by simp [piled]
  | t :: ts, h => by
    have ih := piled_le fun x hx => h x (List.mem_cons_of_mem _ hx)
    have h0 := h t (List.mem_cons_self ..)
    unfold piled at ih ⊢
    simp only [List.map_cons, List.sum_cons, List.length_cons, Nat.add_mul]
    omega
theorem tupleText_le {n : Nat} {ts : List Str} (h : ∀ t ∈ ts, t.length ≤ n) : (tupleText ts).length ≤ 4 + ts.length * (n + 2) := by
  have h1 : (Str.join ", " ts).length ≤ ts.length * (n + 2) := by
    by_cases ht : ts = []
    · subst ht; exact Nat.le_of_eq (by simp; rfl)
    · have := join_length_add ts ht
      have := piled_le h
      omega
  unfold tupleText
  rw [len_app, len_app]
  have h2 : (("(" : String) : Str).length = 1 := rfl
  have h3 : ((if ts.length == 1 then ",)" else ")" : String) : Str).length ≤ 2 := by
    split
    · exact Nat.le_refl _
    · show 1 ≤ 2
      omega
  omega
structure Shw (d : D) (m n : Nat) : Prop where
  ex : ∃ p, py d = some p ∧ p.showable = true ∧ p.depth ≤ m ∧ p.shown.length ≤ n
theorem Shw.mono {d : D} {m n m' n' : Nat} (h : Shw d m n) (hm : m ≤ m') (hn : n ≤ n') : Shw d m' n' :=
  let ⟨p, a, b, c, e⟩ := h.ex
  ⟨p, a, b, Nat.le_trans c hm, Nat.le_trans e hn⟩
theorem Shw.repr {d : D} {m n : Nat} (h : Shw d m n) (hm : m ≤ 60) (hn : n ≤ 10000000) : ∃ s, reprX [d] = some (.str s) := by
  obtain ⟨p, a, b, c, e⟩ := h.ex
  refine ⟨shw p, ?_⟩
  unfold reprX
  simp only [a]
  rw [if_pos ⟨b, by omega, by omega⟩]
theorem Shw.str {w : List Nat} {n : Nat} (h : ∀ c ∈ w, c < 16 ^ 8) (hn : w.length ≤ n) : Shw (.str w) 0 (10 * n + 2) := by
  refine ⟨.str (S w), rfl, rfl, by simp [PyData.depth], ?_⟩
  have e : (S w).length = w.length := by
    show (S w).cps.size = _
    rw [← Array.length_toList, S_cps]
  have := StrLaws.reprText_len (S w) (by rw [S_cps]; exact h)
  show (reprText (S w)).length ≤ _
  omega
theorem shw_all {m n : Nat} : ∀ {ds : List D}, (∀ d ∈ ds, Shw d m n) → ∃ ps, pys ds = some ps ∧ PyData.showableAll ps = true ∧ PyData.depthAll ps ≤ m ∧ (∀ t ∈ PyData.shownAll ps, t.length ≤ n) ∧ (PyData.shownAll ps).length = ds.length
  | [], _ => ⟨[], rfl, rfl, Nat.zero_le _, fun _ h => (nomatch h), rfl⟩
  | d :: ds, h => by
    obtain ⟨ps, a, b, c, e, f⟩ := shw_all fun x hx => h x (List.mem_cons_of_mem _ hx)
    obtain ⟨p, a1, b1, c1, e1⟩ := (h d (List.mem_cons_self ..)).ex
    refine ⟨p :: ps, by simp [pys, a, a1], by simp [PyData.showableAll, b, b1], by simp only [PyData.depthAll]; omega, fun t ht => ?_, by simp [PyData.shownAll, f]⟩
    simp only [PyData.shownAll, List.mem_cons] at ht
    rcases ht with rfl | ht
    · exact e1
    · exact e t ht
theorem Shw.lst {ds : List D} {m n N : Nat} (h : ∀ d ∈ ds, Shw d m n) (hl : ds.length ≤ N) : Shw (.lst ds) (m + 1) (4 + N * (n + 2)) := by
  obtain ⟨ps, a, b, c, e, f⟩ := shw_all h
  refine ⟨.list ps, by simp [py, a], by simp [PyData.showable, b], by simp only [PyData.depth]; omega, ?_⟩
  have := listText_le e
  rw [f] at this
  show (listText (PyData.shownAll ps)).length ≤ _
  have h2 : ds.length * (n + 2) ≤ N * (n + 2) := Nat.mul_le_mul_right _ hl
  omega
theorem Shw.tup {ds : List D} {m n N : Nat} (h : ∀ d ∈ ds, Shw d m n) (hl : ds.length ≤ N) : Shw (.tup ds) (m + 1) (4 + N * (n + 2)) := by
  obtain ⟨ps, a, b, c, e, f⟩ := shw_all h
  refine ⟨.tuple ps, by simp [py, a], by simp [PyData.showable, b], by simp only [PyData.depth]; omega, ?_⟩
  have := tupleText_le e
  rw [f] at this
  show (tupleText (PyData.shownAll ps)).length ≤ _
  have h2 : ds.length * (n + 2) ≤ N * (n + 2) := Nat.mul_le_mul_right _ hl
  omega
def shwB (d : D) (m n : Nat) : Bool := match py d with
  | some p => p.showable && decide (p.depth ≤ m) && decide (p.shown.length ≤ n)
  | none => false
theorem Shw.of {d : D} {m n : Nat} (h : shwB d m n = true) : Shw d m n := by
  unfold shwB at h
  split at h
  · rename_i p hp
    simp only [Bool.and_eq_true, decide_eq_true_eq] at h
    exact ⟨p, hp, h.1.1, h.1.2, h.2⟩
  · cases h
end Y
namespace Y
open PySem PySem.Spec PyProof.Rows L2 Z
theorem Shw.int {i : Int} {k : Nat} (h0 : 0 ≤ i) (hk : 0 < k) (h : i < 10 ^ k) (hk2 : i < 2 ^ 63) : Shw (.int i) 0 k := by
  refine ⟨.int i, rfl, ?_, by simp [PyData.depth], ?_⟩
  · simp only [PyData.showable, decide_eq_true_eq]
    by_cases hz : i.natAbs = 0
    · rw [hz]
      decide
    · have : i.natAbs.log2 < 63 := (Nat.log2_lt hz).mpr (by omega)
      omega
  · exact PyProof.Rows.toString_length_le h0 hk h
section
variable {α : Type} {tg : D → Env → Option Env} {fb : Env → M Out}
end
def isWd : D → Bool
  | .str w => wordI w
  | _ => false
end Y
namespace Y
open PySem PySem.Spec PyProof.Rows L2 Z
theorem eq_notin {z : List Nat} (hok : okS z) : eqD (.lst ((z.filter fun c => !inS [c] [97, 99, 103, 116]).map fun c => D.str [c])) (.lst []) = some (lineI z) := by
  have h := eqD_strs (f := fun c => [c]) (g := fun c => [c]) (xs := z.filter fun c => !inS [c] [97, 99, 103, 116]) (ys := []) (fun c hc => fun y hy => by
    simp only [List.mem_singleton] at hy
    subst hy
    exact hok _ (List.mem_filter.mp hc).1) (fun x hx => nomatch hx)
  have e : decide ((z.filter fun c => !inS [c] [97, 99, 103, 116]).map (fun c => [c]) = ([] : List Nat).map fun c => [c]) = lineI z := by
    unfold lineI
    rw [Bool.eq_iff_iff, decide_eq_true_eq, List.map_nil, List.map_eq_nil_iff, List.filter_eq_nil_iff, List.all_eq_true]
    constructor
    · intro h c hc
      have := h c hc
      simpa using this
    · intro h c hc
      rw [h c hc]
      simp
  rw [e] at h
  exact h
theorem Dn.ofB {α : Type} {q : Tk} {c : Nat} {m : M α} {P : α → Prop} (h : Dn q c (m.bind M.ok) P) : Dn q c m P := by
  rw [bind_ok] at h
  exact h
end Y

namespace Y
open PySem PySem.Spec PyProof.Rows L2 Z
end Y

namespace Y
open PySem PySem.Spec PyProof.Rows L2 Z
structure Ps {α : Type} (m : M α) (P : α → Prop) : Prop where
  run : ∀ dr n, wp dr n m (fun dr' n' a => Sub dr dr' ∧ n' = n ∧ P a) (fun _ _ _ => False)
section
variable {α β : Type} {q : Tk} {c : Nat} {m : M α} {P P' : α → Prop} {R : β → Prop} {f : α → M β}
theorem Ps.ok {a : α} (h : P a) : Ps (.ok a) P := ⟨fun dr n => ⟨Sub.refl _, rfl, h⟩⟩
theorem Ps.pure {a : α} (e : m = .ok a) (h : P a) : Ps m P := e ▸ Ps.ok h
theorem Ps.mono (h : Ps m P) (hp : ∀ a, P a → P' a) : Ps m P' := ⟨fun dr n => wp_mono (h.run dr n) (fun _ _ _ ⟨a, b, d⟩ => ⟨a, b, hp _ d⟩) fun _ _ _ e => e⟩
theorem Ps.bind (h : Ps m P) (hf : ∀ a, P a → Ps (f a) R) : Ps (m.bind f) R := ⟨fun dr n => by
  refine wp_bind.mpr (wp_mono (h.run dr n) (fun dr' n' a ⟨e, b, d⟩ => ?_) fun _ _ _ e => e)
  subst b
  exact wp_mono ((hf a d).run dr' n') (fun _ _ _ ⟨a, b, d⟩ => ⟨e.trans a, b, d⟩) fun _ _ _ e => e⟩
theorem Ps.ofB (h : Ps (m.bind M.ok) P) : Ps m P := by
  rw [bind_ok] at h
  exact h
theorem Dn.ps (h : Ps m P) (hf : ∀ a, P a → Dn q c (f a) R) : Dn q c (m.bind f) R := ⟨fun dr n hq hc => by
  refine wp_bind.mpr (wp_mono (h.run dr n) (fun dr' n' a ⟨e, b, d⟩ => ?_) fun _ _ _ e => e)
  subst b
  exact wp_mono ((hf a d).run dr' n' (e _ hq) hc) (fun _ _ _ ⟨a, b, d⟩ => ⟨e.trans a, b, d⟩) fun _ _ _ e => e⟩
theorem Ps.dn (h : Ps m P) : Dn q c m P := ⟨fun dr n hq hc => wp_mono (h.run dr n) (fun _ _ _ ⟨a, b, d⟩ => ⟨a, by omega, d⟩) fun _ _ _ e => e⟩
theorem Ps.nox (h : Ps m P) : Ps m.nox P := ⟨fun dr n => wp_nox.mpr (wp_mono (h.run dr n) (fun _ _ _ x => x) fun _ _ _ e => e)⟩
end
section
variable {f g : Env → M Out} {env e' : Env} {P : Out → Prop} {R : Env → Prop}
theorem Ps.seq (h : Ps (f env) fun o => ∃ e, o = .nx e ∧ R e) (hg : ∀ e, R e → Ps (g e) P) : Ps (bSeq f g env) P := by
  unfold bSeq
  refine Ps.bind h fun o ho => ?_
  obtain ⟨e, rfl, he⟩ := ho
  exact hg e he
theorem Ps.seqP (h : f env = .ok (.nx e')) (hg : Ps (g e') P) : Ps (bSeq f g env) P := Ps.seq (R := fun e => e = e') (Ps.pure h ⟨_, rfl, rfl⟩) fun e he => he ▸ hg
theorem Ps.body {ar N : Nat} {b : Env → M Out} {ds : List D} {P : Vl → Prop} (hl : ds.length = ar) (h : Ps (b (ds.map (fun d => some (false, d)) ++ List.replicate (N - ar) none)) fun o => ∃ v, o = .rt v ∧ P v) : Ps (bodyM ar N b ds) P := by
  unfold bodyM
  rw [if_pos hl]
  refine Ps.bind h fun o ho => ?_
  obtain ⟨v, rfl, hv⟩ := ho
  exact Ps.ok hv
end
section
variable {α : Type} {tg : D → Env → Option Env} {fb : Env → M Out} {n : Nat}
theorem wp_forGo {J : List α → Dr → Env → Prop} (F : α → D) (hb : ∀ x r dr e, J (x :: r) dr e → ∃ e1, tg (F x) e = some e1 ∧ wp dr n (fb e1) (fun dr' n' o => n' = n ∧ ∃ e2, o = .nx e2 ∧ J r dr' e2) (fun _ _ _ => False)) : ∀ (xs : List α) (dr : Dr) (env : Env), J xs dr env → wp dr n (forGo tg fb (xs.map F) env) (fun dr' n' o => n' = n ∧ ∃ e, o = .nx e ∧ J [] dr' e) (fun _ _ _ => False)
  | [], dr, env, h => ⟨rfl, env, rfl, h⟩
  | x :: xs, dr, env, h => by
    obtain ⟨e1, e, w⟩ := hb x xs dr env h
    have e' : Y.forGo tg fb ((x :: xs).map F) env = (fb e1).bind fun o => match o with | .nx e => Y.forGo tg fb (xs.map F) e | .ct e => Y.forGo tg fb (xs.map F) e | .bk e => .ok (.nx e) | .rt v => .ok (.rt v) := by
      show (M.of (tg (F x) env)).bind _ = _
      rw [e]
      rfl
    rw [e']
    refine wp_bind.mpr (wp_mono w (fun dr' n' o ho => ?_) fun _ _ _ z => z)
    obtain ⟨hn, e2, rfl, h2⟩ := ho
    rw [hn]
    exact wp_forGo F hb xs dr' e2 h2
theorem Ps.forGo {J : List α → Env → Prop} (F : α → D) (hb : ∀ x r e, J (x :: r) e → ∃ e1, tg (F x) e = some e1 ∧ Ps (fb e1) fun o => ∃ e2, o = .nx e2 ∧ J r e2) : ∀ (xs : List α) (env : Env), J xs env → Ps (Y.forGo tg fb (xs.map F) env) fun o => ∃ e, o = .nx e ∧ J [] e := fun xs env h => ⟨fun dr n => by
  refine wp_mono (wp_forGo (J := fun r dr' e => Sub dr dr' ∧ J r e) F (fun x r dr1 e he => ?_) xs dr env ⟨Sub.refl _, h⟩) (fun dr' n' o ho => ?_) fun _ _ _ z => z
  · obtain ⟨h1, h2⟩ := he
    obtain ⟨e1, g1, g2⟩ := hb x r e h2
    refine ⟨e1, g1, wp_mono (g2.run dr1 n) (fun dr2 n2 o ho => ?_) fun _ _ _ z => z⟩
    obtain ⟨k1, rfl, e2, k2, k3⟩ := ho
    exact ⟨rfl, e2, k2, h1.trans k1, k3⟩
  · obtain ⟨rfl, e, h1, h2, h3⟩ := ho
    exact ⟨h2, rfl, e, h1, h3⟩⟩
end
def Has (dr : Dr) (a : Addr) (d : D) : Prop := .inr (a, d) ∈ dr
def Fr (dr : Dr) (a : Addr) : Prop := ∀ e, .inr (a, e) ∉ dr
section
variable {α : Type} {dr dr0 : Dr} {a b : Addr} {d e x : D} {n : Nat} {Q : Dr → Nat → α → Prop} {E : Dr → Nat → Ex → Prop}
theorem Has.ne (h : Has dr a d) (f : Fr dr b) : a ≠ b := fun z => f d (z ▸ h)
theorem Has.cons (i : Im) (h : Has dr a d) : Has (i :: dr) a d := List.mem_cons_of_mem _ h
theorem has_new : Has (.inr (a, d) :: dr) a d := List.mem_cons_self ..
theorem Has.put (h : Has dr a e) : Has (putS dr a d) a d := by
  unfold Has
  rw [putS_eq]
  have := List.mem_map_of_mem (f := putI a d) h
  simpa [putI] using this
theorem Sub.put (h : Sub dr0 dr) (f : Fr dr0 a) : Sub dr0 (putS dr a d) := fun i hi => by
  rw [putS_eq]
  have := List.mem_map_of_mem (f := putI a d) (h i hi)
  cases i with
  | inl q => exact this
  | inr p =>
    obtain ⟨b, e⟩ := p
    have hb : b ≠ a := fun z => f e (z ▸ hi)
    simpa [putI, hb] using this
theorem Sub.cons (h : Sub dr0 dr) (i : Im) : Sub dr0 (i :: dr) := fun j hj => List.mem_cons_of_mem _ (h j hj)
theorem Sub.del (h : Sub dr0 dr) {as : List Addr} (f : ∀ b ∈ as, Fr dr0 b) : Sub dr0 (delS dr as) := fun i hi => by
  unfold delS
  refine List.mem_filter.mpr ⟨h i hi, ?_⟩
  cases i with
  | inl q => rfl
  | inr p =>
    obtain ⟨b, e⟩ := p
    simp
    exact fun hb => f b hb e hi
theorem Fr.sub (f : Fr dr a) (h : Sub dr0 dr) : Fr dr0 a := fun e he => f e (h _ he)
end
structure Wt {α : Type} (dr : Dr) (m : M α) (Q : Dr → α → Prop) : Prop where
  run : ∀ n, wp dr n m (fun dr' n' a => n' = n ∧ Q dr' a) (fun _ _ _ => False)
section
variable {α β : Type} {dr : Dr} {m : M α} {Q Q' : Dr → α → Prop} {R : Dr → β → Prop} {f : α → M β} {a : Addr} {d e : D}
theorem Wt.ok {x : α} (h : Q dr x) : Wt dr (.ok x) Q := ⟨fun _ => ⟨rfl, h⟩⟩
theorem Wt.pure {x : α} (e : m = .ok x) (h : Q dr x) : Wt dr m Q := e ▸ Wt.ok h
theorem Wt.mono (h : Wt dr m Q) (hq : ∀ dr a, Q dr a → Q' dr a) : Wt dr m Q' := ⟨fun n => wp_mono (h.run n) (fun _ _ _ ⟨x, y⟩ => ⟨x, hq _ _ y⟩) fun _ _ _ z => z⟩
theorem Wt.bind (h : Wt dr m Q) (hf : ∀ dr' x, Q dr' x → Wt dr' (f x) R) : Wt dr (m.bind f) R := ⟨fun n => by
  refine wp_bind.mpr (wp_mono (h.run n) (fun dr' n' x ⟨e, y⟩ => ?_) fun _ _ _ z => z)
  rw [e]
  exact (hf dr' x y).run n⟩
theorem Wt.get {k : D → M α} (h : Has dr a d) (w : Wt dr (k d) Q) : Wt dr (.get a k) Q := ⟨fun n => ⟨d, h, w.run n⟩⟩
theorem Wt.put {k : M α} (h : Has dr a e) (w : Wt (putS dr a d) k Q) : Wt dr (.put a d k) Q := ⟨fun n => ⟨⟨e, h⟩, w.run n⟩⟩
theorem Wt.new {k : Addr → M α} (w : ∀ a, Fr dr a → Wt (.inr (a, d) :: dr) (k a) Q) : Wt dr (.new d k) Q := ⟨fun n a h => (w a h).run n⟩
theorem Wt.frz {k : D → M α} {as : List Addr} (t : Told dr d e as) (w : Wt (delS dr as) (k e) Q) : Wt dr (.frz d k) Q := ⟨fun n => ⟨e, as, t, w.run n⟩⟩
theorem Ps.ofW {P : α → Prop} (h : ∀ dr, Wt dr m fun dr' a => Sub dr dr' ∧ P a) : Ps m P := ⟨fun dr n => wp_mono ((h dr).run n) (fun _ _ _ ⟨x, y, z⟩ => ⟨y, x, z⟩) fun _ _ _ z => z⟩
theorem Ps.wt {P : α → Prop} (h : Ps m P) : Wt dr m fun dr' a => Sub dr dr' ∧ P a := ⟨fun n => wp_mono (h.run dr n) (fun _ _ _ ⟨x, y, z⟩ => ⟨y, x, z⟩) fun _ _ _ z => z⟩
end
section
variable {f g : Env → M Out} {env e' : Env} {dr : Dr} {Q R : Dr → Out → Prop}
theorem Wt.seq (h : Wt dr (f env) fun dr' o => ∃ e, o = .nx e ∧ Wt dr' (g e) Q) : Wt dr (bSeq f g env) Q := by
  unfold bSeq
  refine Wt.bind h fun dr' o ho => ?_
  obtain ⟨e, rfl, he⟩ := ho
  exact he
theorem Wt.seqP (h : f env = .ok (.nx e')) (hg : Wt dr (g e') Q) : Wt dr (bSeq f g env) Q := Wt.seq (Wt.pure h ⟨_, rfl, hg⟩)
theorem Wt.body {ar N : Nat} {b : Env → M Out} {ds : List D} {P : Dr → Vl → Prop} (hl : ds.length = ar) (h : Wt dr (b (ds.map (fun d => some (false, d)) ++ List.replicate (N - ar) none)) fun dr' o => (∃ v, o = .rt v ∧ P dr' v) ∨ ∃ e, o = .nx e ∧ P dr' (.s, .non)) : Wt dr (bodyM ar N b ds) P := by
  unfold bodyM
  rw [if_pos hl]
  refine Wt.bind h fun dr' o ho => ?_
  rcases ho with ⟨v, rfl, hv⟩ | ⟨e, rfl, hv⟩
  · exact Wt.ok hv
  · exact Wt.ok hv
variable {α : Type} {tg : D → Env → Option Env} {fb : Env → M Out} {fi : Env → M (List D)}
theorem Wt.for {J : List α → Dr → Env → Prop} {xs : List α} (F : α → D) (hi : fi env = .ok (xs.map F)) (h0 : J xs dr env) (hb : ∀ x r dr e, J (x :: r) dr e → ∃ e1, tg (F x) e = some e1 ∧ Wt dr (fb e1) fun dr' o => ∃ e2, o = .nx e2 ∧ J r dr' e2) : Wt dr (bFor fi tg fb env) fun dr' o => ∃ e, o = .nx e ∧ J [] dr' e := by
  unfold bFor
  rw [hi, ok_bind]
  exact ⟨fun n => wp_forGo F (fun x r dr1 e he => by
    obtain ⟨e1, h1, h2⟩ := hb x r dr1 e he
    exact ⟨e1, h1, h2.run n⟩) xs dr env h0⟩
end
section
variable {tab : List (Str × Str)} {f g : Str} {fo fe : Env → M Vl} {gb : Env → M Out} {env : Env} {v x : Vl} {a : Addr} {C : Str} {fs : List (Str × D)} {dr : Dr} {Q : Dr → Out → Prop}
end
end Y

namespace Y
open PySem PySem.Spec PyProof.Rows L2 Z
end Y

namespace Y
open PySem PySem.Spec PyProof.Rows L2 Z
section
variable {dr dr0 : Dr} {a b : Addr} {d e x : D} {env : Env} {fe fa : Env → M Vl} {fr : Env → M (List Vl)}
theorem Has.del (h : Has dr b x) {as : List Addr} (hn : b ∉ as) : Has (delS dr as) b x := by
  unfold Has delS
  refine List.mem_filter.mpr ⟨h, ?_⟩
  simpa using hn
end
def HasA (dr : Dr) : List Addr → List (List D) → Prop
  | [], [] => True
  | a :: as, L :: Ls => Has dr a (.lst L) ∧ HasA dr as Ls
  | _, _ => False
theorem HasA.mono {dr dr' : Dr} (h : ∀ a d, Has dr a d → Has dr' a d) : ∀ {as : List Addr} {Ls : List (List D)}, HasA dr as Ls → HasA dr' as Ls
  | [], [], _ => trivial
  | _ :: _, _ :: _, g => ⟨h _ _ g.1, HasA.mono h g.2⟩
  | [], _ :: _, g => g.elim
  | _ :: _, [], g => g.elim
end Y

namespace Y
open PySem PySem.Spec PyProof.Rows L2 Z
section
variable {q : Tk} {c c1 c2 : Nat} {f g : Env → M Out} {env e' : Env}
theorem Dn.body {ar N : Nat} {b : Env → M Out} {ds : List D} {P : Vl → Prop} (hl : ds.length = ar) (h : Dn q c (b (ds.map (fun d => some (false, d)) ++ List.replicate (N - ar) none)) fun o => ∃ v, o = .rt v ∧ P v) : Dn q c (bodyM ar N b ds) P := by
  unfold bodyM
  rw [if_pos hl]
  refine (Dn.bind (c2 := 0) h fun o ho => ?_).le (by omega)
  obtain ⟨v, rfl, hv⟩ := ho
  exact Dn.ok hv
theorem Dn.seqR {P : Vl → Prop} (h : Dn q c (f env) fun o => ∃ v, o = .rt v ∧ P v) : Dn q c (bSeq f g env) fun o => ∃ v, o = .rt v ∧ P v := by
  unfold bSeq
  refine (Dn.bind (c2 := 0) h fun o ho => ?_).le (by omega)
  obtain ⟨v, rfl, hv⟩ := ho
  exact Dn.ok ⟨v, rfl, hv⟩
end
end Y

namespace Y
open PySem PySem.Spec PyProof.Rows L2 Z
section
variable {fa fb : Env → M Vl} {env : Env} {a b : List Nat} {i : Nat}
end
end Y

namespace Y
open PySem PySem.Spec PyProof.Rows L2 Z
section
variable {α : Type} {q : Tk} {c : Nat} {tg : D → Env → Option Env} {fb : Env → M Out} {I : Env → Prop}
end
end Y

namespace Y
open PySem PySem.Spec PyProof.Rows L2 Z
section
variable {fa fb : Env → M Vl} {ft fu : Env → M Bool} {fr : Env → M (List Vl)} {env : Env} {x y r : Vl} {b : Bool}
theorem Ps.own {C : Str} {neg : Bool} {m : List D → M Vl} (h1 : Ps (fa env) fun z => z = x) (h2 : Ps (fb env) fun z => z = y) (h : eOwn C neg m (fun _ => .ok x) (fun _ => .ok y) env = .ok r) : Ps (eOwn C neg m fa fb env) fun z => z = r := by
  unfold eOwn at h ⊢
  refine Ps.bind h1 fun a ha => ?_
  subst ha
  refine Ps.bind h2 fun a ha => ?_
  subst ha
  exact Ps.pure h rfl
theorem Ps.eB (h : Ps (fa env) fun z => z = (.s, .bl b)) : Ps (Y.eB fa env) fun z => z = b := by
  unfold Y.eB
  refine Ps.bind h fun a ha => ?_
  subst ha
  exact Ps.ok rfl
theorem Ps.or {b1 b2 : Bool} (h1 : Ps (ft env) fun z => z = b1) (h2 : Ps (fu env) fun z => z = b2) : Ps (eOr ft fu env) fun z => z = (b1 || b2) := by
  unfold eOr
  refine Ps.bind h1 fun a ha => ?_
  subst ha
  cases a with
  | true => exact Ps.ok rfl
  | false => exact h2
theorem Ps.eq {α : Type} {m : M α} {a : α} (h : m = .ok a) : Ps m fun z => z = a := Ps.pure h rfl
theorem Ps.set {i : Nat} {d : D} (h : Ps (fa env) fun z => z = (.s, d)) : Ps (bSet i fa env) fun o => ∃ e, o = .nx e ∧ e = env.set i (some (false, d)) := by
  unfold bSet
  refine Ps.bind h fun a ha => ?_
  subst ha
  exact Ps.ok ⟨_, rfl, rfl⟩
theorem Ps.setO {i : Nat} {d : D} (h : Ps (fa env) fun z => z = (.o, d)) : Ps (bSet i fa env) fun o => ∃ e, o = .nx e ∧ e = env.set i (some (true, d)) := by
  unfold bSet
  refine Ps.bind h fun a ha => ?_
  subst ha
  exact Ps.ok ⟨_, rfl, rfl⟩
theorem Ps.cons {xs : List Vl} (h1 : Ps (fa env) fun z => z = x) (h2 : Ps (fr env) fun z => z = xs) : Ps (eCons fa fr env) fun z => z = x :: xs := by
  unfold eCons
  refine Ps.bind h1 fun a ha => ?_
  subst ha
  refine Ps.bind h2 fun a ha => ?_
  subst ha
  exact Ps.ok rfl
theorem Ps.call {m : List D → M Vl} {xs : List Vl} (h1 : Ps (fr env) fun z => z = xs) (ho : okA xs = true) (h2 : Ps (m (dats xs)) fun z => z = r) : Ps (eCall m fr env) fun z => z = r := by
  unfold eCall
  refine Ps.bind h1 fun a ha => ?_
  subst ha
  rw [if_pos ho]
  exact h2
theorem Ps.ret {d : D} (h : Ps (fa env) fun z => z = (.s, d)) : Ps (bRet fa env) fun o => o = .rt (.s, d) := by
  unfold bRet
  refine Ps.bind h fun a ha => ?_
  subst ha
  exact Ps.ok rfl
end
section
variable {q : Tk} {c c1 c2 : Nat} {fa fb : Env → M Vl} {fr : Env → M (List Vl)} {env : Env}
theorem Dn.consD {P : Vl → Prop} {R : List Vl → Prop} (h1 : Dn q c1 (fa env) P) (h2 : ∀ x, P x → Dn q c2 (fr env) fun xs => R (x :: xs)) : Dn q (c1 + c2) (eCons fa fr env) R := by
  unfold eCons
  refine Dn.bind h1 fun x hx => ?_
  exact (Dn.bind (c2 := 0) (h2 x hx) fun xs hxs => Dn.ok hxs)
theorem Dn.nilD {R : List Vl → Prop} (h : R []) : Dn q c (eNil env) R := Dn.ok h
theorem Dn.callD {m : List D → M Vl} {P : List Vl → Prop} {R : Vl → Prop} (h1 : Dn q c1 (fr env) P) (h2 : ∀ xs, P xs → okA xs = true ∧ Dn q c2 (m (dats xs)) R) : Dn q (c1 + c2) (eCall m fr env) R := by
  unfold eCall
  refine Dn.bind h1 fun xs hx => ?_
  obtain ⟨h3, h4⟩ := h2 xs hx
  rw [if_pos h3]
  exact h4
theorem Dn.lstD {R : Vl → Prop} (h : Dn q c (fr env) fun xs => xs.any isV = false ∧ (dats xs).length ≤ 100000 ∧ R (.o, .lst (dats xs))) : Dn q c (eLst fr env) R := by
  unfold eLst eCO
  refine (Dn.bind (c2 := 0) h fun xs hx => ?_).le (by omega)
  obtain ⟨h1, h2, h3⟩ := hx
  dsimp only
  rw [h1, if_neg (by decide), if_pos h2]
  exact Dn.ok h3
theorem Dn.tupD {R : Vl → Prop} (h : Dn q c (fr env) fun xs => xs.any isV = false ∧ (dats xs).length ≤ 100000 ∧ R (.s, .tup (dats xs))) : Dn q c (eTup fr env) R := by
  unfold eTup
  refine (Dn.bind (c2 := 0) h fun xs hx => ?_).le (by omega)
  obtain ⟨h1, h2, h3⟩ := hx
  rw [h1, if_neg (by decide), if_pos h2]
  exact Dn.ok h3
theorem Dn.opD {g : D → D → Option D} {P : Vl → Prop} {R : Vl → Prop} (h1 : Dn q c1 (fa env) P) (h2 : ∀ x, P x → Dn q c2 (fb env) fun y => isV x = false ∧ isV y = false ∧ ∃ d, g x.2 y.2 = some d ∧ R (.s, d)) : Dn q (c1 + c2) (eOp g fa fb env) R := by
  unfold eOp
  refine Dn.bind h1 fun x hx => ?_
  refine (Dn.bind (c2 := 0) (h2 x hx) fun y hy => ?_)
  obtain ⟨v1, v2, d, h3, h4⟩ := hy
  rw [h3, of_some, ok_bind, v1, v2]
  exact Dn.ok h4
theorem Dn.setD {i : Nat} {R : Env → Prop} (h : Dn q c (fa env) fun r => (∃ d, r = (.s, d) ∧ R (env.set i (some (false, d)))) ∨ ∃ d, r = (.o, d) ∧ R (env.set i (some (true, d)))) : Dn q c (bSet i fa env) fun o => ∃ e, o = .nx e ∧ R e := by
  unfold bSet
  refine (Dn.bind (c2 := 0) h fun r hr => ?_).le (by omega)
  rcases hr with ⟨d, rfl, hd⟩ | ⟨d, rfl, hd⟩
  · exact Dn.ok ⟨_, rfl, hd⟩
  · exact Dn.ok ⟨_, rfl, hd⟩
theorem Dn.eqV {α : Type} {m : M α} {a : α} (h : m = .ok a) : Dn q c m fun z => z = a := Dn.pure h rfl
end
end Y

namespace Y
open PySem PySem.Spec PyProof.Rows L2 Z
end Y

namespace Y
open PySem PySem.Spec PyProof.Rows L2 Z
end Y

namespace Y
open PySem PySem.Spec PyProof.Rows L2 Z
end Y

namespace Y
open PySem PySem.Spec PyProof.Rows L2 Z
def prefW (p : List Nat) : List (List Nat) := (List.range p.length).map fun i => p.take i
def stsW (ws : List (List Nat)) : List (List Nat) := dedF ([] :: ws.flatMap prefW)
structure IsSt (ws : List (List Nat)) (u s : List Nat) : Prop where
  m : s ∈ stsW ws
  f : s <:+ u
  x : ∀ p ∈ stsW ws, p <:+ u → p.length ≤ s.length
theorem IsSt.eq {ws : List (List Nat)} {u s s' : List Nat} (h : IsSt ws u s) (h' : IsSt ws u s') : s = s' :=
  (List.suffix_of_suffix_length_le h.f h'.f (h'.x s h.m h.f)).eq_of_length (Nat.le_antisymm (h'.x s h.m h.f) (h.x s' h'.m h'.f))
section
variable {ws : List (List Nat)} {u s s' : List Nat} {c : Nat}
end
abbrev LnT := List (List Nat × List (List Nat))
section
variable {ws : List (List Nat)} {n : Nat} {L : LnT}
end
end Y
namespace Y
open PySem PySem.Spec PyProof.Rows L2 Z
section
variable {ws : List (List Nat)}
end
section
variable {ws : List (List Nat)} {w : List Nat}
end
end Y

namespace Y
open PySem PySem.Spec PyProof.Rows L2 Z
section
variable {α : Type} {fi : Env → M (List D)} {tg : D → Env → Option Env} {fk fe : Env → M Vl} {env env' : Env} {vs : List Nat}
end
section
variable {fx fe : Env → M Vl} {env : Env} {dr : Dr} {Q : Dr → Out → Prop} {a : Addr} {es fs : List (Ky × D)} {md : Md}
end
section
variable {f g : Env → M Bool} {fv : Env → M Vl} {fo go : Env → M Out} {env e' : Env} {a b : Bool} {r : M Out}
theorem tB_ok (h : fv env = .ok (.s, .bl b)) : eB fv env = .ok b := by
  unfold eB
  rw [h]
  rfl
theorem tOr_ok (h1 : f env = .ok a) (h2 : a = false → g env = .ok b) : eOr f g env = .ok (a || b) := by
  unfold eOr
  rw [h1, ok_bind]
  cases a with
  | true => rfl
  | false => exact h2 rfl
theorem tAnd_ok (h1 : f env = .ok a) (h2 : a = true → g env = .ok b) : eAnd f g env = .ok (a && b) := by
  unfold eAnd
  rw [h1, ok_bind]
  cases a with
  | false => rfl
  | true => exact h2 rfl
theorem bIf_t (h : f env = .ok true) : bIf f fo go env = fo env := by
  unfold bIf
  rw [h]
  rfl
theorem bIf_f (h : f env = .ok false) : bIf f fo go env = go env := by
  unfold bIf
  rw [h]
  rfl
end
end Y

namespace Y
open PySem PySem.Spec PyProof.Rows L2 Z
end Y

namespace Y
open PySem PySem.Spec PyProof.Rows L2 Z
end Y

namespace Y
open PySem PySem.Spec PyProof.Rows L2 Z
abbrev nI (i : Nat) : D := .int (i : Int)
section
variable {fa fb : Env → M Vl} {fr : Env → M (List Vl)} {env : Env}
theorem op_ok {g : D → D → Option D} {x y : Vl} {d : D} (h1 : fa env = .ok x) (h2 : fb env = .ok y) (h3 : g x.2 y.2 = some d) (v1 : isV x = false) (v2 : isV y = false) : eOp g fa fb env = .ok (.s, d) := by
  unfold eOp
  rw [h1, ok_bind, h2, ok_bind, h3, of_some, ok_bind, v1, v2]
  rfl
end
section
variable {fa fb : Env → M Vl} {fr : Env → M (List Vl)} {env : Env}
theorem cons_ok {x : Vl} {xs : List Vl} (h1 : fa env = .ok x) (h2 : fr env = .ok xs) : eCons fa fr env = .ok (x :: xs) := by
  unfold eCons
  rw [h1, ok_bind, h2]
  rfl
end
section
variable {fa fb : Env → M Vl} {fr : Env → M (List Vl)} {env : Env}
theorem cb_ok {g : List D → Option D} {xs : List Vl} {d : D} (h1 : fr env = .ok xs) (h2 : g (dats xs) = some d) (hv : xs.any isV = false) : eCB g fr env = .ok (.s, d) := by
  unfold eCB
  rw [h1, ok_bind, h2, of_some, ok_bind, hv]
  rfl
end
section
variable {fa fb : Env → M Vl} {fr : Env → M (List Vl)} {env : Env}
theorem cov_ok {g : List D → Option D} {xs : List Vl} {d : D} (h1 : fr env = .ok xs) (h2 : g (dats xs) = some d) (hv : xs.any isV = false) : eCOV g fr env = .ok (.o, d) := by
  unfold eCOV
  rw [h1, ok_bind, h2, of_some, ok_bind, hv]
  rfl
end
theorem call_ok {m : List D → M Vl} {fa : Env → M (List Vl)} {env : Env} {xs : List Vl} {r : M Vl} (h1 : fa env = .ok xs) (ho : okA xs = true) (h2 : m (dats xs) = r) : eCall m fa env = r := by
  unfold eCall
  rw [h1, ok_bind, if_pos ho]
  exact h2
theorem cut_m1 {α : Type} {t : List α} : cutL t none (some (-1)) = t.take (t.length - 1) := by
  unfold cutL HT.sIx
  have h : ((-1 : Int) < 0) := by decide
  simp [h]
  congr 1
  omega
theorem add_l {fa fb : Env → M Vl} {env : Env} {m1 m2 : Md} {a b : List D} (h1 : fa env = .ok (m1, .lst a)) (h2 : fb env = .ok (m2, .lst b)) (v1 : isV (m1, D.lst a) = false) (v2 : isV (m2, D.lst b) = false) (hl : a.length + b.length ≤ 1000000) : eOp addD fa fb env = .ok (.s, .lst (a ++ b)) := op_ok h1 h2 (by show (if a.length + b.length ≤ 1000000 then some (D.lst (a ++ b)) else none) = _; rw [if_pos hl]) v1 v2
theorem ne_f {fa fb : Env → M Vl} {env : Env} {x y : Vl} (h1 : fa env = .ok x) (h2 : fb env = .ok y) (v1 : isV x = false) (v2 : isV y = false) (h : eqD x.2 y.2 = some true) : eB (eOp neB fa fb) env = .ok false := tB_ok (op_ok h1 h2 (by show (eqD x.2 y.2).map _ = _; rw [h]; rfl) v1 v2)
section
variable {q : Tk} {env : Env} {w : List Nat}
end
section
variable {q : Tk} {env : Env} {w : List Nat}
theorem d_takeN {s : Nat} {n : Nat} (h1 : eVar s env = .ok (.s, .drw q)) (h0 : 0 < n) (hl : n < 1000000000) : Dn q 1 (eCall m_take (eCons (eVar s) (eCons (eC (.int (n : Int))) eNil)) env) fun r => ∃ k, k < n ∧ r = (.s, nI k) := by
  have c1 : eCall m_take (eCons (eVar s) (eCons (eC (.int (n : Int))) eNil)) env = m_take [.drw q, .int (n : Int)] := call_ok (cons_ok h1 (cons_ok (fa := eC (.int (n : Int))) (x := (.s, .int (n : Int))) rfl (show eNil _ = .ok [] from rfl))) rfl rfl
  rw [c1]
  refine Dn.ofB (Dn.tk (c := 0) (by omega) (by omega) fun i a b => Dn.ok ?_)
  obtain ⟨j, rfl⟩ : ∃ k : Nat, i = (k : Int) := ⟨i.toNat, by omega⟩
  exact ⟨j, by omega, rfl⟩
end
theorem str_self (w : List Nat) : eqD (.str w) (.str w) = some true := by rw [eqD_ss, decide_eq_true rfl]
theorem eqB_t {x y : D} (h : eqD x y = some true) : eqB x y = some (.bl true) := by
  unfold eqB
  rw [h]
  rfl
theorem ret_ok {f : Env → M Vl} {env : Env} {d : D} (h : f env = .ok (.s, d)) : bRet f env = .ok (.rt (.s, d)) := by
  unfold bRet
  rw [h]
  rfl
theorem Ps.meth {C nm : Str} {mm : List D → M Vl} {fo : Env → M Vl} {fa : Env → M (List Vl)} {env : Env} {x : Vl} {r : Vl} (h1 : Ps (fo env) fun z => z = x) (h2 : eMeth C nm mm (fun _ => .ok x) fa env = .ok r) : Ps (eMeth C nm mm fo fa env) fun z => z = r := by
  unfold eMeth at h2 ⊢
  refine Ps.bind h1 fun z hz => ?_
  subst hz
  exact Ps.pure h2 rfl
theorem nil1 {env : Env} : eNil env = .ok [] := rfl
theorem nn_self (n : Nat) : eqD (nI n) (nI n) = some true := by show some (decide (_ = _)) = _; rw [decide_eq_true rfl]
theorem gt_1 {fa : Env → M Vl} {env : Env} {n m : Nat} (h : fa env = .ok (.s, nI n)) : eB (eOp gtD fa (eC (.int (m : Int)))) env = .ok (decide (m < n)) := tB_ok (op_ok (g := gtD) (d := .bl (decide (m < n))) h (show eC (.int (m : Int)) env = .ok (.s, .int (m : Int)) from rfl) (by
  show some (D.bl (decide (((m : Nat) : Int) < ((n : Nat) : Int)))) = _
  congr 2
  rw [decide_eq_decide]
  omega) rfl rfl)
theorem len_s {fa : Env → M Vl} {env : Env} {w : List Nat} (h : fa env = .ok (.s, .str w)) (hl : w.length ≤ 10000) : eCB lenD (eCons fa eNil) env = .ok (.s, nI w.length) := cb_ok (cons_ok h nil1) (by
  show lenD [.str _] = _
  unfold lenD
  dsimp only
  rw [if_pos (by omega)]) rfl
theorem len_l {fa : Env → M Vl} {env : Env} {m : Md} {ds : List D} {n : Nat} (h : fa env = .ok (m, .lst ds)) (hv : isV (m, D.lst ds) = false) (hl : ds.length = n) : eCB lenD (eCons fa eNil) env = .ok (.s, nI n) := cb_ok (cons_ok h nil1) (by
  show lenD [.lst _] = _
  unfold lenD
  dsimp only
  rw [hl]) (by rw [List.any_cons, hv]; rfl)
abbrev OB := Option (Bool × D)
def fr : OB → Bool
  | some (true, _) => false
  | _ => true
section
variable {ns : List Int} {q : Tk} {x2 x3 x4 x5 x6 x7 x8 x9 x10 x11 x12 : OB}
end
section
variable {ns : List Int} {q : Tk} {x2 x3 x4 x5 x6 x7 x8 x9 x10 x11 x12 : OB}
end
section
variable {ns : List Int} {q : Tk} {x2 x3 x4 x5 x6 x7 x8 x9 x10 x11 x12 : OB}
end
section
variable {ns : List Int} {q : Tk} {x2 x3 x4 x5 x6 x7 x8 x9 x10 x11 x12 : OB}
theorem Ps.itA {f : Env → M Vl} {env : Env} {x : Vl} {ds : List D} (h : Ps (f env) fun z => z = x) (hv : isV x = false) (h2 : Y.itA x.2 = some ds) : Ps (eItA f env) fun z => z = ds := by
  unfold eItA
  refine Ps.bind h fun z hz => ?_
  subst hz
  rw [hv, if_neg Bool.false_ne_true, h2]
  exact Ps.ok rfl
end
section
variable {ns : List Int} {q : Tk} {x2 x3 x4 x5 x6 x7 x8 x9 x10 x11 x12 : OB}
end
section
variable {ns : List Int} {q : Tk} {x2 x3 x4 x5 x6 x7 x8 x9 x10 x11 x12 : OB}
end
section
variable {ns : List Int} {q : Tk} {x2 x3 x4 x5 x6 x7 x8 x9 x10 x11 x12 : OB}
end
section
variable {ns : List Int} {q : Tk} {x2 x3 x4 x5 x6 x7 x8 x9 x10 x11 x12 : OB}
end
section
variable {ns : List Int} {q : Tk} {x2 x3 x4 x5 x6 x7 x8 x9 x10 x11 x12 : OB}
end
section
variable {ns : List Int} {q : Tk} {x2 x3 x4 x5 x6 x7 x8 x9 x10 x11 x12 : OB}
theorem lt_n {fa : Env → M Vl} {env : Env} {n m : Nat} (h : fa env = .ok (.s, nI n)) : eB (eOp ltD fa (eC (.int (m : Int)))) env = .ok (decide (n < m)) := tB_ok (op_ok (g := ltD) (d := .bl (decide (n < m))) h (show eC (.int (m : Int)) env = .ok (.s, .int (m : Int)) from rfl) (by
  show some (D.bl (decide (((n : Nat) : Int) < ((m : Nat) : Int)))) = _
  congr 2
  rw [decide_eq_decide]
  omega) rfl rfl)
end
theorem min_n (k n : Nat) : minD2 [nI k, nI n] = some (nI (min k n)) := by
  show some (D.int (min (k : Int) (n : Int))) = some (D.int _)
  congr 2
  omega
section
variable {fa fb : Env → M Vl} {env : Env}
end
theorem eLst_ok {fr : Env → M (List Vl)} {env : Env} {xs : List Vl} (h : fr env = .ok xs) (hv : xs.any isV = false) (hl : (dats xs).length ≤ 100000) : eLst fr env = .ok (.o, .lst (dats xs)) := by
  unfold eLst eCO
  rw [h, ok_bind, hv, if_neg Bool.false_ne_true]
  dsimp only
  rw [if_pos hl]
  rfl
theorem lst_3 {f g h : Env → M Vl} {env : Env} {a b c : D} (h1 : f env = .ok (.s, a)) (h2 : g env = .ok (.s, b)) (h3 : h env = .ok (.s, c)) : eLst (eCons f (eCons g (eCons h eNil))) env = .ok (.o, .lst [a, b, c]) := by
  unfold eLst eCO
  rw [cons_ok h1 (cons_ok h2 (cons_ok h3 (show eNil env = .ok [] from rfl)))]
  rfl
theorem rng1_n {f : Env → M Vl} {env : Env} {n : Nat} (h : f env = .ok (.s, .int (n : Int))) (hn : n ≤ 1000) : eRng rngD1 (eCons f eNil) env = .ok ((List.range n).map nI) := by
  rw [eRng1_ok h (by omega) (by omega)]
  have : ((n : Nat) : Int).toNat = n := by omega
  rw [this]
  simp [dInts, rng]
end Y

namespace Y
open PySem PySem.Spec PyProof.Rows L2 Z
section
variable {α : Type} {q : Tk} {c : Nat} {P : α → Prop} {f : Vl → M α}
theorem q_pickL (q : Tk) (ds : List D) : m__law_pick [.drw q, .lst ds] = .take q ds.length fun i => (M.of (atI ds i)).bind fun d => .ok (.s, d) := by
  simp [bodyM, eVar, eC, eOp, eUn, eNil, eCons, eCB, eCO, eCOV, eLst, eTup, eB, eAnd, eOr, eNot, eBv, eAndV, eOrV, eNotV, eIf, eChain, eCall, okA, eTgN, eTgNil, eTgCons, eTgT, eRng, wipeE, noOwn, eLc, eYes, eDc, bNext, bSeq, bRet, bSet, bAsg, bDrop, bIf, bRaise, bFor, frzE, bFrz, setsE, bSets, isiD, tyName, chars, rng_len, eDGet2, eDNew, bApp, ownL, ownD, bDPut, eSl, ePart, eNo, eItA, itA, itD, eIxA, eJoin, isV, iop, cop, subD, modD, fdivD, leD, gtD, geD, eqB, neB, isBlD, notBlD, keyD, isDic, m__law_pick, b__law_pick, lenD, m_take, ixA, ixD]
end
section
variable {α : Type} {q : Tk} {c : Nat} {P : α → Prop} {f : Vl → M α}
theorem q_pickS (q : Tk) {w : List Nat} (hl : w.length ≤ 10000) : m__law_pick [.drw q, .str w] = .take q w.length fun i => (M.of ((atI w i).map fun c => .str [c])).bind fun d => .ok (.s, d) := by
  have hl' : w.length ≤ 10000000 := by omega
  simp [bodyM, eVar, eC, eOp, eUn, eNil, eCons, eCB, eCO, eCOV, eLst, eTup, eB, eAnd, eOr, eNot, eBv, eAndV, eOrV, eNotV, eIf, eChain, eCall, okA, eTgN, eTgNil, eTgCons, eTgT, eRng, wipeE, noOwn, eLc, eYes, eDc, bNext, bSeq, bRet, bSet, bAsg, bDrop, bIf, bRaise, bFor, frzE, bFrz, setsE, bSets, isiD, tyName, chars, rng_len, eDGet2, eDNew, bApp, ownL, ownD, bDPut, eSl, ePart, eNo, eItA, itA, itD, eIxA, eJoin, isV, iop, cop, subD, modD, fdivD, leD, gtD, geD, eqB, neB, isBlD, notBlD, keyD, isDic, m__law_pick, b__law_pick, lenD, m_take, ixA, ixD, hl']
end
section
variable {α : Type} {q : Tk} {c : Nat} {P : α → Prop} {f : Vl → M α}
theorem Dn.pickL {ds : List D} (h0 : ds ≠ []) (hl : ds.length < 1000000000) (h : ∀ d ∈ ds, Dn q c (f (.s, d)) P) : Dn q (c + 1) ((m__law_pick [.drw q, .lst ds]).bind f) P := by
  rw [q_pickL]
  have hp : 0 < ds.length := List.length_pos_iff.mpr h0
  refine Dn.take (by omega) (by omega) fun i a b => ?_
  obtain ⟨d, e, hd⟩ := atI_some a b
  simp only [e]
  exact h d hd
end
section
variable {α : Type} {q : Tk} {c : Nat} {P : α → Prop} {f : Vl → M α}
theorem Dn.pickS {w : List Nat} (h0 : 0 < w.length) (hl : w.length ≤ 10000) (h : ∀ x ∈ w, Dn q c (f (.s, .str [x])) P) : Dn q (c + 1) ((m__law_pick [.drw q, .str w]).bind f) P := by
  rw [q_pickS q hl]
  refine Dn.take (by omega) (by omega) fun i a b => ?_
  obtain ⟨d, e, hd⟩ := atI_some a b
  simp only [e]
  exact h d hd
end
section
variable {q : Tk}
theorem d_signs : Dn q 1 (m__law_signs [.drw q]) fun r => ∃ w, r = (.s, .str w) ∧ Ac w ∧ 0 < w.length ∧ w.length ≤ 10 := by
  simp [bodyM, eVar, eC, eOp, eUn, eNil, eCons, eCB, eCO, eCOV, eLst, eTup, eB, eAnd, eOr, eNot, eBv, eAndV, eOrV, eNotV, eIf, eChain, eCall, okA, eTgN, eTgNil, eTgCons, eTgT, eRng, wipeE, noOwn, eLc, eYes, eDc, bNext, bSeq, bRet, bSet, bAsg, bDrop, bIf, bRaise, bFor, frzE, bFrz, setsE, bSets, isiD, tyName, chars, rng_len, eDGet2, eDNew, bApp, ownL, ownD, bDPut, eSl, ePart, eNo, eItA, itA, itD, eIxA, eJoin, isV, iop, cop, subD, modD, fdivD, leD, gtD, geD, eqB, neB, isBlD, notBlD, keyD, isDic, m__law_signs, b__law_signs]
  refine Dn.pickL (c := 0) (by simp) (by simp) fun d hd => Dn.ok ?_
  simp only [List.mem_cons, List.not_mem_nil, or_false] at hd
  rcases hd with rfl | rfl | rfl | rfl | rfl | rfl | rfl | rfl | rfl | rfl
  all_goals exact ⟨_, rfl, by unfold Ac; decide, by decide, by decide⟩
end
section
variable {q : Tk}
theorem d_letters {w : List Nat} {n : Nat} (hw : Ac w) (h0 : 0 < w.length) (hl : w.length ≤ 1000) (hn : n ≤ 1000) : Dn q n (m__law_letters [.drw q, .str w, .int n]) fun r => ∃ z, r = (.s, .str z) ∧ Ac z ∧ z.length = n := by
  have h1 : (n : Int) ≤ 1000000 := by omega
  have h2 : (-1000000 : Int) ≤ n := by omega
  have h3 : n ≤ 100000 := by omega
  simp [bodyM, eVar, eC, eOp, eUn, eNil, eCons, eCB, eCO, eCOV, eLst, eTup, eB, eAnd, eOr, eNot, eBv, eAndV, eOrV, eNotV, eIf, eChain, eCall, okA, eTgN, eTgNil, eTgCons, eTgT, eRng, wipeE, noOwn, eLc, eYes, eDc, bNext, bSeq, bRet, bSet, bAsg, bDrop, bIf, bRaise, bFor, frzE, bFrz, setsE, bSets, isiD, tyName, chars, rng_len, eDGet2, eDNew, bApp, ownL, ownD, bDPut, eSl, ePart, eNo, eItA, itA, itD, eIxA, eJoin, isV, iop, cop, subD, modD, fdivD, leD, gtD, geD, eqB, neB, isBlD, notBlD, keyD, isDic, m__law_letters, b__law_letters, rngD1, h1, h2, dInts, h3]
  refine (Dn.bind (c1 := (rng 0 n).length * 1) (c2 := 0) (Dn.nox (Dn.lcGo (P := fun d => ∃ z, d = .str z ∧ Ac z ∧ z.length = 1) (fun i => D.int i) (rng 0 n) fun i _ => ⟨_, rfl, rfl, ?_⟩)) fun rs hrs => ?_).le (by rw [rng_len]; omega)
  · simp [bodyM, eVar, eC, eOp, eUn, eNil, eCons, eCB, eCO, eCOV, eLst, eTup, eB, eAnd, eOr, eNot, eBv, eAndV, eOrV, eNotV, eIf, eChain, eCall, okA, eTgN, eTgNil, eTgCons, eTgT, eRng, wipeE, noOwn, eLc, eYes, eDc, bNext, bSeq, bRet, bSet, bAsg, bDrop, bIf, bRaise, bFor, frzE, bFrz, setsE, bSets, isiD, tyName, chars, rng_len, eDGet2, eDNew, bApp, ownL, ownD, bDPut, eSl, ePart, eNo, eItA, itA, itD, eIxA, eJoin, isV, iop, cop, subD, modD, fdivD, leD, gtD, geD, eqB, neB, isBlD, notBlD, keyD, isDic]
    exact Dn.ofB <| Dn.pickS (c := 0) h0 (by omega) fun x hx => Dn.ok ⟨rfl, [x], rfl, fun y hy => by simp at hy; rw [hy]; exact hw x hx, rfl⟩
  · obtain ⟨hlen, hall⟩ := hrs
    obtain ⟨ws, rfl, hws⟩ := strs_all rs _ hall
    obtain ⟨f1, f2⟩ := flat_len ws fun x hx => (hws x hx).2
    have f3 : ws.length = n := by rw [← rng_len 0 n, ← hlen]; simp
    have f4 : (ws.map List.length).sum ≤ 10000000 := by omega
    refine Dn.pure (a := (.s, .str ws.flatten)) ?_ ⟨_, rfl, fun c hc => ?_, by omega⟩
    · simp [bodyM, eVar, eC, eOp, eUn, eNil, eCons, eCB, eCO, eCOV, eLst, eTup, eB, eAnd, eOr, eNot, eBv, eAndV, eOrV, eNotV, eIf, eChain, eCall, okA, eTgN, eTgNil, eTgCons, eTgT, eRng, wipeE, noOwn, eLc, eYes, eDc, bNext, bSeq, bRet, bSet, bAsg, bDrop, bIf, bRaise, bFor, frzE, bFrz, setsE, bSets, isiD, tyName, chars, rng_len, eDGet2, eDNew, bApp, ownL, ownD, bDPut, eSl, ePart, eNo, eItA, itA, itD, eIxA, eJoin, isV, iop, cop, subD, modD, fdivD, leD, gtD, geD, eqB, neB, isBlD, notBlD, keyD, isDic, joinD, f4]
    · obtain ⟨x, hx, hc⟩ := List.mem_flatten.mp hc
      exact (hws x hx).1 c hc
end
theorem range_at {n e y : Nat} {r : List Nat} (h : List.range n = List.range e ++ y :: r) : y = e ∧ e < n := by
  have hlen := congrArg List.length h
  simp at hlen
  have := congrArg (fun l : List Nat => l[e]?) h
  simp at this
  rw [List.getElem?_eq_getElem (by simp; omega)] at this
  simp at this
  omega
theorem range_nx {n e : Nat} {r : List Nat} (h : List.range n = List.range e ++ e :: r) : List.range n = List.range (e + 1) ++ r := by
  rw [h, List.range_succ, List.append_assoc]
  rfl
theorem range_end {n e : Nat} (h : List.range n = List.range e ++ []) : e = n := by
  have := congrArg List.length h
  simp at this
  omega
theorem ixN_nat {n i : Nat} (h : i < n) : ixN n (i : Int) = some i := by
  unfold ixN
  rw [if_pos (by omega), if_pos (by omega)]
  simp
def nstr : D → Bool
  | .non => true
  | .bl _ => true
  | .int _ => true
  | .tup _ => true
  | .lst _ => true
  | .dic _ => true
  | _ => false
def Dv (d : D) : Prop := (∃ z, d = .str z ∧ okS z ∧ z.length ≤ 20) ∨ nstr d = true
def Sg (w : List Nat) : Prop := ∀ c ∈ w, c ∈ [46, 97, 99, 103, 116]
theorem Sg.ok {w : List Nat} (h : Sg w) : okS w := fun c hc => by
  have := h c hc
  simp only [List.mem_cons, List.not_mem_nil, or_false] at this
  omega
theorem Dv.sg {w : List Nat} (h : Sg w) (hl : w.length ≤ 20) : Dv (.str w) := .inl ⟨w, rfl, h.ok, hl⟩
theorem Sg.perm {u w : List Nat} (h : Sg w) (p : u.Perm w) : Sg u := fun c hc => h c (p.mem_iff.mp hc)
theorem Sg.app {u w : List Nat} (h : Sg u) (g : Sg w) : Sg (u ++ w) := fun c hc => by
  rcases List.mem_append.mp hc with hc | hc
  · exact h c hc
  · exact g c hc
theorem Sg.take {w : List Nat} (h : Sg w) (n : Nat) : Sg (w.take n) := fun c hc => h c (List.mem_of_mem_take hc)
theorem Sg.drop {w : List Nat} (h : Sg w) (n : Nat) : Sg (w.drop n) := fun c hc => h c (List.mem_of_mem_drop hc)
section
variable {q : Tk} {w : List Nat} {x2 x3 x4 x5 x6 : Option (Bool × D)}
end
section
variable {q : Tk} {w : List Nat} {x2 x3 x4 x5 x6 : Option (Bool × D)}
end
section
variable {q : Tk} {w : List Nat} {x2 x3 x4 x5 x6 : Option (Bool × D)}
end
section
variable {ns : List Int} {q : Tk} {d : D} {isd r : Bool} {x2 x4 x5 x6 x7 x8 x9 x10 x11 x12 : Option (Bool × D)}
end
section
variable {ns : List Int} {q : Tk} {d : D} {isd r : Bool} {x2 x4 x5 x6 x7 x8 x9 x10 x11 x12 : Option (Bool × D)} {w : List Nat} {m : Nat}
end
theorem q_is_line {w : List Nat} (hl : w.length ≤ 10000) : m_is_line [.str w] = .ok (.s, .bl (lineI w)) := by
  have hl' : w.length ≤ 100000 := by omega
  simp [bodyM, eVar, eC, eOp, eUn, eNil, eCons, eCB, eCO, eCOV, eLst, eTup, eB, eAnd, eOr, eNot, eBv, eAndV, eOrV, eNotV, eIf, eChain, eCall, okA, eTgN, eTgNil, eTgCons, eTgT, eRng, wipeE, noOwn, eLc, eYes, eDc, bNext, bSeq, bRet, bSet, bAsg, bDrop, bIf, bRaise, bFor, frzE, bFrz, setsE, bSets, isiD, tyName, chars, rng_len, eDGet2, eDNew, bApp, ownL, ownD, bDPut, eSl, ePart, eNo, eItA, itA, itD, eIxA, eJoin, isV, iop, cop, subD, modD, fdivD, leD, gtD, geD, eqB, neB, isBlD, notBlD, keyD, isDic, m_is_line, b_is_line, hl', allD]
  rw [lc_map (fun c => D.str [c]) (fun c => D.bl (inS [c] [97, 99, 103, 116])) (fun c => [some (false, D.str w), some (false, D.str [c])]) w]
  · simp [lineI, Function.comp_def]
  · exact fun c hc => ⟨rfl, rfl, .s, by simp [bodyM, eVar, eC, eOp, eUn, eNil, eCons, eCB, eCO, eCOV, eLst, eTup, eB, eAnd, eOr, eNot, eBv, eAndV, eOrV, eNotV, eIf, eChain, eCall, okA, eTgN, eTgNil, eTgCons, eTgT, eRng, wipeE, noOwn, eLc, eYes, eDc, bNext, bSeq, bRet, bSet, bAsg, bDrop, bIf, bRaise, bFor, frzE, bFrz, setsE, bSets, isiD, tyName, chars, rng_len, eDGet2, eDNew, bApp, ownL, ownD, bDPut, eSl, ePart, eNo, eItA, itA, itD, eIxA, eJoin, isV, iop, cop, subD, modD, fdivD, leD, gtD, geD, eqB, neB, isBlD, notBlD, keyD, isDic, inAB, inA, inD], rfl⟩
theorem q_is_word {w : List Nat} (hl : w.length ≤ 10000) : m_is_word [.str w] = .ok (.s, .bl (wordI w)) := by
  have hl' : w.length ≤ 10000000 := by omega
  simp [bodyM, eVar, eC, eOp, eUn, eNil, eCons, eCB, eCO, eCOV, eLst, eTup, eB, eAnd, eOr, eNot, eBv, eAndV, eOrV, eNotV, eIf, eChain, eCall, okA, eTgN, eTgNil, eTgCons, eTgT, eRng, wipeE, noOwn, eLc, eYes, eDc, bNext, bSeq, bRet, bSet, bAsg, bDrop, bIf, bRaise, bFor, frzE, bFrz, setsE, bSets, isiD, tyName, chars, rng_len, eDGet2, eDNew, bApp, ownL, ownD, bDPut, eSl, ePart, eNo, eItA, itA, itD, eIxA, eJoin, isV, iop, cop, subD, modD, fdivD, leD, gtD, geD, eqB, neB, isBlD, notBlD, keyD, isDic, m_is_word, b_is_word, q_is_line hl, lenD, hl', wordI]
  cases lineI w <;> simp
theorem q_need_word {w : List Nat} (hl : w.length ≤ 10000) (h : wordI w = true) : m_need_word [.str w] = .ok (.s, .non) := by
  simp [bodyM, eVar, eC, eOp, eUn, eNil, eCons, eCB, eCO, eCOV, eLst, eTup, eB, eAnd, eOr, eNot, eBv, eAndV, eOrV, eNotV, eIf, eChain, eCall, okA, eTgN, eTgNil, eTgCons, eTgT, eRng, wipeE, noOwn, eLc, eYes, eDc, bNext, bSeq, bRet, bSet, bAsg, bDrop, bIf, bRaise, bFor, frzE, bFrz, setsE, bSets, isiD, tyName, chars, rng_len, eDGet2, eDNew, bApp, ownL, ownD, bDPut, eSl, ePart, eNo, eItA, itA, itD, eIxA, eJoin, isV, iop, cop, subD, modD, fdivD, leD, gtD, geD, eqB, neB, isBlD, notBlD, keyD, isDic, m_need_word, b_need_word, q_is_word hl, h]
section
variable {α : Type} {fo : Env → M Vl} {env : Env} {md : Md} {a : Addr} {C : Str} {fs : List (Str × D)} {f : Str} {d : D} {dr : Dr} {K : Vl → M α} {Q : Dr → α → Prop}
theorem Wt.eFld (h : Has dr a (.ins C fs)) (h1 : fo env = .ok (.s, .rf a)) (h2 : fldD CTB f (.ins C fs) = some d) (w : Wt dr (K (.s, d)) Q) : Wt dr ((eFld CTB f fo env).bind K) Q := by
  unfold Y.eFld
  rw [h1, ok_bind]
  show Wt dr ((M.get a fun d => (M.of (fldD CTB f d)).bind fun x => .ok (.s, x)).bind K) Q
  refine Wt.get h ?_
  dsimp only
  rw [h2]
  exact w
end
section
variable {α : Type} {fo fe fk fx fj : Env → M Vl} {env : Env} {a b : Addr} {C : Str} {fs : List (Str × D)} {f : Str} {d e : D} {q : Ky} {es : List (Ky × D)} {ds : List D} {kr : Vl} {dr : Dr} {K : Vl → M α} {Q : Dr → α → Prop} {Q2 : Dr → Out → Prop}
end
section
variable {α : Type} {fo fe fk fx fj : Env → M Vl} {env : Env} {a b : Addr} {C : Str} {fs : List (Str × D)} {f : Str} {d e : D} {q : Ky} {es : List (Ky × D)} {ds : List D} {kr : Vl} {dr : Dr} {K : Vl → M α} {Q : Dr → α → Prop} {Q2 : Dr → Out → Prop}
end
section
variable {α : Type} {fo fe fk fx fj : Env → M Vl} {env : Env} {a b : Addr} {C : Str} {fs : List (Str × D)} {f : Str} {d e : D} {q : Ky} {es : List (Ky × D)} {ds : List D} {kr : Vl} {dr : Dr} {K : Vl → M α} {Q : Dr → α → Prop} {Q2 : Dr → Out → Prop}
end
theorem Wt.forGo {α : Type} {tg : D → Env → Option Env} {fb : Env → M Out} {dr : Dr} {env : Env} {J : List α → Dr → Env → Prop} {xs : List α} (F : α → D) (h0 : J xs dr env) (hb : ∀ x r dr e, J (x :: r) dr e → ∃ e1, tg (F x) e = some e1 ∧ Wt dr (fb e1) fun dr' o => ∃ e2, o = .nx e2 ∧ J r dr' e2) : Wt dr (Y.forGo tg fb (xs.map F) env) fun dr' o => ∃ e, o = .nx e ∧ J [] dr' e :=
  ⟨fun n => wp_forGo F (fun x r dr1 e he => by
    obtain ⟨e1, h1, h2⟩ := hb x r dr1 e he
    exact ⟨e1, h1, h2.run n⟩) xs dr env h0⟩
structure Mat (w o : List Nat) (at_ n m : Nat) : Prop where
  le : m ≤ n
  oc : Oc w (subW o at_ m)
  mx : ∀ k, k ≤ n → Oc w (subW o at_ k) → k ≤ m
theorem Mat.eq {w o : List Nat} {at_ n m k : Nat} (a : Mat w o at_ n m) (b : Mat w o at_ n k) : m = k := by
  have := a.mx k b.le b.oc
  have := b.mx m a.le a.oc
  omega
theorem atI_0 {α : Type} (x : α) (xs : List α) : atI (x :: xs) 0 = some x := by
  have := atI_nat (x :: xs) 0
  simpa using this
section
variable {dr : Dr} {env : Env} {fe fa fx fy : Env → M Vl} {fl : Env → M (List Vl)} {f g : Env → M Out}
end
section
variable {dr : Dr} {env : Env} {fe fa fx fy : Env → M Vl} {fl : Env → M (List Vl)} {f g : Env → M Out}
theorem Wt.set {Q : Dr → Out → Prop} {i : Nat} (h : Wt dr (fe env) fun dr' r => ∃ d, r = (.s, d) ∧ Q dr' (.nx (env.set i (some (false, d))))) : Wt dr (bSet i fe env) Q := by
  unfold bSet
  refine Wt.bind h fun dr' r hr => ?_
  obtain ⟨d, rfl, hq⟩ := hr
  exact Wt.ok hq
end
section
variable {dr : Dr} {env : Env} {fe fa fx fy : Env → M Vl} {fl : Env → M (List Vl)} {f g : Env → M Out}
end
section
variable {dr : Dr} {env : Env} {fe fa fx fy : Env → M Vl} {fl : Env → M (List Vl)} {f g : Env → M Out}
end
section
variable {dr : Dr} {env : Env} {fe fa fx fy : Env → M Vl} {fl : Env → M (List Vl)} {f g : Env → M Out}
end
section
variable {q : Tk}
end
abbrev BW : Ex := ⟨"BadWord", []⟩
theorem Ps.new {α : Type} {P : α → Prop} {d : D} {k : Addr → M α} (h : ∀ a, Ps (k a) P) : Ps (.new d k) P := Ps.ofW fun dr => Wt.new fun a _ => Wt.mono (h a).wt fun dr' x hx => ⟨((Sub.refl dr).cons _).trans hx.1, hx.2⟩
section
variable {w : List Nat} {d : D}
end
section
variable {w : List Nat} {d : D}
end
section
variable {w : List Nat} {d : D}
theorem makeK_eq {C : Str} {m : List D → M Vl} {fa : Env → M (List Vl)} {env : Env} (ha : fa env = .ok [(.s, d)]) : eMakeK C 1 [0, 1] m fa env = eMake C m fa env := by
  unfold eMakeK eMake
  rw [ha, ok_bind, ok_bind]
  have ho : okA [((Md.s, d) : Vl)] = true := rfl
  rw [if_pos ho, if_pos ⟨rfl, ho⟩]
  rfl
end
section
variable {w : List Nat} {d : D}
end
section
variable {w : List Nat} {d : D}
end
section
variable {ns : List Int} {q : Tk} {w : List Nat} {d : D} {x2 x3 x6 x7 x8 x9 x10 x11 x12 x13 : Option (Bool × D)}
end
section
variable {z : List Nat}
end
section
variable {z : List Nat}
end
section
variable {z : List Nat}
end
section
variable {z : List Nat}
end
section
variable {z : List Nat}
end
section
variable {z : List Nat}
end
section
variable {z : List Nat}
end
section
variable {z : List Nat}
end
section
variable {z : List Nat}
end
section
variable {t : List Nat}
end
section
variable {t : List Nat}
end
section
variable {t : List Nat}
end
section
variable {t : List Nat}
end
section
variable {t : List Nat}
end
section
variable {t : List Nat}
end
section
variable {t : List Nat}
end
section
variable {t : List Nat}
end
section
variable {q : Tk} {env : Env} {w : List Nat} {k : Nat}
end
section
variable {q : Tk} {env : Env} {w : List Nat} {k : Nat}
end
section
variable {q : Tk} {env : Env} {w : List Nat} {k : Nat}
end
def OddOk (d : D) : Prop := (∃ z : List Nat, d = .str z ∧ z.length ≤ 100 ∧ okS z) ∨ (m_is_word [d] = .ok (.s, .bl false) ∧ isiD XT [d, .ty "str"] = some (.bl false))
theorem odd_ok : ∀ d ∈ oddL, OddOk d := by
  intro d hd
  simp only [oddL, List.mem_cons, List.not_mem_nil, or_false] at hd
  rcases hd with rfl | rfl | rfl | rfl | rfl | rfl | rfl | rfl | rfl | rfl | rfl | rfl | rfl | rfl | rfl | rfl | rfl | rfl | rfl | rfl | rfl | rfl <;> first
    | exact .inl ⟨_, rfl, by decide, by unfold okS; decide⟩
    | exact .inr ⟨by kernel_rfl, by simp [bodyM, eVar, eC, eOp, eUn, eNil, eCons, eCB, eCO, eCOV, eLst, eTup, eB, eAnd, eOr, eNot, eBv, eAndV, eOrV, eNotV, eIf, eChain, eCall, okA, eTgN, eTgNil, eTgCons, eTgT, eRng, wipeE, noOwn, eLc, eYes, eDc, bNext, bSeq, bRet, bSet, bAsg, bDrop, bIf, bRaise, bFor, frzE, bFrz, setsE, bSets, isiD, tyName, chars, rng_len, eDGet2, eDNew, bApp, ownL, ownD, bDPut, eSl, ePart, eNo, eItA, itA, itD, eIxA, eJoin, isV, iop, cop, subD, modD, fdivD, leD, gtD, geD, eqB, neB, isBlD, notBlD, keyD, isDic]⟩
def TxL (v : D) (ws : List (List Nat)) : Prop := v = .lst (ws.map .str) ∨ v = .tup (ws.map .str)
theorem TxL.it {v : D} {ws : List (List Nat)} (h : TxL v ws) {i : Nat} {env : Env} (he : eVar i env = .ok (.s, v)) : eItA (eVar i) env = .ok (ws.map .str) := by
  unfold eItA
  rcases h with rfl | rfl <;> rw [he] <;> rfl
section
variable {q : Tk} {env : Env} {w : List Nat}
theorem d_pickN {s : Nat} {fl : Env → M Vl} {ds : List D} {m : Md} (h1 : eVar s env = .ok (.s, .drw q)) (h2 : fl env = .ok (m, .lst ds)) (hm : isV (m, D.lst ds) = false) (h0 : ds ≠ []) (hl : ds.length < 1000000000) : Dn q 1 (eCall m__law_pick (eCons (eVar s) (eCons fl eNil)) env) fun r => ∃ d ∈ ds, r = (.s, d) := by
  have ok : okA [(Md.s, D.drw q), (m, D.lst ds)] = true := by cases m <;> first | rfl | cases hm
  have c1 : eCall m__law_pick (eCons (eVar s) (eCons fl eNil)) env = m__law_pick [.drw q, .lst ds] := call_ok (cons_ok h1 (cons_ok h2 (show eNil _ = .ok [] from rfl))) ok rfl
  rw [c1]
  exact Dn.ofB (Dn.pickL (c := 0) h0 hl fun d hd => Dn.ok ⟨d, hd, rfl⟩)
end
section
variable {q : Tk} {w u : List Nat} {dd de dx : D} {x5 x6 x7 x8 x9 x10 : Option (Bool × D)} {a : Nat}
end
section
variable {q : Tk} {w u : List Nat} {dd de dx : D} {x5 x6 x7 x8 x9 x10 : Option (Bool × D)} {a : Nat}
end
section
variable {q : Tk}
theorem d_odd : Dn q 1 (m__law_odd [.drw q]) fun r => ∃ d ∈ oddL, r = (.s, d) := by
  have e1 : CPow 10 30 := by decide
  simp [bodyM, eVar, eC, eOp, eUn, eNil, eCons, eCB, eCO, eCOV, eLst, eTup, eB, eAnd, eOr, eNot, eBv, eAndV, eOrV, eNotV, eIf, eChain, eCall, okA, eTgN, eTgNil, eTgCons, eTgT, eRng, wipeE, noOwn, eLc, eYes, eDc, bNext, bSeq, bRet, bSet, bAsg, bDrop, bIf, bRaise, bFor, frzE, bFrz, setsE, bSets, isiD, tyName, chars, rng_len, eDGet2, eDNew, bApp, ownL, ownD, bDPut, eSl, ePart, eNo, eItA, itA, itD, eIxA, eJoin, isV, iop, cop, subD, modD, fdivD, leD, gtD, geD, eqB, neB, isBlD, notBlD, keyD, isDic, m__law_odd, b__law_odd, negD, powD, e1, eDisp, ePairs, mrgD, putD, addD]
  refine Dn.pickL (c := 0) (by simp) (by simp) fun d hd => Dn.ok ⟨d, ?_, rfl⟩
  exact hd
end
theorem q_is_between (i lo hi : Int) : m_is_between [.int i, .int lo, .int hi] = .ok (.s, .bl (decide (lo ≤ i) && decide (i ≤ hi))) := by
  simp [bodyM, eVar, eC, eOp, eUn, eNil, eCons, eCB, eCO, eCOV, eLst, eTup, eB, eAnd, eOr, eNot, eBv, eAndV, eOrV, eNotV, eIf, eChain, eCall, okA, eTgN, eTgNil, eTgCons, eTgT, eRng, wipeE, noOwn, eLc, eYes, eDc, bNext, bSeq, bRet, bSet, bAsg, bDrop, bIf, bRaise, bFor, frzE, bFrz, setsE, bSets, isiD, tyName, chars, rng_len, eDGet2, eDNew, bApp, ownL, ownD, bDPut, eSl, ePart, eNo, eItA, itA, itD, eIxA, eJoin, isV, iop, cop, subD, modD, fdivD, leD, gtD, geD, eqB, neB, isBlD, notBlD, keyD, isDic, m_is_between, b_is_between, m_is_integer, b_is_integer]
  by_cases h : lo ≤ i <;> simp [h]
theorem q_need_length {n : Nat} (h0 : 0 < n) (hn : n ≤ 120) : m_need_length [.int (n : Int)] = .ok (.s, .non) := by
  have h1 : (1 : Int) ≤ n := by omega
  have h2 : (n : Int) ≤ 120 := by omega
  simp [bodyM, eVar, eC, eOp, eUn, eNil, eCons, eCB, eCO, eCOV, eLst, eTup, eB, eAnd, eOr, eNot, eBv, eAndV, eOrV, eNotV, eIf, eChain, eCall, okA, eTgN, eTgNil, eTgCons, eTgT, eRng, wipeE, noOwn, eLc, eYes, eDc, bNext, bSeq, bRet, bSet, bAsg, bDrop, bIf, bRaise, bFor, frzE, bFrz, setsE, bSets, isiD, tyName, chars, rng_len, eDGet2, eDNew, bApp, ownL, ownD, bDPut, eSl, ePart, eNo, eItA, itA, itD, eIxA, eJoin, isV, iop, cop, subD, modD, fdivD, leD, gtD, geD, eqB, neB, isBlD, notBlD, keyD, isDic, m_need_length, b_need_length, q_is_between, h1, h2]
end Y

namespace Y
open PySem PySem.Spec PyProof.Rows L2 Z
structure Pe {α : Type} (m : M α) (P : α → Prop) (X : Ex → Prop) : Prop where
  run : ∀ dr n, wp dr n m (fun dr' n' a => Sub dr dr' ∧ n' = n ∧ P a) (fun dr' n' x => Sub dr dr' ∧ n' = n ∧ X x)
section
variable {α β : Type} {q : Tk} {c : Nat} {m : M α} {P P' : α → Prop} {X X' : Ex → Prop} {R : β → Prop} {f : α → M β}
theorem Pe.ok {a : α} (h : P a) : Pe (.ok a) P X := ⟨fun dr n => ⟨Sub.refl _, rfl, h⟩⟩
theorem Pe.raise {x : Ex} (h : X x) : Pe (.raise x : M α) P X := ⟨fun dr n => ⟨Sub.refl _, rfl, h⟩⟩
theorem Pe.bind (h : Pe m P X) (hf : ∀ a, P a → Pe (f a) R X) : Pe (m.bind f) R X := ⟨fun dr n => by
  refine wp_bind.mpr (wp_mono (h.run dr n) (fun dr' n' a ⟨e, b, d⟩ => ?_) fun _ _ _ e => e)
  subst b
  exact wp_mono ((hf a d).run dr' n') (fun _ _ _ ⟨a, b, d⟩ => ⟨e.trans a, b, d⟩) fun _ _ _ ⟨a, b, d⟩ => ⟨e.trans a, b, d⟩⟩
theorem Pe.mono (h : Pe m P X) (hp : ∀ a, P a → P' a) (hx : ∀ x, X x → X' x) : Pe m P' X' := ⟨fun dr n => wp_mono (h.run dr n) (fun _ _ _ ⟨a, b, d⟩ => ⟨a, b, hp _ d⟩) fun _ _ _ ⟨a, b, d⟩ => ⟨a, b, hx _ d⟩⟩
end
section
variable {f g : Env → M Out} {env e' : Env} {P : Out → Prop} {R : Env → Prop} {X : Ex → Prop}
theorem Pe.seq (h : Pe (f env) (fun o => ∃ e, o = .nx e ∧ R e) X) (hg : ∀ e, R e → Pe (g e) P X) : Pe (bSeq f g env) P X := by
  unfold bSeq
  refine Pe.bind h fun o ho => ?_
  obtain ⟨e, rfl, he⟩ := ho
  exact hg e he
theorem Pe.body {ar N : Nat} {b : Env → M Out} {ds : List D} {P : Vl → Prop} (hl : ds.length = ar) (h : Pe (b (ds.map (fun d => some (false, d)) ++ List.replicate (N - ar) none)) (fun o => ∃ v, o = .rt v ∧ P v) X) : Pe (bodyM ar N b ds) P X := by
  unfold bodyM
  rw [if_pos hl]
  refine Pe.bind h fun o ho => ?_
  obtain ⟨v, rfl, hv⟩ := ho
  exact Pe.ok hv
end
end Y

namespace Y
open PySem PySem.Spec PyProof.Rows L2 Z
abbrev aS : List Nat := [97, 100, 100]
abbrev kS : List Nat := [115, 116, 114, 105, 107, 101]
abbrev mS : List Nat := [109, 101, 110, 100]
abbrev uS : List Nat := [117, 110, 100, 111]
inductive Deed
  | add (w : List Nat)
  | strike (n : Nat)
  | mend (n : Nat) (w : List Nat)
def ddD : Deed → D
  | .add w => .tup [.str aS, .str w]
  | .strike n => .tup [.str kS, nI n]
  | .mend n w => .tup [.str mS, nI n, .str w]
def cn : List Deed → Nat
  | [] => 0
  | .add _ :: rs => cn rs + 1
  | .strike _ :: rs => cn rs
  | .mend _ _ :: rs => cn rs
abbrev Ks : Type := List (Nat × List Nat)
def Kn : List Deed → Ks
  | [] => []
  | .add w :: rs => Kn rs ++ [(cn rs, w)]
  | .strike n :: rs => (Kn rs).filter fun e => decide (e.1 ≠ n)
  | .mend n w :: rs => (Kn rs).map fun e => if e.1 = n then (e.1, w) else e
def kD (ks : Ks) : List (Ky × D) := ks.map fun e => (.inl (e.1 : Int), .str e.2)
def has (ks : Ks) (n : Nat) : Bool := ks.any fun e => decide (e.1 = n)
def Va : List Deed → Prop
  | [] => True
  | .add w :: rs => Va rs ∧ wordI w = true ∧ w.length ≤ 100 ∧ (Kn rs).length < 20
  | .strike n :: rs => Va rs ∧ has (Kn rs) n = true
  | .mend n w :: rs => Va rs ∧ wordI w = true ∧ w.length ≤ 100 ∧ has (Kn rs) n = true
theorem Va.tail {d : Deed} {rs : List Deed} (h : Va (d :: rs)) : Va rs := by
  cases d <;> exact h.1
theorem kn_asc : ∀ rs : List Deed, (Kn rs).Pairwise (fun e f => e.1 < f.1) ∧ ∀ e ∈ Kn rs, e.1 < cn rs
  | [] => ⟨.nil, fun _ h => nomatch h⟩
  | .add w :: rs => by
    obtain ⟨h1, h2⟩ := kn_asc rs
    refine ⟨List.pairwise_append.mpr ⟨h1, .cons (fun _ h => nomatch h) .nil, fun e he f hf => ?_⟩, fun e he => ?_⟩
    · rw [List.mem_singleton.mp hf]; exact h2 e he
    · show e.1 < cn rs + 1
      rcases List.mem_append.mp he with he | he
      · have := h2 e he; omega
      · rw [List.mem_singleton.mp he]; exact Nat.lt_succ_self _
  | .strike n :: rs => by
    obtain ⟨h1, h2⟩ := kn_asc rs
    exact ⟨h1.filter _, fun e he => h2 e (List.mem_filter.mp he).1⟩
  | .mend n w :: rs => by
    obtain ⟨h1, h2⟩ := kn_asc rs
    have fst : ∀ e : Nat × List Nat, (if e.1 = n then (e.1, w) else e).1 = e.1 := fun e => by split <;> rfl
    refine ⟨?_, fun e he => ?_⟩
    · show ((Kn rs).map _).Pairwise _
      rw [List.pairwise_map]
      refine h1.imp fun {a b} h => ?_
      rw [fst, fst]; exact h
    · obtain ⟨f, hf, rfl⟩ := List.mem_map.mp he
      rw [fst]; exact h2 f hf
theorem kn_small : ∀ {rs : List Deed}, Va rs → (Kn rs).length ≤ 20 ∧ ∀ e ∈ Kn rs, wordI e.2 = true ∧ e.2.length ≤ 100
  | [], _ => ⟨Nat.zero_le _, fun _ h => nomatch h⟩
  | .add w :: rs, h => by
    obtain ⟨h1, h2⟩ := kn_small h.1
    refine ⟨?_, fun e he => ?_⟩
    · show (Kn rs ++ [(cn rs, w)]).length ≤ 20
      rw [List.length_append]
      have := h.2.2.2
      simp; omega
    · rcases List.mem_append.mp he with he | he
      · exact h2 e he
      · rw [List.mem_singleton.mp he]; exact ⟨h.2.1, h.2.2.1⟩
  | .strike n :: rs, h => by
    obtain ⟨h1, h2⟩ := kn_small h.1
    exact ⟨Nat.le_trans (List.length_filter_le ..) h1, fun e he => h2 e (List.mem_filter.mp he).1⟩
  | .mend n w :: rs, h => by
    obtain ⟨h1, h2⟩ := kn_small h.1
    refine ⟨by show ((Kn rs).map _).length ≤ 20; rw [List.length_map]; exact h1, fun e he => ?_⟩
    obtain ⟨f, hf, rfl⟩ := List.mem_map.mp he
    by_cases hn : f.1 = n
    · rw [if_pos hn]; exact ⟨h.2.1, h.2.2.1⟩
    · rw [if_neg hn]; exact h2 f hf
theorem kD_any (ks : Ks) (n : Nat) : (kD ks).any (fun e => decide (e.1 = .inl (n : Int))) = has ks n := by
  unfold kD has
  rw [List.any_map]
  congr 1
  funext e
  simp; omega
theorem kD_get (ks : Ks) (n : Nat) : (getD (kD ks) (.inl (n : Int))).isSome = has ks n := by
  rw [← kD_any]
  unfold getD
  rw [Option.isSome_map]
  exact Bool.eq_iff_iff.mpr (by rw [List.find?_isSome, List.any_eq_true])
theorem put_add {rs : List Deed} {w : List Nat} : putD (kD (Kn rs)) (.inl (cn rs : Int)) (.str w) = kD (Kn (.add w :: rs)) := by
  have h : has (Kn rs) (cn rs) = false := by
    unfold has
    rw [List.any_eq_false]
    intro e he
    have := (kn_asc rs).2 e he
    simp; omega
  unfold putD
  rw [kD_any, h, if_neg (by simp)]
  show _ = kD (Kn rs ++ [(cn rs, w)])
  unfold kD
  rw [List.map_append]
  rfl
theorem put_mend {rs : List Deed} {n : Nat} {w : List Nat} (h : has (Kn rs) n = true) : putD (kD (Kn rs)) (.inl (n : Int)) (.str w) = kD (Kn (.mend n w :: rs)) := by
  unfold putD
  rw [kD_any, h, if_pos rfl]
  show _ = kD ((Kn rs).map _)
  unfold kD
  rw [List.map_map, List.map_map]
  apply List.map_congr_left
  intro e _
  by_cases he : e.1 = n
  · simp [he]
  · have : ((e.1 : Int)) ≠ n := by omega
    simp [he, this]
theorem drop_strike {rs : List Deed} {n : Nat} : dropD (kD (Kn rs)) (.inl (n : Int)) = kD (Kn (.strike n :: rs)) := by
  unfold dropD
  show _ = kD ((Kn rs).filter _)
  unfold kD
  rw [List.filter_map]
  congr 1
  apply List.filter_congr
  intro e _
  simp; omega
abbrev EB (x : D) (ks : Ks) (n : Nat) (y : Option (Bool × D)) : Env := [some (false, x), some (true, .dic (kD ks)), some (false, nI n), y]
theorem word_at {x : D} {a : List Nat} {i : Nat} {env : Env} {ds : List D} (h : eVar i env = .ok (.s, .tup ds)) (h2 : ds.head? = some (.str a)) : eIxA (eVar i) (eC (.int 0)) env = .ok (.s, .str a) := by
  obtain ⟨rest, rfl⟩ := List.head?_eq_some_iff.mp h2
  unfold eIxA
  rw [h, ok_bind]
  show (M.of (atI (D.str a :: rest) 0)).bind _ = _
  rw [atI_0]
  rfl
theorem is_word_at {a b : List Nat} {i : Nat} {env : Env} {ds : List D} (h : eVar i env = .ok (.s, .tup ds)) (h2 : ds.head? = some (.str a)) : eB (eOp eqB (eIxA (eVar i) (eC (.int 0))) (eC (.str b))) env = .ok (decide (a = b)) := tB_ok (op_ok (y := (.s, .str b)) (word_at (x := .non) h h2) rfl (by show (eqD _ _).map _ = _; rw [eqD_ss]; rfl) rfl rfl)
theorem sb_step {x : D} {rs : List Deed} {d : Deed} (h : Va (d :: rs)) : b_standing_behind_1 (EB x (Kn rs) (cn rs) (some (false, ddD d))) = .ok (.nx (EB x (Kn (d :: rs)) (cn (d :: rs)) (some (false, ddD d)))) := by
  have hl := (kn_small h.tail).1
  have hl2 : ¬ 1000000 ≤ (kD (Kn rs)).length := by unfold kD; rw [List.length_map]; omega
  unfold b_standing_behind_1
  cases d with
  | add w =>
    rw [bIf_t (is_word_at (a := aS) (b := aS) (ds := [.str aS, .str w]) rfl rfl)]
    refine seq_run (e' := EB x (Kn (.add w :: rs)) (cn rs) (some (false, ddD (.add w)))) ?_ rfl
    have e1 : eIxA (eVar 3) (eC (.int 1)) (EB x (Kn rs) (cn rs) (some (false, ddD (.add w)))) = .ok (.s, .str w) := rfl
    unfold bDPut
    rw [e1, ok_bind]
    show (if isV ((Md.s, D.str w) : Vl) || decide (1000000 ≤ (kD (Kn rs)).length) then M.bad else M.ok (Out.nx ((EB x (Kn rs) (cn rs) (some (false, ddD (.add w)))).set 1 (some (true, .dic (putD (kD (Kn rs)) (.inl (cn rs : Int)) (.str w))))))) = _
    rw [if_neg (by simp [isV, hl2]), put_add]
    rfl
  | strike n =>
    rw [bIf_f (is_word_at (a := kS) (b := aS) (ds := [.str kS, nI n]) rfl rfl), bIf_t (is_word_at (a := kS) (b := kS) (ds := [.str kS, nI n]) rfl rfl)]
    unfold bDPop
    show (if (getD (kD (Kn rs)) (.inl (n : Int))).isSome then M.ok (Out.nx ((EB x (Kn rs) (cn rs) (some (false, ddD (.strike n)))).set 1 (some (true, .dic (dropD (kD (Kn rs)) (.inl (n : Int))))))) else M.bad) = _
    rw [kD_get, h.2, if_pos rfl, drop_strike]
    rfl
  | mend n w =>
    rw [bIf_f (is_word_at (a := mS) (b := aS) (ds := [.str mS, nI n, .str w]) rfl rfl), bIf_f (is_word_at (a := mS) (b := kS) (ds := [.str mS, nI n, .str w]) rfl rfl)]
    unfold bDPut
    show (if isV ((Md.s, D.str w) : Vl) || decide (1000000 ≤ (kD (Kn rs)).length) then M.bad else M.ok (Out.nx ((EB x (Kn rs) (cn rs) (some (false, ddD (.mend n w)))).set 1 (some (true, .dic (putD (kD (Kn rs)) (.inl (n : Int)) (.str w))))))) = _
    rw [if_neg (by simp [isV, hl2]), put_mend h.2.2.2]
    rfl
def dsD (rs : List Deed) : List D := rs.reverse.map ddD
theorem va_app : ∀ {a b : List Deed}, Va (a ++ b) → Va b
  | [], _, h => h
  | _ :: _, _, h => va_app h.tail
theorem q_standing {rs : List Deed} (h : Va rs) : m_standing_behind [.tup (dsD rs)] = .ok (.o, .dic (kD (Kn rs))) := by
  refine body_run rfl ?_
  show b_standing_behind [some (false, .tup (dsD rs)), none, none, none] = _
  unfold b_standing_behind
  refine seq_run (e' := EB (.tup (dsD rs)) (Kn []) (cn []) none) rfl ?_
  obtain ⟨e, h1, done, y, e1, h2⟩ := for_run (fi := eItA (eVar 0)) (tg := eTgN 3) (fb := b_standing_behind_1) (xs := rs.reverse) (env := EB (.tup (dsD rs)) (Kn []) (cn []) none) (J := fun todo e => ∃ (done : List Deed) (y : Option (Bool × D)), rs = todo.reverse ++ done ∧ e = EB (.tup (dsD rs)) (Kn done) (cn done) y) ddD rfl ⟨[], none, by simp, rfl⟩ (by
    rintro d r e ⟨done, y, e1, rfl⟩
    have hv : Va (d :: done) := by
      have : rs = r.reverse ++ (d :: done) := by rw [e1]; simp
      rw [this] at h
      exact va_app h
    exact ⟨_, _, rfl, sb_step hv, d :: done, _, by rw [e1]; simp, rfl⟩)
  rw [show done = rs by simpa using e1.symm] at h2
  refine seq_run h1 ?_
  subst h2
  rfl
end Y

namespace Y
open PySem PySem.Spec PyProof.Rows L2 Z
def rn {α : Type} (a : Addr) : D → M α → Option (D × (α ⊕ Ex))
  | s, .ok x => some (s, .inl x)
  | s, .raise e => some (s, .inr e)
  | s, .get b k => if b = a then rn a s (k s) else none
  | _, .put b d k => if b = a then rn a d k else none
  | _, _ => none
def endR {α : Type} (P : α → Prop) (X : Ex → Prop) : α ⊕ Ex → Prop
  | .inl x => P x
  | .inr e => X e
def SubX (a : Addr) (dr dr' : Dr) : Prop := ∀ i ∈ dr, (∀ d, i ≠ .inr (a, d)) → i ∈ dr'
theorem SubX.refl {a : Addr} (dr : Dr) : SubX a dr dr := fun _ h _ => h
theorem SubX.trans {a : Addr} {d1 d2 d3 : Dr} (h : SubX a d1 d2) (g : SubX a d2 d3) : SubX a d1 d3 := fun i hi hn => g i (h i hi hn) hn
theorem SubX.put {a : Addr} (dr : Dr) (d : D) : SubX a dr (putS dr a d) := fun i hi hn => by
  rw [putS_eq]
  have := List.mem_map_of_mem (f := putI a d) hi
  cases i with
  | inl q => exact this
  | inr p =>
    obtain ⟨b, e⟩ := p
    have hb : b ≠ a := fun z => hn e (by rw [z])
    simpa [putI, hb] using this
theorem SubX.of {a : Addr} {dr dr' : Dr} (h : Sub dr dr') : SubX a dr dr' := fun i hi _ => h i hi
section
variable {α β : Type} {a : Addr} {s s' : D} {m : M α} {f : α → M β}
theorem rn_bind : rn a s (m.bind f) = (rn a s m).bind fun p => match p.2 with | .inl x => rn a p.1 (f x) | .inr e => some (p.1, .inr e) := by
  induction m generalizing s with
  | ok x => rfl
  | raise e => rfl
  | bad => rfl
  | take q t k ih => rfl
  | beg k ih => rfl
  | new d k ih => rfl
  | get b k ih =>
    show (if b = a then rn a s ((k s).bind f) else none) = (if b = a then rn a s (k s) else none).bind _
    by_cases h : b = a
    · rw [if_pos h, if_pos h]; exact ih s
    · rw [if_neg h, if_neg h]; rfl
  | put b d k ih =>
    show (if b = a then rn a d (k.bind f) else none) = (if b = a then rn a d k else none).bind _
    by_cases h : b = a
    · rw [if_pos h, if_pos h]; exact ih
    · rw [if_neg h, if_neg h]; rfl
  | frz d k ih => rfl
theorem rn_wp {r : α ⊕ Ex} {n : Nat} {Q : Dr → Nat → α → Prop} {X : Dr → Nat → Ex → Prop} {dr : Dr} (h : rn a s m = some (s', r)) (hs : Has dr a s) (hq : ∀ dr', SubX a dr dr' → Has dr' a s' → endR (Q dr' n) (X dr' n) r) : wp dr n m Q X := by
  induction m generalizing s dr with
  | ok x => cases h; exact hq dr (SubX.refl _) hs
  | raise e => cases h; exact hq dr (SubX.refl _) hs
  | bad => cases h
  | take q t k ih => cases h
  | beg k ih => cases h
  | new d k ih => cases h
  | get b k ih =>
    have h : (if b = a then rn a s (k s) else none) = some (s', r) := h
    by_cases e : b = a
    · rw [if_pos e] at h
      subst e
      exact ⟨s, hs, ih s h hs hq⟩
    · rw [if_neg e] at h; cases h
  | put b d k ih =>
    have h : (if b = a then rn a d k else none) = some (s', r) := h
    by_cases e : b = a
    · rw [if_pos e] at h
      subst e
      exact ⟨⟨s, hs⟩, ih h hs.put fun dr' h1 h2 => hq dr' ((SubX.put dr d).trans h1) h2⟩
    · rw [if_neg e] at h; cases h
  | frz d k ih => cases h
theorem rn_run {x : α} (h : rn a s m = some (s', .inl x)) : rn a s (m.bind f) = rn a s' (f x) := by rw [rn_bind, h]; rfl
theorem rn_err {e : Ex} (h : rn a s m = some (s', .inr e)) : rn a s (m.bind f) = some (s', .inr e) := by rw [rn_bind, h]; rfl
theorem rn_of {x : α} (h : m = .ok x) : rn a s m = some (s, .inl x) := by rw [h]; rfl
end
section
variable {a : Addr} {s s' : D} {env e' : Env} {tab : List (Str × Str)} {g : Str}
theorem rn_fld {fo : Env → M Vl} {d : D} (h1 : fo env = .ok (.s, .rf a)) (h2 : fldD tab g s = some d) : rn a s (eFld tab g fo env) = some (s, .inl (.s, d)) := by
  unfold eFld
  rw [h1, ok_bind]
  show (if a = a then rn a s ((M.of (fldD tab g s)).bind fun x => .ok ((Md.s, x) : Vl)) else none) = _
  rw [if_pos rfl, h2]
  rfl
theorem rn_op {h : D → D → Option D} {fa fb : Env → M Vl} {x y : Vl} {d : D} (h1 : rn a s (fa env) = some (s, .inl x)) (h2 : rn a s (fb env) = some (s, .inl y)) (h3 : h x.2 y.2 = some d) (v1 : isV x = false) (v2 : isV y = false) : rn a s (eOp h fa fb env) = some (s, .inl (.s, d)) := by
  unfold eOp
  rw [rn_run h1, rn_run h2, h3, of_some, ok_bind, v1, v2]
  rfl
theorem rn_cons {fa : Env → M Vl} {fr : Env → M (List Vl)} {x : Vl} {xs : List Vl} (h1 : rn a s (fa env) = some (s, .inl x)) (h2 : rn a s (fr env) = some (s, .inl xs)) : rn a s (eCons fa fr env) = some (s, .inl (x :: xs)) := by
  unfold eCons
  rw [rn_run h1, rn_run h2]
  rfl
theorem rn_cb {h : List D → Option D} {fr : Env → M (List Vl)} {xs : List Vl} {d : D} (h1 : rn a s (fr env) = some (s, .inl xs)) (h2 : h (dats xs) = some d) (hv : xs.any isV = false) : rn a s (eCB h fr env) = some (s, .inl (.s, d)) := by
  have e : eCB h fr env = (fr env).bind fun xs => eCB h (fun _ => .ok xs) env := by unfold eCB; rfl
  rw [e, rn_run h1, cb_ok rfl h2 hv]
  rfl
theorem rn_cov {h : List D → Option D} {fr : Env → M (List Vl)} {xs : List Vl} {d : D} (h1 : rn a s (fr env) = some (s, .inl xs)) (h2 : h (dats xs) = some d) (hv : xs.any isV = false) : rn a s (eCOV h fr env) = some (s, .inl (.o, d)) := by
  have e : eCOV h fr env = (fr env).bind fun xs => eCOV h (fun _ => .ok xs) env := by unfold eCOV; rfl
  rw [e, rn_run h1, cov_ok rfl h2 hv]
  rfl
theorem rn_tB {fv : Env → M Vl} {b : Bool} (h : rn a s (fv env) = some (s, .inl (.s, .bl b))) : rn a s (eB fv env) = some (s, .inl b) := by
  have e : eB fv env = (fv env).bind fun x => eB (fun _ => .ok x) env := by unfold eB; rfl
  rw [e, rn_run h, tB_ok rfl]
  rfl
theorem rn_if {ft : Env → M Bool} {fo go : Env → M Out} {b : Bool} (h : rn a s (ft env) = some (s, .inl b)) : rn a s (bIf ft fo go env) = rn a s (if b then fo env else go env) := by
  unfold bIf
  rw [rn_run h]
theorem rn_seq {fo go : Env → M Out} (h : rn a s (fo env) = some (s', .inl (.nx e'))) : rn a s (bSeq fo go env) = rn a s' (go e') := by
  unfold bSeq
  rw [rn_run h]
theorem rn_seqX {fo go : Env → M Out} {e : Ex} (h : rn a s (fo env) = some (s', .inr e)) : rn a s (bSeq fo go env) = some (s', .inr e) := by
  unfold bSeq
  rw [rn_err h]
theorem rn_seqR {fo go : Env → M Out} {v : Vl} (h : rn a s (fo env) = some (s', .inl (.rt v))) : rn a s (bSeq fo go env) = some (s', .inl (.rt v)) := by
  unfold bSeq
  rw [rn_run h]
  rfl
theorem rn_drop {fv : Env → M Vl} {v : Vl} (h : rn a s (fv env) = some (s', .inl v)) : rn a s (bDrop fv env) = some (s', .inl (.nx env)) := by
  unfold bDrop
  rw [rn_run h]
  rfl
theorem rn_dropX {fv : Env → M Vl} {e : Ex} (h : rn a s (fv env) = some (s', .inr e)) : rn a s (bDrop fv env) = some (s', .inr e) := by
  unfold bDrop
  rw [rn_err h]
theorem rn_ret {fv : Env → M Vl} {v : Vl} (h : rn a s (fv env) = some (s', .inl v)) (hv : isV v = false) : rn a s (bRet fv env) = some (s', .inl (.rt v)) := by
  have e : bRet fv env = (fv env).bind fun x => bRet (fun _ => .ok x) env := by unfold bRet; rfl
  rw [e, rn_run h]
  obtain ⟨md, d⟩ := v
  cases md with
  | s => rfl
  | o => rfl
  | v i => cases hv
theorem rn_retX {fv : Env → M Vl} {e : Ex} (h : rn a s (fv env) = some (s', .inr e)) : rn a s (bRet fv env) = some (s', .inr e) := by
  have e1 : bRet fv env = (fv env).bind fun x => bRet (fun _ => .ok x) env := by unfold bRet; rfl
  rw [e1, rn_err h]
theorem rn_body {ar N : Nat} {b : Env → M Out} {ds : List D} {o : Out} {v : Vl} (hl : ds.length = ar) (h : rn a s (b (ds.map (fun d => some (false, d)) ++ List.replicate (N - ar) none)) = some (s', .inl o)) (ho : o = .rt v ∨ (v = (.s, .non) ∧ ∃ e, o = .nx e)) : rn a s (bodyM ar N b ds) = some (s', .inl v) := by
  unfold bodyM
  rw [if_pos hl, rn_run h]
  rcases ho with rfl | ⟨rfl, e, rfl⟩ <;> rfl
theorem rn_bodyX {ar N : Nat} {b : Env → M Out} {ds : List D} {e : Ex} (hl : ds.length = ar) (h : rn a s (b (ds.map (fun d => some (false, d)) ++ List.replicate (N - ar) none)) = some (s', .inr e)) : rn a s (bodyM ar N b ds) = some (s', .inr e) := by
  unfold bodyM
  rw [if_pos hl, rn_err h]
theorem rn_meth {C nm : Str} {mm : List D → M Vl} {fo : Env → M Vl} {fa : Env → M (List Vl)} {xs : List Vl} (h1 : fo env = .ok (.s, .rf a)) (h2 : isIn C nm s = true) (h3 : fa env = .ok xs) (h4 : okA xs = true) : rn a s (eMeth C nm mm fo fa env) = rn a s (mm (.rf a :: dats xs)) := by
  unfold eMeth
  rw [h1, ok_bind]
  show (if a = a then rn a s (if isIn C nm s then (fa env).bind fun xs => if okA xs then mm (.rf a :: dats xs) else .bad else .bad) else none) = _
  rw [if_pos rfl, h2, if_pos rfl, h3, ok_bind, if_pos h4]
theorem rn_fldPut {C : Str} {fs : List (Str × D)} {fo fe : Env → M Vl} {v : Vl} (h1 : rn a (.ins C fs) (fe env) = some (.ins C fs, .inl v)) (h2 : isV v = false) (h3 : fo env = .ok (.s, .rf a)) (h4 : (C, g) ∈ tab) (h5 : fs.length < 1000) : rn a (.ins C fs) (bFld tab g fo fe env) = some (.ins C (putFD g v.2 fs), .inl (.nx env)) := by
  unfold bFld
  rw [rn_run h1, h3, ok_bind]
  show (if a = a then rn a (.ins C fs) (if (C, g) ∈ tab ∧ isV v = false ∧ fs.length < 1000 then .put a (.ins C (putFD g v.2 fs)) (.ok (Out.nx env)) else .bad) else none) = _
  rw [if_pos rfl, if_pos ⟨h4, h2, h5⟩]
  show (if a = a then rn a (.ins C (putFD g v.2 fs)) (M.ok (Out.nx env)) else none) = _
  rw [if_pos rfl]
  rfl
theorem rn_call {m : List D → M Vl} {fa : Env → M (List Vl)} {xs : List Vl} (h1 : rn a s (fa env) = some (s, .inl xs)) (ho : okA xs = true) : rn a s (eCall m fa env) = rn a s (m (dats xs)) := by
  unfold eCall
  rw [rn_run h1, if_pos ho]
theorem rn_lc {fi : Env → M (List D)} {tg : D → Env → Option Env} {ft : Env → M Bool} {fe : Env → M Vl} {vs : List Nat} {ds : List D} {v : Vl} (h : rn a s (fi env) = some (s, .inl ds)) (h2 : eLc (fun _ => .ok ds) tg ft fe vs env = .ok v) : rn a s (eLc fi tg ft fe vs env) = some (s, .inl v) := by
  have e : eLc fi tg ft fe vs env = (fi env).bind fun ds => eLc (fun _ => .ok ds) tg ft fe vs env := by unfold eLc; rfl
  rw [e, rn_run h, h2]
  rfl
theorem rn_itA {f : Env → M Vl} {x : Vl} {ds : List D} (h : rn a s (f env) = some (s, .inl x)) (h2 : eItA (fun _ => .ok x) env = .ok ds) : rn a s (eItA f env) = some (s, .inl ds) := by
  have e : eItA f env = (f env).bind fun x => eItA (fun _ => .ok x) env := by unfold eItA; rfl
  rw [e, rn_run h, h2]
  rfl
theorem rn_slT {fa : Env → M Vl} {fl fh : Env → M (Option Int)} {x : Vl} {lo hi : Option Int} {d : D} (h1 : rn a s (fa env) = some (s, .inl x)) (h2 : fl env = .ok lo) (h3 : fh env = .ok hi) (h4 : slT x.2 lo hi = some d) (hv : isV x = false) : rn a s (eSlT fa fl fh env) = some (s, .inl (.s, d)) := by
  unfold eSlT
  rw [rn_run h1, h2, ok_bind, h3, ok_bind, h4, of_some, ok_bind, hv]
  rfl
theorem rn_or {f h : Env → M Bool} {x y : Bool} (h1 : rn a s (f env) = some (s, .inl x)) (h2 : x = false → rn a s (h env) = some (s, .inl y)) : rn a s (eOr f h env) = some (s, .inl (x || y)) := by
  unfold eOr
  rw [rn_run h1]
  cases x with
  | true => rfl
  | false =>
    first
      | exact h2 rfl
      | (show rn a s ((h env).bind _) = _; rw [rn_run (h2 rfl)]; rfl)
end
end Y

namespace Y
open PySem PySem.Spec PyProof.Rows L2 Z
abbrev FB (L : Nat) (ds : List D) (ks : Ks) : List (Str × D) := [("own_length", nI L), ("deeds", .tup ds), ("known", .dic (kD ks)), ("mark", .non)]
abbrev bx (L : Nat) (ds : List D) (ks : Ks) : D := .ins "Bench" (FB L ds ks)
abbrev bs (L : Nat) (rs : List Deed) : D := bx L (dsD rs) (Kn rs)
section
variable {L : Nat} {ds : List D} {ks : Ks}
theorem c_deeds : (("Bench", "deeds") : Str × Str) ∈ CTB := by decide +kernel
theorem c_known : (("Bench", "known") : Str × Str) ∈ CTB := by decide +kernel
theorem c_len : (("Bench", "own_length") : Str × Str) ∈ CTB := by decide +kernel
theorem c_mark : (("Bench", "mark") : Str × Str) ∈ CTB := by decide +kernel
theorem fldD_ins {tab : List (Str × Str)} {C f : Str} {fs : List (Str × D)} (h : (C, f) ∈ tab) : fldD tab f (.ins C fs) = fs.lookup f := by
  unfold fldD
  dsimp only
  rw [if_pos h]
theorem leD_n (a b : Nat) : leD (nI a) (nI b) = some (.bl (decide (a ≤ b))) := by
  show some (D.bl (decide ((a : Int) ≤ (b : Int)))) = _
  rw [show decide ((a : Int) ≤ (b : Int)) = decide (a ≤ b) from decide_eq_decide.mpr (by omega)]
theorem eqB_n (a b : Nat) : eqB (nI a) (nI b) = some (.bl (decide (a = b))) := by
  show some (D.bl (decide ((a : Int) = (b : Int)))) = _
  rw [show decide ((a : Int) = (b : Int)) = decide (a = b) from decide_eq_decide.mpr (by omega)]
theorem geD_n (a b : Nat) : geD (nI a) (nI b) = some (.bl (decide (b ≤ a))) := by
  show some (D.bl (decide ((b : Int) ≤ (a : Int)))) = _
  rw [show decide ((b : Int) ≤ (a : Int)) = decide (b ≤ a) from decide_eq_decide.mpr (by omega)]
theorem rn_bodyN {a : Addr} {s s' : D} {ar N : Nat} {b : Env → M Out} {ds : List D} {e : Env} (hl : ds.length = ar) (h : rn a s (b (ds.map (fun d => some (false, d)) ++ List.replicate (N - ar) none)) = some (s', .inl (.nx e))) : rn a s (bodyM ar N b ds) = some (s', .inl (.s, .non)) := rn_body (o := .nx e) hl h (.inr ⟨rfl, _, rfl⟩)
theorem f_deeds : fldD CTB "deeds" (bx L ds ks) = some (.tup ds) := by
  rw [fldD_ins c_deeds]; rfl
theorem f_known : fldD CTB "known" (bx L ds ks) = some (.dic (kD ks)) := by
  rw [fldD_ins c_known]; rfl
theorem f_len : fldD CTB "own_length" (bx L ds ks) = some (nI L) := by
  rw [fldD_ins c_len]; rfl
end
abbrev BI : Ex := ⟨"BadIndex", []⟩
abbrev TM : Ex := ⟨"TooMany", [("limit", nI 20)]⟩
abbrev ND : Ex := ⟨"NothingDone", []⟩
def Av (d : D) : Prop := (∃ w : List Nat, d = .str w ∧ w.length ≤ 100 ∧ okS w) ∨ (∃ i : Int, d = .int i) ∨ (∃ b, d = .bl b) ∨ d ∈ oddL
def isI : D → Bool
  | .int _ => true
  | _ => false
def nmB (ks : Ks) : D → Bool
  | .int i => (getD (kD ks) (.inl i)).isSome
  | _ => false
def rdB (L : Nat) : D → Bool
  | .str w => wordI w && decide (L < w.length)
  | _ => false
def txtD : D → List Nat
  | .str w => w
  | _ => []
def natD : D → Nat
  | .int i => i.toNat
  | _ => 0
theorem odd_int : ∀ d ∈ oddL, m_is_integer [d] = .ok (.s, .bl (isI d)) ∧ m__law_is_int [d] = .ok (.s, .bl (isI d)) := by
  intro d hd
  simp only [oddL, List.mem_cons, List.not_mem_nil, or_false] at hd
  rcases hd with rfl | rfl | rfl | rfl | rfl | rfl | rfl | rfl | rfl | rfl | rfl | rfl | rfl | rfl | rfl | rfl | rfl | rfl | rfl | rfl | rfl | rfl <;>
    exact ⟨by simp [bodyM, eVar, eC, eOp, eUn, eNil, eCons, eCB, eCO, eCOV, eLst, eTup, eB, eAnd, eOr, eNot, eBv, eAndV, eOrV, eNotV, eIf, eChain, eCall, okA, eTgN, eTgNil, eTgCons, eTgT, eRng, wipeE, noOwn, eLc, eYes, eDc, bNext, bSeq, bRet, bSet, bAsg, bDrop, bIf, bRaise, bFor, frzE, bFrz, setsE, bSets, isiD, tyName, chars, rng_len, eDGet2, eDNew, bApp, ownL, ownD, bDPut, eSl, ePart, eNo, eItA, itA, itD, eIxA, eJoin, isV, iop, cop, subD, modD, fdivD, leD, gtD, geD, eqB, neB, isBlD, notBlD, keyD, isDic, m_is_integer, b_is_integer, isI], by simp [bodyM, eVar, eC, eOp, eUn, eNil, eCons, eCB, eCO, eCOV, eLst, eTup, eB, eAnd, eOr, eNot, eBv, eAndV, eOrV, eNotV, eIf, eChain, eCall, okA, eTgN, eTgNil, eTgCons, eTgT, eRng, wipeE, noOwn, eLc, eYes, eDc, bNext, bSeq, bRet, bSet, bAsg, bDrop, bIf, bRaise, bFor, frzE, bFrz, setsE, bSets, isiD, tyName, chars, rng_len, eDGet2, eDNew, bApp, ownL, ownD, bDPut, eSl, ePart, eNo, eItA, itA, itD, eIxA, eJoin, isV, iop, cop, subD, modD, fdivD, leD, gtD, geD, eqB, neB, isBlD, notBlD, keyD, isDic, m__law_is_int, b__law_is_int, isI]⟩
theorem odd_wd : ∀ d ∈ oddL, m_is_word [d] = .ok (.s, .bl (isWd d)) := by
  intro d hd
  rcases odd_ok d hd with ⟨z, rfl, hl, _⟩ | ⟨h1, h2⟩
  · exact q_is_word (by omega)
  · rw [h1]
    congr 3
    cases d <;> first
      | rfl
      | (exfalso; simp [isiD, tyName] at h2; done)
theorem av_int {d : D} (h : Av d) : m_is_integer [d] = .ok (.s, .bl (isI d)) ∧ m__law_is_int [d] = .ok (.s, .bl (isI d)) := by
  rcases h with ⟨w, rfl, _⟩ | ⟨i, rfl⟩ | ⟨b, rfl⟩ | h
  · exact ⟨by simp [bodyM, eVar, eC, eOp, eUn, eNil, eCons, eCB, eCO, eCOV, eLst, eTup, eB, eAnd, eOr, eNot, eBv, eAndV, eOrV, eNotV, eIf, eChain, eCall, okA, eTgN, eTgNil, eTgCons, eTgT, eRng, wipeE, noOwn, eLc, eYes, eDc, bNext, bSeq, bRet, bSet, bAsg, bDrop, bIf, bRaise, bFor, frzE, bFrz, setsE, bSets, isiD, tyName, chars, rng_len, eDGet2, eDNew, bApp, ownL, ownD, bDPut, eSl, ePart, eNo, eItA, itA, itD, eIxA, eJoin, isV, iop, cop, subD, modD, fdivD, leD, gtD, geD, eqB, neB, isBlD, notBlD, keyD, isDic, m_is_integer, b_is_integer, isI], by simp [bodyM, eVar, eC, eOp, eUn, eNil, eCons, eCB, eCO, eCOV, eLst, eTup, eB, eAnd, eOr, eNot, eBv, eAndV, eOrV, eNotV, eIf, eChain, eCall, okA, eTgN, eTgNil, eTgCons, eTgT, eRng, wipeE, noOwn, eLc, eYes, eDc, bNext, bSeq, bRet, bSet, bAsg, bDrop, bIf, bRaise, bFor, frzE, bFrz, setsE, bSets, isiD, tyName, chars, rng_len, eDGet2, eDNew, bApp, ownL, ownD, bDPut, eSl, ePart, eNo, eItA, itA, itD, eIxA, eJoin, isV, iop, cop, subD, modD, fdivD, leD, gtD, geD, eqB, neB, isBlD, notBlD, keyD, isDic, m__law_is_int, b__law_is_int, isI]⟩
  · exact ⟨by simp [bodyM, eVar, eC, eOp, eUn, eNil, eCons, eCB, eCO, eCOV, eLst, eTup, eB, eAnd, eOr, eNot, eBv, eAndV, eOrV, eNotV, eIf, eChain, eCall, okA, eTgN, eTgNil, eTgCons, eTgT, eRng, wipeE, noOwn, eLc, eYes, eDc, bNext, bSeq, bRet, bSet, bAsg, bDrop, bIf, bRaise, bFor, frzE, bFrz, setsE, bSets, isiD, tyName, chars, rng_len, eDGet2, eDNew, bApp, ownL, ownD, bDPut, eSl, ePart, eNo, eItA, itA, itD, eIxA, eJoin, isV, iop, cop, subD, modD, fdivD, leD, gtD, geD, eqB, neB, isBlD, notBlD, keyD, isDic, m_is_integer, b_is_integer, isI], by simp [bodyM, eVar, eC, eOp, eUn, eNil, eCons, eCB, eCO, eCOV, eLst, eTup, eB, eAnd, eOr, eNot, eBv, eAndV, eOrV, eNotV, eIf, eChain, eCall, okA, eTgN, eTgNil, eTgCons, eTgT, eRng, wipeE, noOwn, eLc, eYes, eDc, bNext, bSeq, bRet, bSet, bAsg, bDrop, bIf, bRaise, bFor, frzE, bFrz, setsE, bSets, isiD, tyName, chars, rng_len, eDGet2, eDNew, bApp, ownL, ownD, bDPut, eSl, ePart, eNo, eItA, itA, itD, eIxA, eJoin, isV, iop, cop, subD, modD, fdivD, leD, gtD, geD, eqB, neB, isBlD, notBlD, keyD, isDic, m__law_is_int, b__law_is_int, isI]⟩
  · exact ⟨by simp [bodyM, eVar, eC, eOp, eUn, eNil, eCons, eCB, eCO, eCOV, eLst, eTup, eB, eAnd, eOr, eNot, eBv, eAndV, eOrV, eNotV, eIf, eChain, eCall, okA, eTgN, eTgNil, eTgCons, eTgT, eRng, wipeE, noOwn, eLc, eYes, eDc, bNext, bSeq, bRet, bSet, bAsg, bDrop, bIf, bRaise, bFor, frzE, bFrz, setsE, bSets, isiD, tyName, chars, rng_len, eDGet2, eDNew, bApp, ownL, ownD, bDPut, eSl, ePart, eNo, eItA, itA, itD, eIxA, eJoin, isV, iop, cop, subD, modD, fdivD, leD, gtD, geD, eqB, neB, isBlD, notBlD, keyD, isDic, m_is_integer, b_is_integer, isI], by simp [bodyM, eVar, eC, eOp, eUn, eNil, eCons, eCB, eCO, eCOV, eLst, eTup, eB, eAnd, eOr, eNot, eBv, eAndV, eOrV, eNotV, eIf, eChain, eCall, okA, eTgN, eTgNil, eTgCons, eTgT, eRng, wipeE, noOwn, eLc, eYes, eDc, bNext, bSeq, bRet, bSet, bAsg, bDrop, bIf, bRaise, bFor, frzE, bFrz, setsE, bSets, isiD, tyName, chars, rng_len, eDGet2, eDNew, bApp, ownL, ownD, bDPut, eSl, ePart, eNo, eItA, itA, itD, eIxA, eJoin, isV, iop, cop, subD, modD, fdivD, leD, gtD, geD, eqB, neB, isBlD, notBlD, keyD, isDic, m__law_is_int, b__law_is_int, isI]⟩
  · exact odd_int d h
theorem av_wd {d : D} (h : Av d) : m_is_word [d] = .ok (.s, .bl (isWd d)) := by
  rcases h with ⟨w, rfl, hl, _⟩ | ⟨i, rfl⟩ | ⟨b, rfl⟩ | h
  · exact q_is_word (by omega)
  · simp [bodyM, eVar, eC, eOp, eUn, eNil, eCons, eCB, eCO, eCOV, eLst, eTup, eB, eAnd, eOr, eNot, eBv, eAndV, eOrV, eNotV, eIf, eChain, eCall, okA, eTgN, eTgNil, eTgCons, eTgT, eRng, wipeE, noOwn, eLc, eYes, eDc, bNext, bSeq, bRet, bSet, bAsg, bDrop, bIf, bRaise, bFor, frzE, bFrz, setsE, bSets, isiD, tyName, chars, rng_len, eDGet2, eDNew, bApp, ownL, ownD, bDPut, eSl, ePart, eNo, eItA, itA, itD, eIxA, eJoin, isV, iop, cop, subD, modD, fdivD, leD, gtD, geD, eqB, neB, isBlD, notBlD, keyD, isDic, m_is_word, b_is_word, m_is_line, b_is_line, isWd]
  · simp [bodyM, eVar, eC, eOp, eUn, eNil, eCons, eCB, eCO, eCOV, eLst, eTup, eB, eAnd, eOr, eNot, eBv, eAndV, eOrV, eNotV, eIf, eChain, eCall, okA, eTgN, eTgNil, eTgCons, eTgT, eRng, wipeE, noOwn, eLc, eYes, eDc, bNext, bSeq, bRet, bSet, bAsg, bDrop, bIf, bRaise, bFor, frzE, bFrz, setsE, bSets, isiD, tyName, chars, rng_len, eDGet2, eDNew, bApp, ownL, ownD, bDPut, eSl, ePart, eNo, eItA, itA, itD, eIxA, eJoin, isV, iop, cop, subD, modD, fdivD, leD, gtD, geD, eqB, neB, isBlD, notBlD, keyD, isDic, m_is_word, b_is_word, m_is_line, b_is_line, isWd]
  · exact odd_wd d h
theorem av_len {w : List Nat} (h : Av (.str w)) : w.length ≤ 100 := by
  rcases h with ⟨v, e, hl, _⟩ | ⟨i, e⟩ | ⟨b, e⟩ | h
  · cases e; exact hl
  · cases e
  · cases e
  · rcases odd_ok _ h with ⟨z, e, hl, _⟩ | ⟨_, h2⟩
    · cases e; exact hl
    · simp [isiD, tyName] at h2
theorem av_ok {w : List Nat} (h : Av (.str w)) : okS w := by
  rcases h with ⟨v, e, _, hl⟩ | ⟨i, e⟩ | ⟨b, e⟩ | h
  · cases e; exact hl
  · cases e
  · cases e
  · rcases odd_ok _ h with ⟨z, e, _, hl⟩ | ⟨_, h2⟩
    · cases e; exact hl
    · simp [isiD, tyName] at h2
theorem nmB_nat {ks : Ks} {d : D} (h : nmB ks d = true) : ∃ n : Nat, d = nI n ∧ has ks n = true := by
  cases d <;> first
    | cases h
    | skip
  rename_i i
  have h : (getD (kD ks) (.inl i)).isSome = true := h
  unfold getD at h
  rw [Option.isSome_map, List.find?_isSome] at h
  obtain ⟨e, he, h2⟩ := h
  unfold kD at he
  obtain ⟨p, hp, rfl⟩ := List.mem_map.mp he
  have e1 : (Sum.inl (p.1 : Int) : Ky) = Sum.inl i := of_decide_eq_true h2
  cases e1
  exact ⟨p.1, rfl, List.any_eq_true.mpr ⟨p, hp, by simp⟩⟩
theorem rdB_str {L : Nat} {d : D} (h : rdB L d = true) : ∃ w, d = .str w ∧ wordI w = true ∧ L < w.length := by
  cases d <;> first
    | cases h
    | skip
  rename_i w
  have h : (wordI w && decide (L < w.length)) = true := h
  rw [Bool.and_eq_true, decide_eq_true_eq] at h
  exact ⟨w, rfl, h.1, h.2⟩
section
variable {a : Addr} {L : Nat} {ds : List D} {ks : Ks} {x : D}
theorem r_need_read (hx : Av x) : rn a (bx L ds ks) (m_Bench__need_read [.rf a, x]) = some (bx L ds ks, if rdB L x then .inl (.s, .non) else .inr BW) := by
  have hw := av_wd hx
  cases hb : isWd x with
  | false =>
    have h2 : rdB L x = false := by
      cases x <;> first
        | rfl
        | skip
      show (wordI _ && _) = false
      have : wordI _ = false := hb
      rw [this]; rfl
    rw [h2, if_neg (by simp)]
    have hn : m_need_word [x] = .raise BW := by simp [bodyM, eVar, eC, eOp, eUn, eNil, eCons, eCB, eCO, eCOV, eLst, eTup, eB, eAnd, eOr, eNot, eBv, eAndV, eOrV, eNotV, eIf, eChain, eCall, okA, eTgN, eTgNil, eTgCons, eTgT, eRng, wipeE, noOwn, eLc, eYes, eDc, bNext, bSeq, bRet, bSet, bAsg, bDrop, bIf, bRaise, bFor, frzE, bFrz, setsE, bSets, isiD, tyName, chars, rng_len, eDGet2, eDNew, bApp, ownL, ownD, bDPut, eSl, ePart, eNo, eItA, itA, itD, eIxA, eJoin, isV, iop, cop, subD, modD, fdivD, leD, gtD, geD, eqB, neB, isBlD, notBlD, keyD, isDic, m_need_word, b_need_word, hw, hb]
    refine rn_bodyX rfl ?_
    show rn a _ (b_Bench__need_read [some (false, .rf a), some (false, x)]) = _
    unfold b_Bench__need_read
    refine rn_seqX (rn_dropX ?_)
    rw [call_ok (xs := [(.s, x)]) rfl rfl hn]
    rfl
  | true =>
    obtain ⟨w, rfl⟩ : ∃ w, x = .str w := by
      cases x <;> first
        | exact ⟨_, rfl⟩
        | cases hb
    have hl := av_len hx
    have hwi : wordI w = true := hb
    have hn : m_need_word [.str w] = .ok (.s, .non) := q_need_word (by omega) hwi
    have e1 : rn a (bx L ds ks) (bDrop (eCall m_need_word (eCons (eVar 1) eNil)) [some (false, .rf a), some (false, .str w)]) = some (bx L ds ks, .inl (.nx [some (false, .rf a), some (false, .str w)])) := by
      refine rn_drop (v := (.s, .non)) ?_
      rw [call_ok (xs := [(.s, .str w)]) rfl rfl hn]
      rfl
    have e2 : rn a (bx L ds ks) (eB (eOp leD (eCB lenD (eCons (eVar 1) eNil)) (eFld CTB "own_length" (eVar 0))) [some (false, .rf a), some (false, .str w)]) = some (bx L ds ks, .inl (decide (w.length ≤ L))) := by
      refine rn_tB (rn_op (x := (.s, nI w.length)) (y := (.s, nI L)) (rn_of (len_s (fa := eVar 1) rfl (by omega))) (rn_fld rfl f_len) (leD_n _ _) rfl rfl)
    by_cases hL : w.length ≤ L
    · have h2 : rdB L (.str w) = false := by
        show (wordI w && decide (L < w.length)) = false
        rw [decide_eq_false (by omega), Bool.and_false]
      rw [h2, if_neg (by simp)]
      refine rn_bodyX rfl ?_
      show rn a _ (b_Bench__need_read [some (false, .rf a), some (false, .str w)]) = _
      unfold b_Bench__need_read
      rw [rn_seq e1, rn_if e2, decide_eq_true hL]
      rfl
    · have h2 : rdB L (.str w) = true := by
        show (wordI w && decide (L < w.length)) = true
        rw [decide_eq_true (by omega), hwi]; rfl
      rw [h2, if_pos rfl]
      refine rn_bodyN (e := [some (false, .rf a), some (false, .str w)]) rfl ?_
      show rn a _ (b_Bench__need_read [some (false, .rf a), some (false, .str w)]) = _
      unfold b_Bench__need_read
      rw [rn_seq e1, rn_if e2, decide_eq_false hL]
      rfl
theorem r_need_number (hx : Av x) : rn a (bx L ds ks) (m_Bench__need_number [.rf a, x]) = some (bx L ds ks, if nmB ks x then .inl (.s, .non) else .inr BI) := by
  have e2 : rn a (bx L ds ks) (eOr (eNot (eB (eCall m_is_integer (eCons (eVar 1) eNil)))) (eB (eOp notInAB (eVar 1) (eFld CTB "known" (eVar 0)))) [some (false, .rf a), some (false, x)]) = some (bx L ds ks, .inl (!nmB ks x)) := by
    have e3 : eNot (eB (eCall m_is_integer (eCons (eVar 1) eNil))) [some (false, .rf a), some (false, x)] = .ok (!isI x) := by
      have : eCall m_is_integer (eCons (eVar 1) eNil) [some (false, .rf a), some (false, x)] = .ok (.s, .bl (isI x)) := call_ok (xs := [(.s, x)]) rfl rfl (av_int hx).1
      unfold eNot
      rw [tB_ok this]
      rfl
    have e4 : (!nmB ks x) = (!isI x || !nmB ks x) := by cases x <;> rfl
    rw [e4]
    refine rn_or (rn_of e3) fun hi => ?_
    have hi : isI x = true := by simpa using hi
    obtain ⟨i, rfl⟩ : ∃ i, x = .int i := by
      cases x <;> first
        | exact ⟨_, rfl⟩
        | cases hi
    exact rn_tB (rn_op (x := (.s, .int i)) (y := (.s, .dic (kD ks))) (d := .bl (!nmB ks (.int i))) (rn_of rfl) (rn_fld rfl f_known) rfl rfl rfl)
  cases hn : nmB ks x with
  | false =>
    rw [hn] at e2
    rw [if_neg (by simp)]
    refine rn_bodyX rfl ?_
    show rn a _ (b_Bench__need_number [some (false, .rf a), some (false, x)]) = _
    unfold b_Bench__need_number
    rw [rn_if e2]
    rfl
  | true =>
    rw [hn] at e2
    rw [if_pos rfl]
    refine rn_bodyN (e := [some (false, .rf a), some (false, x)]) rfl ?_
    show rn a _ (b_Bench__need_number [some (false, .rf a), some (false, x)]) = _
    unfold b_Bench__need_number
    rw [rn_if e2]
    rfl
end
section
variable {a : Addr} {L : Nat} {rs : List Deed} {d : Deed}
theorem dsD_len (rs : List Deed) : (dsD rs).length = rs.length := by simp [dsD]
theorem dsD_cons (d : Deed) (rs : List Deed) : dsD (d :: rs) = dsD rs ++ [ddD d] := by simp [dsD]
theorem r_known {env : Env} (h0 : eVar 0 env = .ok (.s, .rf a)) (hv : Va rs) {ks : Ks} : rn a (bx L (dsD rs) ks) (bFld CTB "known" (eVar 0) (eCall m_standing_behind (eCons (eFld CTB "deeds" (eVar 0)) eNil)) env) = some (bs L rs, .inl (.nx env)) := by
  have h := rn_fldPut (a := a) (g := "known") (tab := CTB) (C := "Bench") (fs := FB L (dsD rs) ks) (fo := eVar 0) (fe := eCall m_standing_behind (eCons (eFld CTB "deeds" (eVar 0)) eNil)) (env := env) (v := (.o, .dic (kD (Kn rs)))) (by
    rw [rn_call (xs := [(.s, .tup (dsD rs))]) (rn_cons (rn_fld h0 f_deeds) (rn_of rfl)) rfl]
    show rn a _ (m_standing_behind [.tup (dsD rs)]) = _
    rw [q_standing hv]
    rfl) rfl h0 c_known (by simp)
  exact h
theorem r_do (hv : Va (d :: rs)) (hl : rs.length < 1000) : rn a (bs L rs) (m_Bench__do [.rf a, ddD d]) = some (bs L (d :: rs), .inl (.s, .non)) := by
  refine rn_bodyN (e := [some (false, .rf a), some (false, ddD d)]) rfl ?_
  show rn a _ (b_Bench__do [some (false, .rf a), some (false, ddD d)]) = some (_, .inl (.nx [some (false, .rf a), some (false, ddD d)]))
  unfold b_Bench__do
  have h := rn_fldPut (a := a) (g := "deeds") (tab := CTB) (C := "Bench") (fs := FB L (dsD rs) (Kn rs)) (fo := eVar 0) (fe := eOp addT (eFld CTB "deeds" (eVar 0)) (eTup (eCons (eVar 1) eNil))) (env := [some (false, .rf a), some (false, ddD d)]) (v := (.s, .tup (dsD (d :: rs)))) (by
    refine rn_op (x := (.s, .tup (dsD rs))) (y := (.s, .tup [ddD d])) (rn_fld rfl f_deeds) (rn_of rfl) ?_ rfl rfl
    show (if (dsD rs).length + 1 ≤ 1000000 then some (D.tup (dsD rs ++ [ddD d])) else none) = _
    rw [if_pos (by rw [dsD_len]; omega), dsD_cons]) rfl rfl c_deeds (by simp)
  rw [rn_seq h]
  exact r_known rfl hv
theorem r_undo (hv : Va rs) : rn a (bs L rs) (m_Bench__undo [.rf a]) = match rs with | [] => some (bs L [], .inr ND) | _ :: r => some (bs L r, .inl (.s, .non)) := by
  have e1 : rn a (bs L rs) (eB (eOp eqB (eCB lenD (eCons (eFld CTB "deeds" (eVar 0)) eNil)) (eC (.int 0))) [some (false, .rf a)]) = some (bs L rs, .inl (decide (rs.length = 0))) := by
    refine rn_tB (rn_op (x := (.s, nI rs.length)) (y := (.s, .int 0)) (rn_cb (rn_cons (rn_fld rfl f_deeds) (rn_of rfl)) ?_ rfl) (rn_of rfl) (eqB_n rs.length 0) rfl rfl)
    show some (D.int ((dsD rs).length : Int)) = _
    rw [dsD_len]
  cases rs with
  | nil =>
    refine rn_bodyX rfl ?_
    show rn a _ (b_Bench__undo [some (false, .rf a)]) = _
    unfold b_Bench__undo
    refine rn_seqX ?_
    rw [rn_if e1]
    rfl
  | cons d r =>
    refine rn_bodyN (e := [some (false, .rf a)]) rfl ?_
    show rn a _ (b_Bench__undo [some (false, .rf a)]) = some (_, .inl (.nx [some (false, .rf a)]))
    unfold b_Bench__undo
    have e2 : rn a (bs L (d :: r)) (bIf (eB (eOp eqB (eCB lenD (eCons (eFld CTB "deeds" (eVar 0)) eNil)) (eC (.int 0)))) (bRaise "NothingDone") bNext [some (false, .rf a)]) = some (bs L (d :: r), .inl (.nx [some (false, .rf a)])) := by
      rw [rn_if e1]
      rfl
    rw [rn_seq e2]
    have h := rn_fldPut (a := a) (g := "deeds") (tab := CTB) (C := "Bench") (fs := FB L (dsD (d :: r)) (Kn (d :: r))) (fo := eVar 0) (fe := eSlT (eFld CTB "deeds" (eVar 0)) eNo (ePart (eUn negD (eC (.int 1))))) (env := [some (false, .rf a)]) (v := (.s, .tup (dsD r))) (by
      refine rn_slT (x := (.s, .tup (dsD (d :: r)))) (lo := none) (hi := some (-1)) (rn_fld rfl f_deeds) rfl rfl ?_ rfl
      show some (D.tup (cutL (dsD (d :: r)) none (some (-1)))) = _
      rw [cut_m1, dsD_cons]
      simp) rfl rfl c_deeds (by simp)
    rw [rn_seq h]
    exact r_known rfl hv.tail
end
end Y

namespace Y
open PySem PySem.Spec PyProof.Rows L2 Z
inductive Sh
  | add (x : D)
  | undo
  | strike (x : D)
  | mend (x y : D)
def shD : Sh → D
  | .add x => .tup [.str aS, x]
  | .undo => .tup [.str uS]
  | .strike x => .tup [.str kS, x]
  | .mend x y => .tup [.str mS, x, y]
def Sv : Sh → Prop
  | .add x => Av x
  | .undo => True
  | .strike x => Av x
  | .mend x y => Av x ∧ Av y
def rfN (L : Nat) (rs : List Deed) : Sh → Nat
  | .add x => if rdB L x then (if 20 ≤ (Kn rs).length then 3 else 0) else 2
  | .undo => if rs = [] then 4 else 0
  | .strike x => if nmB (Kn rs) x then 0 else 1
  | .mend x y => if nmB (Kn rs) x then (if rdB L y then 0 else 2) else 1
def exN : Nat → Ex
  | 1 => BI
  | 2 => BW
  | 3 => TM
  | _ => ND
def nxR (rs : List Deed) : Sh → List Deed
  | .add x => .add (txtD x) :: rs
  | .undo => rs.tail
  | .strike x => .strike (natD x) :: rs
  | .mend x y => .mend (natD x) (txtD y) :: rs
def rvR (rs : List Deed) : Sh → D
  | .add _ => nI (cn rs)
  | _ => .non
def goR (L : Nat) (rs : List Deed) (sh : Sh) : List Deed × (Vl ⊕ Ex) := if rfN L rs sh = 0 then (nxR rs sh, .inl (.s, rvR rs sh)) else (rs, .inr (exN (rfN L rs sh)))
section
variable {L : Nat} {rs : List Deed} {sh : Sh} {a : Addr}
theorem sh_deed (hs : Sv sh) (h : rfN L rs sh = 0) (hu : sh ≠ .undo) (hv : Va rs) : ∃ d, shD sh = ddD d ∧ nxR rs sh = d :: rs ∧ Va (d :: rs) := by
  cases sh with
  | add x =>
    have h : (if rdB L x then (if 20 ≤ (Kn rs).length then 3 else 0) else 2) = 0 := h
    cases hb : rdB L x with
    | false => rw [hb] at h; cases h
    | true =>
      rw [hb, if_pos rfl] at h
      by_cases hk : 20 ≤ (Kn rs).length
      · rw [if_pos hk] at h; cases h
      · obtain ⟨w, rfl, hw, _⟩ := rdB_str hb
        exact ⟨.add w, rfl, rfl, hv, hw, av_len hs, by omega⟩
  | undo => exact (hu rfl).elim
  | strike x =>
    have h : (if nmB (Kn rs) x then 0 else 1) = 0 := h
    cases hb : nmB (Kn rs) x with
    | false => rw [hb] at h; cases h
    | true =>
      obtain ⟨n, rfl, hn⟩ := nmB_nat hb
      have e : natD (nI n) = n := by show ((n : Int)).toNat = n; omega
      refine ⟨.strike n, rfl, ?_, hv, hn⟩
      show Deed.strike (natD (nI n)) :: rs = _
      rw [e]
  | mend x y =>
    have h : (if nmB (Kn rs) x then (if rdB L y then 0 else 2) else 1) = 0 := h
    cases hb : nmB (Kn rs) x with
    | false => rw [hb] at h; cases h
    | true =>
      rw [hb, if_pos rfl] at h
      cases hc : rdB L y with
      | false => rw [hc] at h; cases h
      | true =>
        obtain ⟨n, rfl, hn⟩ := nmB_nat hb
        obtain ⟨w, rfl, hw, _⟩ := rdB_str hc
        have e : natD (nI n) = n := by show ((n : Int)).toNat = n; omega
        refine ⟨.mend n w, rfl, ?_, hv, hw, av_len hs.2, hn⟩
        show Deed.mend (natD (nI n)) w :: rs = _
        rw [e]
theorem goR_va (hs : Sv sh) (hv : Va rs) : Va (goR L rs sh).1 := by
  unfold goR
  by_cases h : rfN L rs sh = 0
  · rw [if_pos h]
    by_cases hu : sh = .undo
    · subst hu
      show Va rs.tail
      cases rs with
      | nil => exact trivial
      | cons d r => exact hv.tail
    · obtain ⟨d, _, e, g⟩ := sh_deed hs h hu hv
      show Va (nxR rs sh)
      rw [e]; exact g
  · rw [if_neg h]; exact hv
def isAdd : Deed → Bool
  | .add _ => true
  | _ => false
theorem cn_filter : ∀ rs : List Deed, (rs.filter isAdd).length = cn rs
  | [] => rfl
  | .add w :: rs => by
    rw [List.filter_cons_of_pos rfl, List.length_cons, cn_filter rs]; rfl
  | .strike n :: rs => by
    rw [List.filter_cons_of_neg (by simp [isAdd]), cn_filter rs]; rfl
  | .mend n w :: rs => by
    rw [List.filter_cons_of_neg (by simp [isAdd]), cn_filter rs]; rfl
theorem cn_rev (rs : List Deed) : (rs.reverse.filter isAdd).length = cn rs := by
  rw [List.filter_reverse, List.length_reverse, cn_filter]
theorem dd_head (d : Deed) : ∃ s r, ddD d = .tup (.str s :: r) ∧ decide (s = aS) = isAdd d := by
  cases d with
  | add w => exact ⟨_, _, rfl, rfl⟩
  | strike n => exact ⟨_, _, rfl, rfl⟩
  | mend n w => exact ⟨_, _, rfl, rfl⟩
theorem lc_adds {i : Nat} {env env' : Env} (hl : rs.length < 1000) (hno : noOwn env [i] = true) (hw : wipeE env [i] = env') (ht : ∀ d : D, ∃ e1, eTgN i d env' = some e1 ∧ eVar i e1 = .ok (.s, d)) :
    eLc (fun _ => .ok (dsD rs)) (eTgN i) (eB (eOp eqB (eIxA (eVar i) (eC (.int 0))) (eC (.str [97, 100, 100])))) (eVar i) [i] env = .ok (.o, .lst ((rs.reverse.filter isAdd).map ddD)) := by
  refine eLc_ok (xs := rs.reverse) ddD ddD isAdd rfl (by rw [List.length_reverse]; omega) hno hw fun d hd => ?_
  obtain ⟨e1, h1, h2⟩ := ht (ddD d)
  obtain ⟨s, r, e2, e3⟩ := dd_head d
  refine ⟨e1, h1, ?_, fun _ => ⟨.s, h2, rfl⟩⟩
  rw [← e3]
  exact is_word_at (ds := .str s :: r) (by rw [h2, e2]) rfl
end
end Y

namespace Y
open PySem PySem.Spec PyProof.Rows L2 Z
section
variable {L : Nat} {rs : List Deed} {a : Addr} {x y : D} {ks : Ks} {ds : List D}
theorem in_rd : isIn "Bench" "need_read" (bx L ds ks) = true := rfl
theorem in_nm : isIn "Bench" "need_number" (bx L ds ks) = true := rfl
theorem in_do : isIn "Bench" "do" (bx L ds ks) = true := rfl
theorem in_add : isIn "Bench" "add" (bx L ds ks) = true := rfl
theorem in_strike : isIn "Bench" "strike" (bx L ds ks) = true := rfl
theorem in_mend : isIn "Bench" "mend" (bx L ds ks) = true := rfl
theorem in_undo : isIn "Bench" "undo" (bx L ds ks) = true := rfl
theorem raise_tm {env : Env} : bRaiseF "TooMany" "limit" (eC (.int 20)) env = .raise TM := by
  unfold bRaiseF
  show (M.ok ((Md.s, D.int 20) : Vl)).bind _ = _
  rw [ok_bind]
  rfl
theorem d_call {nm : Str} {mm : List D → M Vl} {env : Env} {s s' : D} {x : D} {i : Nat} {r : Vl ⊕ Ex} (h0 : eVar 0 env = .ok (.s, .rf a)) (hx : eVar i env = .ok (.s, x)) (hi : isIn "Bench" nm s = true) (h : rn a s (mm [.rf a, x]) = some (s', r)) : rn a s (eMeth "Bench" nm mm (eVar 0) (eCons (eVar i) eNil) env) = some (s', r) := by
  rw [rn_meth (xs := [(.s, x)]) h0 hi (cons_ok hx nil1) rfl]
  exact h
theorem d_do {env : Env} {d : Deed} {fe : Env → M Vl} (h0 : eVar 0 env = .ok (.s, .rf a)) (he : fe env = .ok (.s, ddD d)) (hv : Va (d :: rs)) (hl : rs.length < 1000) : rn a (bs L rs) (bDrop (eMeth "Bench" "do" m_Bench__do (eVar 0) (eCons fe eNil)) env) = some (bs L (d :: rs), .inl (.nx env)) := by
  refine rn_drop (v := (.s, .non)) ?_
  rw [rn_meth (xs := [(.s, ddD d)]) h0 in_do (cons_ok he nil1) rfl]
  exact r_do hv hl
theorem kD_len (ks : Ks) : (kD ks).length = ks.length := by unfold kD; rw [List.length_map]
theorem lenD_dic (es : List (Ky × D)) : lenD [.dic es] = some (nI es.length) := rfl
theorem r_add (hx : Av x) (hv : Va rs) (hl : rs.length < 1000) : rn a (bs L rs) (m_Bench__add [.rf a, x]) = some (bs L (goR L rs (.add x)).1, (goR L rs (.add x)).2) := by
  have c0 := r_need_read (a := a) (L := L) (ds := dsD rs) (ks := Kn rs) hx
  have hr : rfN L rs (.add x) = if rdB L x then (if 20 ≤ (Kn rs).length then 3 else 0) else 2 := rfl
  cases hb : rdB L x with
  | false =>
    rw [hb, if_neg (by simp)] at hr c0
    have hg : goR L rs (.add x) = (rs, .inr BW) := by unfold goR; rw [hr]; rfl
    rw [hg]
    refine rn_bodyX rfl ?_
    show rn a _ (b_Bench__add [some (false, .rf a), some (false, x), none, none]) = _
    unfold b_Bench__add
    exact rn_seqX (rn_dropX (d_call rfl rfl in_rd c0))
  | true =>
    rw [hb, if_pos rfl] at hr c0
    have e1 : rn a (bs L rs) (bDrop (eMeth "Bench" "need_read" m_Bench__need_read (eVar 0) (eCons (eVar 1) eNil)) [some (false, .rf a), some (false, x), none, none]) = some (bs L rs, .inl (.nx [some (false, .rf a), some (false, x), none, none])) := rn_drop (d_call rfl rfl in_rd c0)
    have e2 : rn a (bs L rs) (eB (eOp geD (eCB lenD (eCons (eFld CTB "known" (eVar 0)) eNil)) (eC (.int 20))) [some (false, .rf a), some (false, x), none, none]) = some (bs L rs, .inl (decide (20 ≤ (Kn rs).length))) := by
      refine rn_tB (rn_op (x := (.s, nI (Kn rs).length)) (y := (.s, .int 20)) (rn_cb (rn_cons (rn_fld rfl f_known) (rn_of rfl)) ?_ rfl) (rn_of rfl) (geD_n _ 20) rfl rfl)
      show lenD [.dic (kD (Kn rs))] = _
      rw [lenD_dic, kD_len]
    by_cases hk : 20 ≤ (Kn rs).length
    · rw [if_pos hk] at hr
      have hg : goR L rs (.add x) = (rs, .inr TM) := by unfold goR; rw [hr]; rfl
      rw [hg]
      refine rn_bodyX rfl ?_
      show rn a _ (b_Bench__add [some (false, .rf a), some (false, x), none, none]) = _
      unfold b_Bench__add
      rw [rn_seq e1]
      refine rn_seqX ?_
      rw [rn_if e2, decide_eq_true hk, if_pos rfl, raise_tm]
      rfl
    · rw [if_neg hk] at hr
      obtain ⟨w, rfl, hw, _⟩ := rdB_str hb
      have hg : goR L rs (.add (.str w)) = (.add w :: rs, .inl (.s, nI (cn rs))) := by unfold goR; rw [hr]; rfl
      rw [hg]
      refine rn_body (o := .rt (.s, nI (cn rs))) rfl ?_ (.inl rfl)
      show rn a _ (b_Bench__add [some (false, .rf a), some (false, .str w), none, none]) = _
      unfold b_Bench__add
      rw [rn_seq e1]
      have e3 : rn a (bs L rs) (bIf (eB (eOp geD (eCB lenD (eCons (eFld CTB "known" (eVar 0)) eNil)) (eC (.int 20)))) (bRaiseF "TooMany" "limit" (eC (.int 20))) bNext [some (false, .rf a), some (false, .str w), none, none]) = some (bs L rs, .inl (.nx [some (false, .rf a), some (false, .str w), none, none])) := by
        rw [rn_if e2, decide_eq_false hk]
        rfl
      rw [rn_seq e3]
      have e4 : rn a (bs L rs) (bSet 2 (eCB lenD (eCons (eLc (eItA (eFld CTB "deeds" (eVar 0))) (eTgN 3) (eB (eOp eqB (eIxA (eVar 3) (eC (.int 0))) (eC (.str [97, 100, 100])))) (eVar 3) [3]) eNil)) [some (false, .rf a), some (false, .str w), none, none]) = some (bs L rs, .inl (.nx [some (false, .rf a), some (false, .str w), some (false, nI (cn rs)), none])) := by
        have l1 := lc_adds (rs := rs) (i := 3) (env := [some (false, .rf a), some (false, .str w), none, none]) (env' := [some (false, .rf a), some (false, .str w), none, none]) hl rfl rfl fun d => ⟨_, rfl, rfl⟩
        have e5 : rn a (bs L rs) (eCB lenD (eCons (eLc (eItA (eFld CTB "deeds" (eVar 0))) (eTgN 3) (eB (eOp eqB (eIxA (eVar 3) (eC (.int 0))) (eC (.str [97, 100, 100])))) (eVar 3) [3]) eNil) [some (false, .rf a), some (false, .str w), none, none]) = some (bs L rs, .inl (.s, nI (cn rs))) := by
          refine rn_cb (rn_cons (rn_lc (rn_itA (rn_fld rfl f_deeds) rfl) l1) (rn_of rfl)) ?_ rfl
          show some (D.int (((rs.reverse.filter isAdd).map ddD).length : Int)) = _
          rw [List.length_map, cn_rev]
        unfold bSet
        rw [rn_run e5]
        rfl
      rw [rn_seq e4]
      have hv' : Va (.add w :: rs) := ⟨hv, hw, av_len hx, by omega⟩
      have e6 := d_do (a := a) (L := L) (env := [some (false, .rf a), some (false, .str w), some (false, nI (cn rs)), none]) (d := .add w) (fe := eTup (eCons (eC (.str [97, 100, 100])) (eCons (eVar 1) eNil))) rfl rfl hv' hl
      rw [rn_seq e6]
      exact rn_ret (rn_of rfl) rfl
theorem r_strike (hx : Av x) (hv : Va rs) (hl : rs.length < 1000) : rn a (bs L rs) (m_Bench__strike [.rf a, x]) = some (bs L (goR L rs (.strike x)).1, (goR L rs (.strike x)).2) := by
  have c0 := r_need_number (a := a) (L := L) (ds := dsD rs) (ks := Kn rs) hx
  have hr : rfN L rs (.strike x) = if nmB (Kn rs) x then 0 else 1 := rfl
  cases hb : nmB (Kn rs) x with
  | false =>
    rw [hb, if_neg (by simp)] at hr c0
    have hg : goR L rs (.strike x) = (rs, .inr BI) := by unfold goR; rw [hr]; rfl
    rw [hg]
    refine rn_bodyX rfl ?_
    show rn a _ (b_Bench__strike [some (false, .rf a), some (false, x)]) = _
    unfold b_Bench__strike
    exact rn_seqX (rn_dropX (d_call rfl rfl in_nm c0))
  | true =>
    rw [hb, if_pos rfl] at hr c0
    obtain ⟨n, rfl, hn⟩ := nmB_nat hb
    have e : natD (nI n) = n := by show ((n : Int)).toNat = n; omega
    have hg : goR L rs (.strike (nI n)) = (.strike n :: rs, .inl (.s, .non)) := by
      unfold goR
      rw [hr, if_pos rfl]
      show (Deed.strike (natD (nI n)) :: rs, _) = _
      rw [e]; rfl
    rw [hg]
    refine rn_bodyN (e := [some (false, .rf a), some (false, nI n)]) rfl ?_
    show rn a _ (b_Bench__strike [some (false, .rf a), some (false, nI n)]) = _
    unfold b_Bench__strike
    rw [rn_seq (rn_drop (d_call rfl rfl in_nm c0))]
    exact d_do (d := .strike n) rfl rfl ⟨hv, hn⟩ hl
theorem r_mend (hx : Av x) (hy : Av y) (hv : Va rs) (hl : rs.length < 1000) : rn a (bs L rs) (m_Bench__mend [.rf a, x, y]) = some (bs L (goR L rs (.mend x y)).1, (goR L rs (.mend x y)).2) := by
  have c0 := r_need_number (a := a) (L := L) (ds := dsD rs) (ks := Kn rs) hx
  have c1 := r_need_read (a := a) (L := L) (ds := dsD rs) (ks := Kn rs) hy
  have hr : rfN L rs (.mend x y) = if nmB (Kn rs) x then (if rdB L y then 0 else 2) else 1 := rfl
  cases hb : nmB (Kn rs) x with
  | false =>
    rw [hb, if_neg (by simp)] at hr c0
    have hg : goR L rs (.mend x y) = (rs, .inr BI) := by unfold goR; rw [hr]; rfl
    rw [hg]
    refine rn_bodyX rfl ?_
    show rn a _ (b_Bench__mend [some (false, .rf a), some (false, x), some (false, y)]) = _
    unfold b_Bench__mend
    exact rn_seqX (rn_dropX (d_call rfl rfl in_nm c0))
  | true =>
    rw [hb, if_pos rfl] at hr c0
    cases hc : rdB L y with
    | false =>
      rw [hc, if_neg (by simp)] at hr c1
      have hg : goR L rs (.mend x y) = (rs, .inr BW) := by unfold goR; rw [hr]; rfl
      rw [hg]
      refine rn_bodyX rfl ?_
      show rn a _ (b_Bench__mend [some (false, .rf a), some (false, x), some (false, y)]) = _
      unfold b_Bench__mend
      rw [rn_seq (rn_drop (d_call rfl rfl in_nm c0))]
      exact rn_seqX (rn_dropX (d_call rfl rfl in_rd c1))
    | true =>
      rw [hc, if_pos rfl] at hr c1
      obtain ⟨n, rfl, hn⟩ := nmB_nat hb
      obtain ⟨w, rfl, hw, _⟩ := rdB_str hc
      have e : natD (nI n) = n := by show ((n : Int)).toNat = n; omega
      have hg : goR L rs (.mend (nI n) (.str w)) = (.mend n w :: rs, .inl (.s, .non)) := by
        unfold goR
        rw [hr, if_pos rfl]
        show (Deed.mend (natD (nI n)) w :: rs, _) = _
        rw [e]; rfl
      rw [hg]
      refine rn_bodyN (e := [some (false, .rf a), some (false, nI n), some (false, .str w)]) rfl ?_
      show rn a _ (b_Bench__mend [some (false, .rf a), some (false, nI n), some (false, .str w)]) = _
      unfold b_Bench__mend
      rw [rn_seq (rn_drop (d_call rfl rfl in_nm c0)), rn_seq (rn_drop (d_call rfl rfl in_rd c1))]
      exact d_do (d := .mend n w) rfl rfl ⟨hv, hw, av_len hy, hn⟩ hl
end
end Y

namespace Y
open PySem PySem.Spec PyProof.Rows L2 Z
def rtR : Vl ⊕ Ex → Out ⊕ Ex
  | .inl v => .inl (.rt v)
  | .inr e => .inr e
def pl : Vl ⊕ Ex → Prop
  | .inl v => isV v = false
  | .inr _ => True
section
variable {a : Addr} {s s' : D} {env : Env} {r : Vl ⊕ Ex} {fv : Env → M Vl} {fo go : Env → M Out} {b : Bool}
theorem rn_retE (h : rn a s (fv env) = some (s', r)) (hv : pl r) : rn a s (bRet fv env) = some (s', rtR r) := by
  cases r with
  | inl v => exact rn_ret h hv
  | inr e => exact rn_retX h
theorem rn_bodyE {ar N : Nat} {b : Env → M Out} {ds : List D} (hl : ds.length = ar) (h : rn a s (b (ds.map (fun d => some (false, d)) ++ List.replicate (N - ar) none)) = some (s', rtR r)) : rn a s (bodyM ar N b ds) = some (s', r) := by
  cases r with
  | inl v => exact rn_body (o := .rt v) hl h (.inl rfl)
  | inr e => exact rn_bodyX hl h
theorem rn_seqE (h : rn a s (fo env) = some (s', rtR r)) : rn a s (bSeq fo go env) = some (s', rtR r) := by
  cases r with
  | inl v => exact rn_seqR h
  | inr e => exact rn_seqX h
theorem rn_skip {ft : Env → M Bool} (h : ft env = .ok false) : rn a s (bIf ft fo bNext env) = some (s, .inl (.nx env)) := by
  rw [bIf_f h]; rfl
end
section
variable {L : Nat} {rs : List Deed} {a : Addr} {x y : D}
theorem goR_pl (sh : Sh) : pl (goR L rs sh).2 := by
  unfold goR
  by_cases h : rfN L rs sh = 0
  · rw [if_pos h]; rfl
  · rw [if_neg h]; trivial
theorem atI_n {ds : List D} {n : Nat} (h : n < ds.length) : atI ds (n : Int) = ds[n]? := by
  unfold atI
  rw [ixN_nat h]
  rfl
theorem ix_1 {env : Env} {i : Nat} {x y : D} {r : List D} (h : eVar i env = .ok (.s, .tup (x :: y :: r))) : eIxA (eVar i) (eC (.int 1)) env = .ok (.s, y) := by
  unfold eIxA
  rw [h, ok_bind]
  show (M.of (atI (x :: y :: r) ((1 : Nat) : Int))).bind _ = _
  rw [atI_n (by simp)]
  rfl
theorem ix_2 {env : Env} {i : Nat} {x y z : D} {r : List D} (h : eVar i env = .ok (.s, .tup (x :: y :: z :: r))) : eIxA (eVar i) (eC (.int 2)) env = .ok (.s, z) := by
  unfold eIxA
  rw [h, ok_bind]
  show (M.of (atI (x :: y :: z :: r) ((2 : Nat) : Int))).bind _ = _
  rw [atI_n (by simp)]
  rfl
theorem q_do {sh : Sh} (hs : Sv sh) (hv : Va rs) (hl : rs.length < 1000) : rn a (bs L rs) (m__law_do [.rf a, shD sh]) = some (bs L (goR L rs sh).1, (goR L rs sh).2) := by
  refine rn_bodyE rfl ?_
  show rn a _ (b__law_do [some (false, .rf a), some (false, shD sh)]) = _
  unfold b__law_do
  cases sh with
  | add x =>
    refine rn_seqE ?_
    rw [bIf_t (is_word_at (a := aS) (b := aS) (ds := [.str aS, x]) rfl rfl)]
    refine rn_retE ?_ (goR_pl _)
    rw [rn_meth (xs := [(.s, x)]) rfl in_add (cons_ok (ix_1 rfl) nil1) rfl]
    exact r_add hs hv hl
  | strike x =>
    rw [rn_seq (rn_skip (is_word_at (a := kS) (b := aS) (ds := [.str kS, x]) rfl rfl))]
    refine rn_seqE ?_
    rw [bIf_t (is_word_at (a := kS) (b := kS) (ds := [.str kS, x]) rfl rfl)]
    refine rn_retE ?_ (goR_pl _)
    rw [rn_meth (xs := [(.s, x)]) rfl in_strike (cons_ok (ix_1 rfl) nil1) rfl]
    exact r_strike hs hv hl
  | undo =>
    rw [rn_seq (rn_skip (is_word_at (a := uS) (b := aS) (ds := [.str uS]) rfl rfl)), rn_seq (rn_skip (is_word_at (a := uS) (b := kS) (ds := [.str uS]) rfl rfl))]
    refine rn_retE ?_ (goR_pl _)
    have e : eB (eOp eqB (eIxA (eVar 1) (eC (.int 0))) (eC (.str [117, 110, 100, 111]))) [some (false, .rf a), some (false, shD .undo)] = .ok true := is_word_at (a := uS) (b := uS) (ds := [.str uS]) rfl rfl
    unfold eIf
    rw [e, ok_bind, if_pos rfl, rn_meth (xs := []) rfl in_undo nil1 rfl]
    show rn a _ (m_Bench__undo [.rf a]) = _
    rw [r_undo hv]
    cases rs with
    | nil => rfl
    | cons d r => rfl
  | mend x y =>
    rw [rn_seq (rn_skip (is_word_at (a := mS) (b := aS) (ds := [.str mS, x, y]) rfl rfl)), rn_seq (rn_skip (is_word_at (a := mS) (b := kS) (ds := [.str mS, x, y]) rfl rfl))]
    refine rn_retE ?_ (goR_pl _)
    have e : eB (eOp eqB (eIxA (eVar 1) (eC (.int 0))) (eC (.str [117, 110, 100, 111]))) [some (false, .rf a), some (false, shD (.mend x y))] = .ok false := is_word_at (a := mS) (b := uS) (ds := [.str mS, x, y]) rfl rfl
    unfold eIf
    rw [e, ok_bind, if_neg Bool.false_ne_true, rn_meth (xs := [(.s, x), (.s, y)]) rfl in_mend (cons_ok (ix_1 rfl) (cons_ok (ix_2 rfl) nil1)) rfl]
    exact r_mend hs.1 hs.2 hv hl
abbrev lenS : List Nat := [108, 101, 110, 103, 116, 104]
abbrev rdsS : List Nat := [114, 101, 97, 100, 115]
abbrev logS : List Nat := [108, 111, 103]
abbrev ahdS : List Nat := [97, 104, 101, 97, 100]
def accD (L : Nat) : List Deed → D
  | [] => .dic [(.inr lenS, nI L), (.inr rdsS, .dic (kD (Kn []))), (.inr logS, .lst (dsD [])), (.inr ahdS, .non)]
  | d :: r => .dic [(.inr lenS, nI L), (.inr rdsS, .dic (kD (Kn (d :: r)))), (.inr logS, .lst (dsD (d :: r))), (.inr ahdS, accD L r)]
def ahD (L : Nat) : List Deed → D
  | [] => .non
  | _ :: r => accD L r
theorem accD_eq : accD L rs = .dic [(.inr lenS, nI L), (.inr rdsS, .dic (kD (Kn rs))), (.inr logS, .lst (dsD rs)), (.inr ahdS, ahD L rs)] := by
  cases rs <;> rfl
section
variable {i : Nat} {env : Env}
theorem a_len (h : eVar i env = .ok (.s, accD L rs)) : eIxA (eVar i) (eC (.str lenS)) env = .ok (.s, nI L) := by
  unfold eIxA
  rw [h, ok_bind, accD_eq]
  rfl
theorem a_rds (h : eVar i env = .ok (.s, accD L rs)) : eIxA (eVar i) (eC (.str rdsS)) env = .ok (.s, .dic (kD (Kn rs))) := by
  unfold eIxA
  rw [h, ok_bind, accD_eq]
  rfl
theorem a_log (h : eVar i env = .ok (.s, accD L rs)) : eIxA (eVar i) (eC (.str logS)) env = .ok (.s, .lst (dsD rs)) := by
  unfold eIxA
  rw [h, ok_bind, accD_eq]
  rfl
theorem a_ahd (h : eVar i env = .ok (.s, accD L rs)) : eIxA (eVar i) (eC (.str ahdS)) env = .ok (.s, ahD L rs) := by
  unfold eIxA
  rw [h, ok_bind, accD_eq]
  rfl
end
theorem q_begun_bench : m__law_begun_bench [nI L] = .ok (.o, accD L []) := by
  refine body_run rfl ?_
  show b__law_begun_bench [some (false, nI L)] = _
  unfold b__law_begun_bench bRet
  rfl
theorem q_is_read (hx : Av x) : m__law_is_read [x, nI L] = .ok (.s, .bl (rdB L x)) := by
  refine body_run rfl ?_
  show b__law_is_read [some (false, x), some (false, nI L), none] = _
  unfold b__law_is_read
  by_cases hs : ∃ w, x = .str w
  · obtain ⟨w, rfl⟩ := hs
    have hl := av_len hx
    have hok := av_ok hx
    have e1 : eOr (eNot (eB (eCB (isiD XT) (eCons (eVar 0) (eCons (eC (.ty "str")) eNil))))) (eB (eOp ltD (eCB lenD (eCons (eVar 0) eNil)) (eOp addD (eVar 1) (eC (.int 1))))) [some (false, .str w), some (false, nI L), none] = .ok (decide (w.length < L + 1)) := by
      have h1 : eNot (eB (eCB (isiD XT) (eCons (eVar 0) (eCons (eC (.ty "str")) eNil)))) [some (false, .str w), some (false, nI L), none] = .ok false := by simp [bodyM, eVar, eC, eOp, eUn, eNil, eCons, eCB, eCO, eCOV, eLst, eTup, eB, eAnd, eOr, eNot, eBv, eAndV, eOrV, eNotV, eIf, eChain, eCall, okA, eTgN, eTgNil, eTgCons, eTgT, eRng, wipeE, noOwn, eLc, eYes, eDc, bNext, bSeq, bRet, bSet, bAsg, bDrop, bIf, bRaise, bFor, frzE, bFrz, setsE, bSets, isiD, tyName, chars, rng_len, eDGet2, eDNew, bApp, ownL, ownD, bDPut, eSl, ePart, eNo, eItA, itA, itD, eIxA, eJoin, isV, iop, cop, subD, modD, fdivD, leD, gtD, geD, eqB, neB, isBlD, notBlD, keyD, isDic]
      have h2 : eB (eOp ltD (eCB lenD (eCons (eVar 0) eNil)) (eOp addD (eVar 1) (eC (.int 1)))) [some (false, .str w), some (false, nI L), none] = .ok (decide (w.length < L + 1)) := by
        refine tB_ok (op_ok (x := (.s, nI w.length)) (y := (.s, nI (L + 1))) (len_s (fa := eVar 0) rfl (by omega)) rfl ?_ rfl rfl)
        show some (D.bl (decide ((w.length : Int) < ((L + 1 : Nat) : Int)))) = _
        rw [show decide ((w.length : Int) < ((L + 1 : Nat) : Int)) = decide (w.length < L + 1) from decide_eq_decide.mpr (by omega)]
      exact tOr_ok h1 fun _ => h2
    by_cases hb : w.length < L + 1
    · rw [decide_eq_true hb] at e1
      have h2 : rdB L (.str w) = false := by
        show (wordI w && decide (L < w.length)) = false
        rw [decide_eq_false (by omega), Bool.and_false]
      rw [h2]
      unfold bSeq
      rw [bIf_t e1]
      rfl
    · rw [decide_eq_false hb] at e1
      refine seq_run (e' := [some (false, .str w), some (false, nI L), none]) (by rw [bIf_f e1]; rfl) ?_
      have h2 : rdB L (.str w) = lineI w := by
        show ((lineI w && decide (0 < w.length)) && decide (L < w.length)) = lineI w
        rw [decide_eq_true (by omega), decide_eq_true (by omega), Bool.and_true, Bool.and_true]
      rw [h2]
      have hlc : eLc (eItA (eVar 0)) (eTgN 2) (eB (eOp notInAB (eVar 2) (eC (.str [97, 99, 103, 116])))) (eVar 2) [2] [some (false, D.str w), some (false, nI L), none] = .ok (.o, .lst ((w.filter fun c => !inS [c] [97, 99, 103, 116]).map fun c => D.str [c])) := by
        rw [eLc_ok (fun c => D.str [c]) (fun c => D.str [c]) (fun c => !inS [c] [97, 99, 103, 116]) (xs := w) rfl (by omega) rfl rfl fun c _ => ⟨[some (false, D.str w), some (false, nI L), some (false, .str [c])], rfl, by simp [bodyM, eVar, eC, eOp, eUn, eNil, eCons, eCB, eCO, eCOV, eLst, eTup, eB, eAnd, eOr, eNot, eBv, eAndV, eOrV, eNotV, eIf, eChain, eCall, okA, eTgN, eTgNil, eTgCons, eTgT, eRng, wipeE, noOwn, eLc, eYes, eDc, bNext, bSeq, bRet, bSet, bAsg, bDrop, bIf, bRaise, bFor, frzE, bFrz, setsE, bSets, isiD, tyName, chars, rng_len, eDGet2, eDNew, bApp, ownL, ownD, bDPut, eSl, ePart, eNo, eItA, itA, itD, eIxA, eJoin, isV, iop, cop, subD, modD, fdivD, leD, gtD, geD, eqB, neB, isBlD, notBlD, keyD, isDic, notInAB, inA, inD], fun _ => ⟨.s, rfl, rfl⟩⟩]
      refine ret_ok (op_ok (y := (.o, .lst [])) hlc rfl ?_ rfl rfl)
      show (eqD _ _).map _ = _
      rw [eq_notin hok]
      rfl
  · have h2 : rdB L x = false := by
      cases x <;> first
        | rfl
        | exact (hs ⟨_, rfl⟩).elim
    rw [h2]
    have h1 : eCB (isiD XT) (eCons (eVar 0) (eCons (eC (.ty "str")) eNil)) [some (false, x), some (false, nI L), none] = .ok (.s, .bl false) := by
      have h3 : isiD XT [x, .ty "str"] = some (.bl false) := by
        rcases hx with ⟨w, rfl, _⟩ | ⟨i, rfl⟩ | ⟨b, rfl⟩ | hx
        · exact (hs ⟨_, rfl⟩).elim
        · simp [bodyM, eVar, eC, eOp, eUn, eNil, eCons, eCB, eCO, eCOV, eLst, eTup, eB, eAnd, eOr, eNot, eBv, eAndV, eOrV, eNotV, eIf, eChain, eCall, okA, eTgN, eTgNil, eTgCons, eTgT, eRng, wipeE, noOwn, eLc, eYes, eDc, bNext, bSeq, bRet, bSet, bAsg, bDrop, bIf, bRaise, bFor, frzE, bFrz, setsE, bSets, isiD, tyName, chars, rng_len, eDGet2, eDNew, bApp, ownL, ownD, bDPut, eSl, ePart, eNo, eItA, itA, itD, eIxA, eJoin, isV, iop, cop, subD, modD, fdivD, leD, gtD, geD, eqB, neB, isBlD, notBlD, keyD, isDic]
        · simp [bodyM, eVar, eC, eOp, eUn, eNil, eCons, eCB, eCO, eCOV, eLst, eTup, eB, eAnd, eOr, eNot, eBv, eAndV, eOrV, eNotV, eIf, eChain, eCall, okA, eTgN, eTgNil, eTgCons, eTgT, eRng, wipeE, noOwn, eLc, eYes, eDc, bNext, bSeq, bRet, bSet, bAsg, bDrop, bIf, bRaise, bFor, frzE, bFrz, setsE, bSets, isiD, tyName, chars, rng_len, eDGet2, eDNew, bApp, ownL, ownD, bDPut, eSl, ePart, eNo, eItA, itA, itD, eIxA, eJoin, isV, iop, cop, subD, modD, fdivD, leD, gtD, geD, eqB, neB, isBlD, notBlD, keyD, isDic]
        · rcases odd_ok x hx with ⟨z, rfl, _⟩ | ⟨_, h⟩
          · exact (hs ⟨_, rfl⟩).elim
          · exact h
      exact cb_ok (xs := [(.s, x), (.s, .ty "str")]) rfl h3 rfl
    have e1 : eOr (eNot (eB (eCB (isiD XT) (eCons (eVar 0) (eCons (eC (.ty "str")) eNil))))) (eB (eOp ltD (eCB lenD (eCons (eVar 0) eNil)) (eOp addD (eVar 1) (eC (.int 1))))) [some (false, x), some (false, nI L), none] = .ok true := by
      refine tOr_ok (a := true) (b := true) ?_ fun z => nomatch z
      unfold eNot
      rw [tB_ok h1]
      rfl
    unfold bSeq
    rw [bIf_t e1]
    rfl
end
end Y

namespace Y
open PySem PySem.Spec PyProof.Rows L2 Z
abbrev ixS : List Nat := [105, 110, 100, 101, 120]
abbrev wdS : List Nat := [119, 111, 114, 100]
abbrev mnS : List Nat := [109, 97, 110, 121]
abbrev ntS : List Nat := [110, 111, 116, 104, 105, 110, 103]
def wdN : Nat → List Nat
  | 0 => []
  | 1 => ixS
  | 2 => wdS
  | 3 => mnS
  | _ => ntS
section
variable {L : Nat} {rs : List Deed} {x y : D}
theorem ahD_non : isNonD (ahD L rs) = decide (rs = []) := by
  cases rs with
  | nil => rfl
  | cons d r => show isNonD (accD L r) = _; rw [accD_eq]; simp [isNonD]
theorem is_word_in {a : List Nat} {ws : List (List Nat)} {i : Nat} {env : Env} {ds : List D} {fl : Env → M Vl} (h : eVar i env = .ok (.s, .tup ds)) (h2 : ds.head? = some (.str a)) (h3 : fl env = .ok (.o, .lst (ws.map .str))) : eB (eOp inAB (eIxA (eVar i) (eC (.int 0))) fl) env = .ok (decide (a ∈ ws)) := tB_ok (op_ok (y := (.o, .lst (ws.map .str))) (word_at (x := .non) h h2) h3 (inAB_strs ws a) rfl rfl)
theorem ref_body {sd : D} {b1 b2 b3 b4 : Bool}
    (h1 : eB (eOp eqB (eIxA (eVar 1) (eC (.int 0))) (eC (.str uS))) [some (false, accD L rs), some (false, sd), some (false, .dic (kD (Kn rs)))] = .ok b1)
    (h2 : b1 = false → eAnd (eB (eOp inAB (eIxA (eVar 1) (eC (.int 0))) (eLst (eCons (eC (.str [115, 116, 114, 105, 107, 101])) (eCons (eC (.str [109, 101, 110, 100])) eNil))))) (eOr (eNot (eB (eCall m__law_is_int (eCons (eIxA (eVar 1) (eC (.int 1))) eNil)))) (eB (eOp notInAB (eIxA (eVar 1) (eC (.int 1))) (eVar 2)))) [some (false, accD L rs), some (false, sd), some (false, .dic (kD (Kn rs)))] = .ok b2)
    (h3 : b1 = false → b2 = false → eAnd (eB (eOp inAB (eIxA (eVar 1) (eC (.int 0))) (eLst (eCons (eC (.str [97, 100, 100])) (eCons (eC (.str [109, 101, 110, 100])) eNil))))) (eNot (eB (eCall m__law_is_read (eCons (eIxA (eVar 1) (eUn negD (eC (.int 1)))) (eCons (eIxA (eVar 0) (eC (.str [108, 101, 110, 103, 116, 104]))) eNil))))) [some (false, accD L rs), some (false, sd), some (false, .dic (kD (Kn rs)))] = .ok b3)
    (h4 : b1 = false → b2 = false → b3 = false → eAnd (eB (eOp eqB (eIxA (eVar 1) (eC (.int 0))) (eC (.str [97, 100, 100])))) (eB (eOp gtD (eCB lenD (eCons (eVar 2) eNil)) (eC (.int 19)))) [some (false, accD L rs), some (false, sd), some (false, .dic (kD (Kn rs)))] = .ok b4) :
    m__law_refusal [accD L rs, sd] = .ok (.s, .str (if b1 then (if rs = [] then ntS else []) else if b2 then ixS else if b3 then wdS else if b4 then mnS else [])) := by
  refine body_run rfl ?_
  show b__law_refusal [some (false, accD L rs), some (false, sd), none] = _
  unfold b__law_refusal
  refine seq_run (e' := [some (false, accD L rs), some (false, sd), some (false, .dic (kD (Kn rs)))]) ?_ ?_
  · unfold bSet
    rw [a_rds (L := L) (rs := rs) rfl]
    rfl
  cases b1 with
  | true =>
    unfold bSeq
    rw [bIf_t h1]
    have e : eB (eIsN false (eIxA (eVar 0) (eC (.str [97, 104, 101, 97, 100])))) [some (false, accD L rs), some (false, sd), some (false, .dic (kD (Kn rs)))] = .ok (decide (rs = [])) := by
      refine tB_ok ?_
      unfold eIsN
      rw [a_ahd (L := L) (rs := rs) rfl, ok_bind]
      show M.ok ((Md.s, D.bl (false ^^ isNonD (ahD L rs))) : Vl) = _
      rw [ahD_non]
      simp
    unfold bRet eIf
    rw [e, ok_bind]
    by_cases hr : rs = []
    · rw [decide_eq_true hr, if_pos rfl, if_pos rfl, if_pos hr]; rfl
    · rw [decide_eq_false hr, if_neg Bool.false_ne_true, if_pos rfl, if_neg hr]; rfl
  | false =>
    refine seq_run (by rw [bIf_f h1]; rfl) ?_
    rw [if_neg Bool.false_ne_true]
    cases b2 with
    | true =>
      unfold bSeq
      rw [bIf_t (h2 rfl)]
      rfl
    | false =>
      refine seq_run (by rw [bIf_f (h2 rfl)]; rfl) ?_
      rw [if_neg Bool.false_ne_true]
      cases b3 with
      | true =>
        unfold bSeq
        rw [bIf_t (h3 rfl rfl)]
        rfl
      | false =>
        refine seq_run (by rw [bIf_f (h3 rfl rfl)]; rfl) ?_
        rw [if_neg Bool.false_ne_true]
        unfold bRet eIf
        rw [h4 rfl rfl rfl, ok_bind]
        cases b4 <;> rfl
theorem read_at {sd : D} {z : D} (hz : Av z) (h : eIxA (eVar 1) (eUn negD (eC (.int 1))) [some (false, accD L rs), some (false, sd), some (false, .dic (kD (Kn rs)))] = .ok (.s, z)) : eNot (eB (eCall m__law_is_read (eCons (eIxA (eVar 1) (eUn negD (eC (.int 1)))) (eCons (eIxA (eVar 0) (eC (.str [108, 101, 110, 103, 116, 104]))) eNil)))) [some (false, accD L rs), some (false, sd), some (false, .dic (kD (Kn rs)))] = .ok (!rdB L z) := by
  have : eCall m__law_is_read (eCons (eIxA (eVar 1) (eUn negD (eC (.int 1)))) (eCons (eIxA (eVar 0) (eC (.str [108, 101, 110, 103, 116, 104]))) eNil)) [some (false, accD L rs), some (false, sd), some (false, .dic (kD (Kn rs)))] = .ok (.s, .bl (rdB L z)) := call_ok (xs := [(.s, z), (.s, nI L)]) (cons_ok h (cons_ok (a_len (L := L) (rs := rs) rfl) nil1)) rfl (q_is_read hz)
  unfold eNot
  rw [tB_ok this]
  rfl
theorem num_at {sd : D} {z : D} (hz : Av z) (h : eIxA (eVar 1) (eC (.int 1)) [some (false, accD L rs), some (false, sd), some (false, .dic (kD (Kn rs)))] = .ok (.s, z)) : eOr (eNot (eB (eCall m__law_is_int (eCons (eIxA (eVar 1) (eC (.int 1))) eNil)))) (eB (eOp notInAB (eIxA (eVar 1) (eC (.int 1))) (eVar 2))) [some (false, accD L rs), some (false, sd), some (false, .dic (kD (Kn rs)))] = .ok (!nmB (Kn rs) z) := by
  have h1 : eCall m__law_is_int (eCons (eIxA (eVar 1) (eC (.int 1))) eNil) [some (false, accD L rs), some (false, sd), some (false, .dic (kD (Kn rs)))] = .ok (.s, .bl (isI z)) := call_ok (xs := [(.s, z)]) (cons_ok h nil1) rfl (av_int hz).2
  have h2 : eNot (eB (eCall m__law_is_int (eCons (eIxA (eVar 1) (eC (.int 1))) eNil))) [some (false, accD L rs), some (false, sd), some (false, .dic (kD (Kn rs)))] = .ok (!isI z) := by
    unfold eNot
    rw [tB_ok h1]
    rfl
  have e4 : (!nmB (Kn rs) z) = (!isI z || !nmB (Kn rs) z) := by cases z <;> rfl
  rw [e4]
  refine tOr_ok h2 fun hi => ?_
  have hi : isI z = true := by simpa using hi
  obtain ⟨i, rfl⟩ : ∃ i, z = .int i := by
    cases z <;> first
      | exact ⟨_, rfl⟩
      | cases hi
  exact tB_ok (op_ok (x := (.s, .int i)) (y := (.s, .dic (kD (Kn rs)))) (d := .bl (!nmB (Kn rs) (.int i))) h rfl rfl rfl rfl)
theorem q_refusal {sh : Sh} (hs : Sv sh) (hv : Va rs) : m__law_refusal [accD L rs, shD sh] = .ok (.s, .str (wdN (rfN L rs sh))) := by
  have len2 : ∀ sd : D, eCB lenD (eCons (eVar 2) eNil) [some (false, accD L rs), some (false, sd), some (false, .dic (kD (Kn rs)))] = .ok (.s, nI (Kn rs).length) := fun sd => cb_ok (xs := [(.s, .dic (kD (Kn rs)))]) rfl (by show lenD [.dic (kD (Kn rs))] = _; rw [lenD_dic, kD_len]) rfl
  cases sh with
  | add x =>
    have h := ref_body (L := L) (rs := rs) (sd := shD (.add x)) (b1 := false) (b2 := false) (b3 := !rdB L x) (b4 := decide (19 < (Kn rs).length)) (is_word_at (a := aS) (b := uS) (ds := [.str aS, x]) rfl rfl)
      (fun _ => tAnd_ok (b := false) (is_word_in (a := aS) (ws := [kS, mS]) (ds := [.str aS, x]) rfl rfl rfl) fun z => absurd z (by decide))
      (fun _ _ => tAnd_ok (a := true) (is_word_in (a := aS) (ws := [aS, mS]) (ds := [.str aS, x]) rfl rfl rfl) fun z => read_at hs rfl)
      (fun _ _ _ => tAnd_ok (a := true) (is_word_at (a := aS) (b := aS) (ds := [.str aS, x]) rfl rfl) fun _ => gt_1 (m := 19) (len2 _))
    rw [h]
    have hr : rfN L rs (.add x) = if rdB L x then (if 20 ≤ (Kn rs).length then 3 else 0) else 2 := rfl
    rw [hr, if_neg Bool.false_ne_true, if_neg Bool.false_ne_true]
    cases rdB L x with
    | false => rfl
    | true =>
      rw [if_neg (by simp), if_pos rfl]
      by_cases hk : 20 ≤ (Kn rs).length
      · rw [if_pos hk, if_pos (by simp; omega)]; rfl
      · rw [if_neg hk, if_neg (by simp; omega)]; rfl
  | undo =>
    have h := ref_body (L := L) (rs := rs) (sd := shD .undo) (b1 := true) (b2 := false) (b3 := false) (b4 := false) (is_word_at (a := uS) (b := uS) (ds := [.str uS]) rfl rfl)
      (fun z => nomatch z) (fun z => nomatch z) (fun z => nomatch z)
    rw [h]
    have hr : rfN L rs .undo = if rs = [] then 4 else 0 := rfl
    rw [hr, if_pos rfl]
    by_cases hk : rs = []
    · rw [if_pos hk, if_pos hk]; rfl
    · rw [if_neg hk, if_neg hk]; rfl
  | strike x =>
    have h := ref_body (L := L) (rs := rs) (sd := shD (.strike x)) (b1 := false) (b2 := !nmB (Kn rs) x) (b3 := false) (b4 := false) (is_word_at (a := kS) (b := uS) (ds := [.str kS, x]) rfl rfl)
      (fun _ => tAnd_ok (a := true) (is_word_in (a := kS) (ws := [kS, mS]) (ds := [.str kS, x]) rfl rfl rfl) fun _ => num_at hs (ix_1 rfl))
      (fun _ _ => tAnd_ok (b := false) (is_word_in (a := kS) (ws := [aS, mS]) (ds := [.str kS, x]) rfl rfl rfl) fun z => absurd z (by decide))
      (fun _ _ _ => tAnd_ok (b := false) (is_word_at (a := kS) (b := aS) (ds := [.str kS, x]) rfl rfl) fun z => absurd z (by decide))
    rw [h]
    have hr : rfN L rs (.strike x) = if nmB (Kn rs) x then 0 else 1 := rfl
    rw [hr]
    cases nmB (Kn rs) x <;> rfl
  | mend x y =>
    have h := ref_body (L := L) (rs := rs) (sd := shD (.mend x y)) (b1 := false) (b2 := !nmB (Kn rs) x) (b3 := !rdB L y) (b4 := false) (is_word_at (a := mS) (b := uS) (ds := [.str mS, x, y]) rfl rfl)
      (fun _ => tAnd_ok (a := true) (is_word_in (a := mS) (ws := [kS, mS]) (ds := [.str mS, x, y]) rfl rfl rfl) fun _ => num_at hs.1 (ix_1 rfl))
      (fun _ _ => tAnd_ok (a := true) (is_word_in (a := mS) (ws := [aS, mS]) (ds := [.str mS, x, y]) rfl rfl rfl) fun _ => read_at hs.2 rfl)
      (fun _ _ _ => tAnd_ok (b := false) (is_word_at (a := mS) (b := aS) (ds := [.str mS, x, y]) rfl rfl) fun z => absurd z (by decide))
    rw [h]
    have hr : rfN L rs (.mend x y) = if nmB (Kn rs) x then (if rdB L y then 0 else 2) else 1 := rfl
    rw [hr]
    cases nmB (Kn rs) x <;> cases rdB L y <;> rfl
theorem q_number_of (hl : rs.length < 1000) : m__law_number_of [accD L rs] = .ok (.s, nI (cn rs)) := by
  refine body_run rfl ?_
  show b__law_number_of [some (false, accD L rs), none] = _
  unfold b__law_number_of
  have h1 : eItA (eIxA (eVar 0) (eC (.str [108, 111, 103]))) [some (false, accD L rs), none] = .ok (dsD rs) := by
    unfold eItA
    rw [a_log (L := L) (rs := rs) rfl]
    rfl
  have h2 : eLc (eItA (eIxA (eVar 0) (eC (.str [108, 111, 103])))) (eTgN 1) (eB (eOp eqB (eIxA (eVar 1) (eC (.int 0))) (eC (.str [97, 100, 100])))) (eVar 1) [1] [some (false, accD L rs), none] = .ok (.o, .lst ((rs.reverse.filter isAdd).map ddD)) := by
    have := lc_adds (rs := rs) (i := 1) (env := [some (false, accD L rs), none]) (env' := [some (false, accD L rs), none]) hl rfl rfl fun d => ⟨_, rfl, rfl⟩
    unfold eLc at this ⊢
    rw [h1]
    exact this
  exact ret_ok (len_l h2 rfl (by rw [List.length_map, cn_rev]))
theorem intStr_kD : ∀ ks : Ks, intStr (kD ks) = some (ks.map fun e => ((e.1 : Int), e.2))
  | [] => rfl
  | e :: ks => by
    show (intStr (kD ks)).map _ = _
    rw [intStr_kD ks]
    rfl
theorem ascB_kD : ∀ {ks : Ks}, ks.Pairwise (fun e f => e.1 < f.1) → ascB (ks.map fun e => ((e.1 : Int), e.2)) = true
  | [], _ => rfl
  | [e], _ => rfl
  | e :: f :: ks, h => by
    have ih := ascB_kD (List.pairwise_cons.mp h).2
    have h1 := (List.pairwise_cons.mp h).1 f (List.mem_cons_self ..)
    show (decide ((e.1 : Int) < (f.1 : Int)) && ascB ((f :: ks).map fun e => ((e.1 : Int), e.2))) = true
    rw [ih, decide_eq_true (by omega)]
    rfl
theorem sortIt_kn : sortItD (.dic (kD (Kn rs))) = some (.lst ((Kn rs).map fun e => .tup [nI e.1, .str e.2])) := by
  unfold sortItD
  dsimp only
  rw [intStr_kD]
  show (if ascB _ = true then _ else _) = _
  rw [if_pos (ascB_kD (kn_asc rs).1), List.map_map]
  rfl
theorem kv_kD : ∀ ks : Ks, kvPairs (ks.map fun e => .tup [nI e.1, .str e.2]) = some (kD ks)
  | [] => rfl
  | e :: ks => by
    show ((keyD (nI e.1)).bind fun q => (kvPairs (ks.map fun e => .tup [nI e.1, .str e.2])).map fun es => (q, D.str e.2) :: es) = _
    rw [kv_kD ks]
    rfl
theorem merge_kD : ∀ (ks : Ks) (pre : Ks), (pre ++ ks).Pairwise (fun e f => e.1 < f.1) → mergeD (kD pre) (kD ks) = kD (pre ++ ks)
  | [], pre, _ => by rw [List.append_nil]; rfl
  | e :: ks, pre, h => by
    have h' : ((pre ++ [e]) ++ ks).Pairwise (fun e f => e.1 < f.1) := by simpa using h
    have ih := merge_kD ks (pre ++ [e]) h'
    have hn : has pre e.1 = false := by
      unfold has
      rw [List.any_eq_false]
      intro f hf
      have := (List.pairwise_append.mp h).2.2 f hf e (List.mem_cons_self ..)
      simp; omega
    have hp : putD (kD pre) (.inl (e.1 : Int)) (.str e.2) = kD (pre ++ [e]) := by
      unfold putD
      rw [kD_any, hn, if_neg Bool.false_ne_true]
      unfold kD
      rw [List.map_append]
      rfl
    show mergeD (putD (kD pre) (.inl (e.1 : Int)) (.str e.2)) (kD ks) = _
    rw [hp, ih]
    simp
theorem dictP_kn : dictPD [.lst ((Kn rs).map fun e => .tup [nI e.1, .str e.2])] = some (.dic (kD (Kn rs))) := by
  show (kvPairs _).map _ = _
  rw [kv_kD]
  show some (D.dic (mergeD (kD []) (kD (Kn rs)))) = _
  rw [merge_kD (Kn rs) [] (by simpa using (kn_asc rs).1)]
  rfl
end
end Y

namespace Y
open PySem PySem.Spec PyProof.Rows L2 Z
theorem dictText_le {n : Nat} {ts : List Str} (h : ∀ t ∈ ts, t.length ≤ n) : (dictText ts).length ≤ 2 + ts.length * (n + 2) := by
  have h1 : (Str.join ", " ts).length ≤ ts.length * (n + 2) := by
    by_cases ht : ts = []
    · subst ht; exact Nat.le_of_eq (by simp; rfl)
    · have := join_length_add ts ht
      have := piled_le h
      omega
  unfold dictText
  rw [len_app, len_app]
  have h2 : (("{" : String) : Str).length = 1 := rfl
  have h3 : (("}" : String) : Str).length = 1 := rfl
  omega
theorem shw_kv {m n k : Nat} : ∀ {es : List (Ky × D)}, (∀ e ∈ es, Shw (keyOf e.1) 0 k ∧ Shw e.2 m n) → ∃ ps, pyd es = some ps ∧ PyData.showableKv ps = true ∧ PyData.depthKv ps ≤ m ∧ (∀ t ∈ PyData.shownKv ps, t.length ≤ k + 2 + n) ∧ (PyData.shownKv ps).length = es.length
  | [], _ => ⟨[], rfl, rfl, Nat.zero_le _, fun _ h => (nomatch h), rfl⟩
  | (q, d) :: es, h => by
    obtain ⟨ps, a, b, c, e, f⟩ := shw_kv fun x hx => h x (List.mem_cons_of_mem _ hx)
    obtain ⟨h1, h2⟩ := h (q, d) (List.mem_cons_self ..)
    obtain ⟨p, a1, b1, c1, e1⟩ := h2.ex
    obtain ⟨p0, a0, b0, c0, e0⟩ := h1.ex
    have ek : p0 = Z.kD (kk q) := by
      cases q <;> (cases a0; rfl)
    subst ek
    refine ⟨(Z.kD (kk q), p) :: ps, by simp [pyd, a, a1], by simp [PyData.showableKv, b, b1, b0], by simp only [PyData.depthKv]; omega, fun t ht => ?_, by simp [PyData.shownKv, f]⟩
    simp only [PyData.shownKv, List.mem_cons] at ht
    rcases ht with rfl | ht
    · rw [len_app, len_app]
      have h3 : ((": " : String) : Str).length = 2 := rfl
      omega
    · exact e t ht
theorem Shw.dic {es : List (Ky × D)} {m n k N : Nat} (h : ∀ e ∈ es, Shw (keyOf e.1) 0 k ∧ Shw e.2 m n) (hl : es.length ≤ N) : Shw (.dic es) (m + 1) (4 + N * (k + 2 + n + 2)) := by
  obtain ⟨ps, a, b, c, e, f⟩ := shw_kv h
  refine ⟨.dict ps, by simp [py, a], by simp [PyData.showable, b], by simp only [PyData.depth]; omega, ?_⟩
  have := dictText_le e
  rw [f] at this
  show (dictText (PyData.shownKv ps)).length ≤ _
  have h2 : es.length * (k + 2 + n + 2) ≤ N * (k + 2 + n + 2) := Nat.mul_le_mul_right _ hl
  omega
theorem cn_le : ∀ rs : List Deed, cn rs ≤ rs.length
  | [] => Nat.le_refl _
  | .add w :: rs => by
    have := cn_le rs
    show cn rs + 1 ≤ _
    simp; omega
  | .strike n :: rs => by
    have := cn_le rs
    show cn rs ≤ _
    simp; omega
  | .mend n w :: rs => by
    have := cn_le rs
    show cn rs ≤ _
    simp; omega
theorem has_lt {rs : List Deed} {n : Nat} (h : has (Kn rs) n = true) : n < cn rs := by
  obtain ⟨e, he, h2⟩ := List.any_eq_true.mp h
  have := (kn_asc rs).2 e he
  rw [of_decide_eq_true h2] at this
  exact this
theorem wd_small {w : List Nat} (h : wordI w = true) : ∀ c ∈ w, c < 16 ^ 8 := fun c hc => by
  have := (wordI_iff.mp h).1 c hc
  have : c = 97 ∨ c = 99 ∨ c = 103 ∨ c = 116 := by simpa [acgt] using this
  omega
theorem shw_w {w : List Nat} (h : wordI w = true) (hl : w.length ≤ 100) : Shw (.str w) 0 1002 := (Shw.str (wd_small h) hl).mono (by omega) (by omega)
theorem shw_n3 {n : Nat} (h : n < 1000) : Shw (nI n) 0 1002 := (Shw.int (k := 5) (by omega) (by omega) (by omega) (by omega)).mono (by omega) (by omega)
theorem shw_c {w : List Nat} (h : w ∈ [aS, kS, mS]) : Shw (.str w) 0 1002 := by
  simp only [List.mem_cons, List.not_mem_nil, or_false] at h
  rcases h with rfl | rfl | rfl <;> exact (Shw.str (n := 6) (by decide) (by decide)).mono (by omega) (by omega)
theorem shw_dd {rs : List Deed} {d : Deed} (h : Va (d :: rs)) (hl : rs.length < 1000) : Shw (ddD d) 1 3016 := by
  have hc := cn_le rs
  cases d with
  | add w => exact (Shw.tup (N := 3) (m := 0) (n := 1002) (fun x hx => by
      simp only [List.mem_cons, List.not_mem_nil, or_false] at hx
      rcases hx with rfl | rfl
      · exact shw_c (by simp)
      · exact shw_w h.2.1 h.2.2.1) (by simp)).mono (by omega) (by omega)
  | strike n =>
    have := has_lt h.2
    exact (Shw.tup (N := 3) (m := 0) (n := 1002) (fun x hx => by
      simp only [List.mem_cons, List.not_mem_nil, or_false] at hx
      rcases hx with rfl | rfl
      · exact shw_c (by simp)
      · exact shw_n3 (by omega)) (by simp)).mono (by omega) (by omega)
  | mend n w =>
    have := has_lt h.2.2.2
    exact (Shw.tup (N := 3) (m := 0) (n := 1002) (fun x hx => by
      simp only [List.mem_cons, List.not_mem_nil, or_false] at hx
      rcases hx with rfl | rfl | rfl
      · exact shw_c (by simp)
      · exact shw_n3 (by omega)
      · exact shw_w h.2.1 h.2.2.1) (by simp)).mono (by omega) (by omega)
theorem shw_log : ∀ {rs : List Deed}, Va rs → rs.length ≤ 1000 → ∀ x ∈ dsD rs, Shw x 1 3016
  | [], _, _, _, h => nomatch h
  | d :: rs, hv, hl, x, h => by
    rw [dsD_cons] at h
    rw [List.length_cons] at hl
    rcases List.mem_append.mp h with h | h
    · exact shw_log hv.tail (by omega) x h
    · rw [List.mem_singleton.mp h]
      exact shw_dd hv (by omega)
theorem shw_kn {rs : List Deed} (hv : Va rs) (hl : rs.length ≤ 900) : Shw (.dic (kD (Kn rs))) 1 20224 := by
  obtain ⟨h1, h2⟩ := kn_small hv
  refine (Shw.dic (N := 20) (m := 0) (n := 1002) (k := 5) (fun e he => ?_) (by rw [kD_len]; exact h1)).mono (by omega) (by omega)
  unfold kD at he
  obtain ⟨p, hp, rfl⟩ := List.mem_map.mp he
  have := (kn_asc rs).2 p hp
  have := cn_le rs
  exact ⟨Shw.int (i := (p.1 : Int)) (by omega) (by omega) (by omega) (by omega), shw_w (h2 p hp).1 (h2 p hp).2⟩
theorem shw_told {L : Nat} {rs : List Deed} (hL : L < 1000) (hv : Va rs) (hl : rs.length ≤ 900) : ∃ s, reprX [.lst [nI L, .dic (kD (Kn rs)), .lst (dsD rs)]] = some (.str s) := by
  refine (Shw.lst (N := 3) (m := 2) (n := 3018004) (fun x hx => ?_) (by simp)).repr (by omega) (by omega)
  simp only [List.mem_cons, List.not_mem_nil, or_false] at hx
  rcases hx with rfl | rfl | rfl
  · exact (shw_n3 hL).mono (by omega) (by omega)
  · exact (shw_kn hv hl).mono (by omega) (by omega)
  · exact (Shw.lst (N := 1000) (shw_log hv (by omega)) (by rw [dsD_len]; omega)).mono (by omega) (by omega)
section
variable {a : Addr} {s s' : D} {env : Env}
theorem rn_nox {α : Type} {m : M α} {x : α} (h : rn a s m = some (s', .inl x)) : rn a s m.nox = some (s', .inl x) := by
  induction m generalizing s with
  | ok y => exact h
  | raise e => cases h
  | bad => cases h
  | take q t k ih => cases h
  | beg k ih => cases h
  | new d k ih => cases h
  | get b k ih =>
    have h : (if b = a then rn a s (k s) else none) = some (s', .inl x) := h
    show (if b = a then rn a s (k s).nox else none) = _
    by_cases e : b = a
    · rw [if_pos e] at h ⊢; exact ih s h
    · rw [if_neg e] at h; cases h
  | put b d k ih =>
    have h : (if b = a then rn a d k else none) = some (s', .inl x) := h
    show (if b = a then rn a d k.nox else none) = _
    by_cases e : b = a
    · rw [if_pos e] at h ⊢; exact ih h
    · rw [if_neg e] at h; cases h
  | frz d k ih => cases h
theorem rn_prop {C : Str} {mm : List D → M Vl} {fo : Env → M Vl} {v : Vl} (h0 : fo env = .ok (.s, .rf a)) (hc : isC C s = true) (h : rn a s (mm [.rf a]) = some (s', .inl v)) : rn a s (eProp0 C mm fo env) = some (s', .inl v) := by
  unfold eProp0 eProp
  rw [h0, ok_bind]
  show (if a = a then rn a s (if isC C s then (mm [.rf a]).nox else .bad) else none) = _
  rw [if_pos rfl, hc, if_pos rfl]
  exact rn_nox h
end
section
variable {a : Addr} {L : Nat} {ds : List D} {ks : Ks} {rs : List Deed} {env : Env} {fo : Env → M Vl}
theorem r_length (h0 : fo env = .ok (.s, .rf a)) : rn a (bx L ds ks) (eProp0 "Bench" m_Bench__length fo env) = some (bx L ds ks, .inl (.s, nI L)) := by
  refine rn_prop h0 rfl (rn_body (o := .rt (.s, nI L)) rfl ?_ (.inl rfl))
  show rn a _ (b_Bench__length [some (false, .rf a)]) = _
  unfold b_Bench__length
  exact rn_ret (rn_fld rfl f_len) rfl
theorem r_reads (h0 : fo env = .ok (.s, .rf a)) : rn a (bx L ds ks) (eProp0 "Bench" m_Bench__reads fo env) = some (bx L ds ks, .inl (.o, .dic (kD ks))) := by
  refine rn_prop h0 rfl (rn_body (o := .rt (.o, .dic (kD ks))) rfl ?_ (.inl rfl))
  show rn a _ (b_Bench__reads [some (false, .rf a)]) = _
  unfold b_Bench__reads
  exact rn_ret (rn_cov (rn_cons (rn_fld rfl f_known) (rn_of rfl)) rfl rfl) rfl
theorem r_log (h0 : fo env = .ok (.s, .rf a)) : rn a (bx L ds ks) (eProp0 "Bench" m_Bench__log fo env) = some (bx L ds ks, .inl (.o, .lst ds)) := by
  refine rn_prop h0 rfl (rn_body (o := .rt (.o, .lst ds)) rfl ?_ (.inl rfl))
  show rn a _ (b_Bench__log [some (false, .rf a)]) = _
  unfold b_Bench__log
  exact rn_ret (rn_cov (rn_cons (rn_fld rfl f_deeds) (rn_of rfl)) rfl rfl) rfl
theorem q_is_as (hL : L < 1000) (hv : Va rs) (hl : rs.length ≤ 900) : rn a (bs L rs) (m__law_is_as [.rf a, accD L rs]) = some (bs L rs, .inl (.s, .bl true)) := by
  obtain ⟨s, hs⟩ := shw_told hL hv hl
  refine rn_body (o := .rt (.s, .bl true)) rfl ?_ (.inl rfl)
  show rn a _ (b__law_is_as [some (false, .rf a), some (false, accD L rs), none]) = _
  unfold b__law_is_as
  have e1 : rn a (bs L rs) (bSet 2 (eLst (eCons (eProp0 "Bench" m_Bench__length (eVar 0)) (eCons (eProp0 "Bench" m_Bench__reads (eVar 0)) (eCons (eProp0 "Bench" m_Bench__log (eVar 0)) eNil)))) [some (false, .rf a), some (false, accD L rs), none]) = some (bs L rs, .inl (.nx [some (false, .rf a), some (false, accD L rs), some (true, .lst [nI L, .dic (kD (Kn rs)), .lst (dsD rs)])])) := by
    have e2 : rn a (bs L rs) (eLst (eCons (eProp0 "Bench" m_Bench__length (eVar 0)) (eCons (eProp0 "Bench" m_Bench__reads (eVar 0)) (eCons (eProp0 "Bench" m_Bench__log (eVar 0)) eNil))) [some (false, .rf a), some (false, accD L rs), none]) = some (bs L rs, .inl (.o, .lst [nI L, .dic (kD (Kn rs)), .lst (dsD rs)])) := by
      unfold eLst eCO
      rw [rn_run (rn_cons (r_length rfl) (rn_cons (r_reads rfl) (rn_cons (r_log rfl) (rn_of rfl))))]
      rfl
    unfold bSet
    rw [rn_run e2]
    rfl
  rw [rn_seq e1]
  refine rn_of ?_
  show bRet _ [some (false, .rf a), some (false, accD L rs), some (false, .lst [nI L, .dic (kD (Kn rs)), .lst (dsD rs)])] = _
  have c1 : eCB reprX (eCons (eVar 2) eNil) [some (false, .rf a), some (false, accD L rs), some (false, .lst [nI L, .dic (kD (Kn rs)), .lst (dsD rs)])] = .ok (.s, .str s) := cb_ok (xs := [(.s, .lst [nI L, .dic (kD (Kn rs)), .lst (dsD rs)])]) rfl hs rfl
  have c2 : eCB reprX (eCons (eLst (eCons (eIxA (eVar 1) (eC (.str [108, 101, 110, 103, 116, 104]))) (eCons (eIxA (eVar 1) (eC (.str [114, 101, 97, 100, 115]))) (eCons (eIxA (eVar 1) (eC (.str [108, 111, 103]))) eNil)))) eNil) [some (false, .rf a), some (false, accD L rs), some (false, .lst [nI L, .dic (kD (Kn rs)), .lst (dsD rs)])] = .ok (.s, .str s) :=
    cb_ok (xs := [(.o, .lst [nI L, .dic (kD (Kn rs)), .lst (dsD rs)])]) (cons_ok (lst_3 (a_len (L := L) (rs := rs) rfl) (a_rds (L := L) (rs := rs) rfl) (a_log (L := L) (rs := rs) rfl)) nil1) hs rfl
  refine ret_ok (op_ok c1 c2 ?_ rfl rfl)
  exact eqB_t (str_self s)
end
end Y

namespace Y
open PySem PySem.Spec PyProof.Rows L2 Z
section
variable {L : Nat} {rs : List Deed}
abbrev EH (L : Nat) (rs : List Deed) (d : D) (ks : Ks) (b : Bool) : Env := [some (false, accD L rs), some (false, d), some (b, .dic (kD ks))]
theorem kn_step {L : Nat} {rs : List Deed} {d : Deed} (h : Va (d :: rs)) (hl : rs.length < 1000) : bIf (eB (eOp eqB (eIxA (eVar 1) (eC (.int 0))) (eC (.str [115, 116, 114, 105, 107, 101])))) (bDPop 2 (eIxA (eVar 1) (eC (.int 1)))) (bIf (eB (eOp eqB (eIxA (eVar 1) (eC (.int 0))) (eC (.str [97, 100, 100])))) (bDPut 2 (eCall m__law_number_of (eCons (eVar 0) eNil)) (eIxA (eVar 1) (eC (.int 1)))) (bDPut 2 (eIxA (eVar 1) (eC (.int 1))) (eIxA (eVar 1) (eC (.int 2))))) (EH L rs (ddD d) (Kn rs) true) = .ok (.nx (EH L rs (ddD d) (Kn (d :: rs)) true)) := by
  have hl := (kn_small h.tail).1
  have hl2 : ¬ 1000000 ≤ (kD (Kn rs)).length := by unfold kD; rw [List.length_map]; omega
  cases d with
  | add w =>
    rw [bIf_f (is_word_at (a := aS) (b := kS) (ds := [.str aS, .str w]) rfl rfl), bIf_t (is_word_at (a := aS) (b := aS) (ds := [.str aS, .str w]) rfl rfl)]
    have e1 : eIxA (eVar 1) (eC (.int 1)) (EH L rs (ddD (.add w)) (Kn rs) true) = .ok (.s, .str w) := rfl
    have e2 : eCall m__law_number_of (eCons (eVar 0) eNil) (EH L rs (ddD (.add w)) (Kn rs) true) = .ok (.s, nI (cn rs)) := call_ok (xs := [(.s, accD L rs)]) rfl rfl (q_number_of (by assumption))
    unfold bDPut
    rw [e1, ok_bind, e2]
    show (if isV ((Md.s, D.str w) : Vl) || decide (1000000 ≤ (kD (Kn rs)).length) then M.bad else M.ok (Out.nx ((EH L rs (ddD (.add w)) (Kn rs) true).set 2 (some (true, .dic (putD (kD (Kn rs)) (.inl (cn rs : Int)) (.str w))))))) = _
    rw [if_neg (by simp [isV, hl2]), put_add]
    rfl
  | strike n =>
    rw [bIf_t (is_word_at (a := kS) (b := kS) (ds := [.str kS, nI n]) rfl rfl)]
    unfold bDPop
    show (if (getD (kD (Kn rs)) (.inl (n : Int))).isSome then M.ok (Out.nx ((EH L rs (ddD (.strike n)) (Kn rs) true).set 2 (some (true, .dic (dropD (kD (Kn rs)) (.inl (n : Int))))))) else M.bad) = _
    rw [kD_get, h.2, if_pos rfl, drop_strike]
    rfl
  | mend n w =>
    rw [bIf_f (is_word_at (a := mS) (b := kS) (ds := [.str mS, nI n, .str w]) rfl rfl), bIf_f (is_word_at (a := mS) (b := aS) (ds := [.str mS, nI n, .str w]) rfl rfl)]
    unfold bDPut
    show (if isV ((Md.s, D.str w) : Vl) || decide (1000000 ≤ (kD (Kn rs)).length) then M.bad else M.ok (Out.nx ((EH L rs (ddD (.mend n w)) (Kn rs) true).set 2 (some (true, .dic (putD (kD (Kn rs)) (.inl (n : Int)) (.str w))))))) = _
    rw [if_neg (by simp [isV, hl2]), put_mend h.2.2.2]
    rfl
theorem dd_not_undo (d : Deed) : ∃ s r, ddD d = .tup (.str s :: r) ∧ s ≠ uS := by
  cases d with
  | add w => exact ⟨_, _, rfl, by decide⟩
  | strike n => exact ⟨_, _, rfl, by decide⟩
  | mend n w => exact ⟨_, _, rfl, by decide⟩
theorem q_behindD {d : Deed} (h : Va (d :: rs)) (hl : rs.length < 1000) : m__law_behind [accD L rs, ddD d] = .ok (.o, accD L (d :: rs)) := by
  refine body_run rfl ?_
  show b__law_behind [some (false, accD L rs), some (false, ddD d), none] = _
  unfold b__law_behind
  obtain ⟨s, r, e1, e2⟩ := dd_not_undo d
  refine seq_run (e' := [some (false, accD L rs), some (false, ddD d), none]) ?_ ?_
  · have := is_word_at (a := s) (b := uS) (i := 1) (env := [some (false, accD L rs), some (false, ddD d), none]) (ds := .str s :: r) (by rw [← e1]; rfl) rfl
    rw [decide_eq_false e2] at this
    rw [bIf_f this]
    rfl
  refine seq_run (e' := EH L rs (ddD d) (Kn rs) true) ?_ ?_
  · have e3 : eUn sortItD (eIxA (eVar 0) (eC (.str [114, 101, 97, 100, 115]))) [some (false, accD L rs), some (false, ddD d), none] = .ok (.s, .lst ((Kn rs).map fun e => .tup [nI e.1, .str e.2])) := by
      unfold eUn
      rw [a_rds (L := L) (rs := rs) rfl, ok_bind, sortIt_kn]
      rfl
    unfold bSet
    rw [cov_ok (cons_ok e3 nil1) dictP_kn rfl]
    rfl
  refine seq_run (kn_step h hl) ?_
  show bRet _ (EH L rs (ddD d) (Kn (d :: rs)) false) = _
  have e5 : eOp addD (eIxA (eVar 0) (eC (.str [108, 111, 103]))) (eLst (eCons (eVar 1) eNil)) (EH L rs (ddD d) (Kn (d :: rs)) false) = .ok (.s, .lst (dsD (d :: rs))) := by
    rw [add_l (m1 := .s) (m2 := .o) (a := dsD rs) (b := [ddD d]) (a_log (L := L) (rs := rs) rfl) rfl rfl rfl (by rw [dsD_len]; simp; omega), dsD_cons]
  have e6 := a_len (L := L) (rs := rs) (i := 0) (env := EH L rs (ddD d) (Kn (d :: rs)) false) rfl
  unfold bRet eDisp
  have e7 : ePairs [(eC (.str [108, 101, 110, 103, 116, 104]), eIxA (eVar 0) (eC (.str [108, 101, 110, 103, 116, 104]))), (eC (.str [114, 101, 97, 100, 115]), eVar 2), (eC (.str [108, 111, 103]), eOp addD (eIxA (eVar 0) (eC (.str [108, 111, 103]))) (eLst (eCons (eVar 1) eNil))), (eC (.str [97, 104, 101, 97, 100]), eVar 0)] (EH L rs (ddD d) (Kn (d :: rs)) false) = .ok [(.inr lenS, nI L), (.inr rdsS, .dic (kD (Kn (d :: rs)))), (.inr logS, .lst (dsD (d :: rs))), (.inr ahdS, accD L rs)] := by
    unfold ePairs
    show (eIxA (eVar 0) (eC (.str [108, 101, 110, 103, 116, 104])) (EH L rs (ddD d) (Kn (d :: rs)) false)).bind _ = _
    rw [e6, ok_bind, if_neg (by simp [isV])]
    unfold ePairs
    show ((ePairs [(eC (.str [108, 111, 103]), eOp addD (eIxA (eVar 0) (eC (.str [108, 111, 103]))) (eLst (eCons (eVar 1) eNil))), (eC (.str [97, 104, 101, 97, 100]), eVar 0)] (EH L rs (ddD d) (Kn (d :: rs)) false)).bind fun es => M.ok ((Sum.inr rdsS, D.dic (kD (Kn (d :: rs)))) :: es)).bind _ = _
    unfold ePairs
    show (((eOp addD (eIxA (eVar 0) (eC (.str [108, 111, 103]))) (eLst (eCons (eVar 1) eNil)) (EH L rs (ddD d) (Kn (d :: rs)) false)).bind _).bind _).bind _ = _
    rw [e5, ok_bind, if_neg (by simp [isV])]
    rfl
  rw [e7, ok_bind]
  rfl
theorem q_behindU {d : Deed} : m__law_behind [accD L (d :: rs), .tup [.str uS]] = .ok (.s, accD L rs) := by
  refine body_run rfl ?_
  show b__law_behind [some (false, accD L (d :: rs)), some (false, .tup [.str uS]), none] = _
  unfold b__law_behind bSeq
  rw [bIf_t (is_word_at (a := uS) (b := uS) (ds := [.str uS]) rfl rfl)]
  rfl
theorem q_behind {sh : Sh} (hs : Sv sh) (hv : Va rs) (hl : rs.length < 1000) (h : rfN L rs sh = 0) : ∃ md, isV (md, D.non) = false ∧ m__law_behind [accD L rs, shD sh] = .ok (md, accD L (nxR rs sh)) := by
  by_cases hu : sh = .undo
  · subst hu
    cases rs with
    | nil => cases h
    | cons d r => exact ⟨.s, rfl, q_behindU⟩
  · obtain ⟨d, e1, e2, e3⟩ := sh_deed hs h hu hv
    rw [e1, e2]
    exact ⟨.o, rfl, q_behindD e3 hl⟩
end
theorem q_word_non : m__law_word_of [.non] = .ok (.s, .str []) := by kernel_rfl
theorem q_word_BI : m__law_word_of [.exc BI.C BI.fs] = .ok (.s, .str ixS) := by kernel_rfl
theorem q_word_BW : m__law_word_of [.exc BW.C BW.fs] = .ok (.s, .str wdS) := by kernel_rfl
theorem q_word_TM : m__law_word_of [.exc TM.C TM.fs] = .ok (.s, .str mnS) := by kernel_rfl
theorem q_word_ND : m__law_word_of [.exc ND.C ND.fs] = .ok (.s, .str ntS) := by kernel_rfl
end Y

namespace Y
open PySem PySem.Spec PyProof.Rows L2 Z
section
variable {a : Addr} {s s' : D} {env : Env}
theorem rn_all {α β : Type} {m : M α} {f : α → M β} {g : Ex → M β} : rn a s (m.all f g) = (rn a s m).bind fun p => match p.2 with | .inl x => rn a p.1 (f x) | .inr e => rn a p.1 (g e) := by
  induction m generalizing s with
  | ok x => rfl
  | raise e => rfl
  | bad => rfl
  | take q t k ih => rfl
  | beg k ih => rfl
  | new d k ih => rfl
  | get b k ih =>
    show (if b = a then rn a s ((k s).all f g) else none) = (if b = a then rn a s (k s) else none).bind _
    by_cases h : b = a
    · rw [if_pos h, if_pos h]; exact ih s
    · rw [if_neg h, if_neg h]; rfl
  | put b d k ih =>
    show (if b = a then rn a d (k.all f g) else none) = (if b = a then rn a d k else none).bind _
    by_cases h : b = a
    · rw [if_pos h, if_pos h]; exact ih
    · rw [if_neg h, if_neg h]; rfl
  | frz d k ih => rfl
theorem rn_caught {cat : List Str} {j i : Nat} {fe : Env → M Vl} {ds : List D} {v : Vl} (h0 : ownL env i = some ds) (h : rn a s (fe (hidE env)) = some (s', .inl v)) (hv : isV v = false) (hl : ds.length < 1000000) : rn a s (bCaughtApp cat j i fe env) = some (s', .inl (.nx ((env.set i (some (true, .lst (ds ++ [v.2])))).set j (some (false, .non))))) := by
  unfold bCaughtApp
  rw [h0, of_some, ok_bind, rn_all, h]
  show rn a s' (if isV v || decide (1000000 ≤ ds.length) then .bad else _) = _
  rw [hv, if_neg (by simp; omega)]
  rfl
theorem rn_caughtX {cat : List Str} {j i : Nat} {fe : Env → M Vl} {ds : List D} {e : Ex} (h0 : ownL env i = some ds) (h : rn a s (fe (hidE env)) = some (s', .inr e)) (hc : cat.contains e.C = true) : rn a s (bCaughtApp cat j i fe env) = some (s', .inl (.nx (env.set j (some (false, .exc e.C e.fs))))) := by
  unfold bCaughtApp
  rw [h0, of_some, ok_bind, rn_all, h]
  show rn a s' (if cat.contains e.C then _ else .bad) = _
  rw [if_pos hc]
  rfl
theorem rn_and {f h : Env → M Bool} {x y : Bool} (h1 : rn a s (f env) = some (s, .inl x)) (h2 : x = true → rn a s (h env) = some (s, .inl y)) : rn a s (eAnd f h env) = some (s, .inl (x && y)) := by
  unfold eAnd
  rw [rn_run h1]
  cases x with
  | true => exact h2 rfl
  | false => rfl
theorem rn_seqP {fo go : Env → M Out} {e' : Env} (h : fo env = .ok (.nx e')) : rn a s (bSeq fo go env) = rn a s (go e') := rn_seq (rn_of h)
theorem rn_eIf {ft : Env → M Bool} {fa fb : Env → M Vl} {b : Bool} (h : rn a s (ft env) = some (s, .inl b)) : rn a s (eIf ft fa fb env) = rn a s (if b then fa env else fb env) := by
  unfold eIf
  rw [rn_run h]
end
section
variable {q : Tk} {L : Nat} {rs : List Deed} {a : Addr}
abbrev ES (q : Tk) (a : Addr) (L : Nat) (rs : List Deed) (sd : D) (x4 x5 x6 x7 x8 : OB) : Env := [some (false, .drw q), some (false, .rf a), some (false, accD L rs), some (false, sd), x4, x5, x6, x7, x8]
theorem rf_lt (sh : Sh) : rfN L rs sh ≤ 4 := by
  cases sh with
  | add x =>
    show (if rdB L x then (if 20 ≤ (Kn rs).length then 3 else 0) else 2) ≤ 4
    split
    · split <;> omega
    · omega
  | undo =>
    show (if rs = [] then 4 else 0) ≤ 4
    split <;> omega
  | strike x =>
    show (if nmB (Kn rs) x then 0 else 1) ≤ 4
    split <;> omega
  | mend x y =>
    show (if nmB (Kn rs) x then (if rdB L y then 0 else 2) else 1) ≤ 4
    split
    · split <;> omega
    · omega
theorem wd_exN {k : Nat} (h0 : k ≠ 0) (hk : k ≤ 4) : m__law_word_of [.exc (exN k).C (exN k).fs] = .ok (.s, .str (wdN k)) ∧ CAT.contains (exN k).C = true ∧ wdN k ≠ [] := by
  have c1 : CAT.contains BI.C = true := by decide +kernel
  have c2 : CAT.contains BW.C = true := by decide +kernel
  have c3 : CAT.contains TM.C = true := by decide +kernel
  have c4 : CAT.contains ND.C = true := by decide +kernel
  match k, h0, hk with
  | 1, _, _ => exact ⟨q_word_BI, c1, by decide⟩
  | 2, _, _ => exact ⟨q_word_BW, c2, by decide⟩
  | 3, _, _ => exact ⟨q_word_TM, c3, by decide⟩
  | 4, _, _ => exact ⟨q_word_ND, c4, by decide⟩
theorem limit_tm {env : Env} (h : eVar 6 env = .ok (.s, .exc TM.C TM.fs)) : eExF XF "limit" (eVar 6) env = .ok (.s, nI 20) := by
  unfold eExF
  rw [h, ok_bind]
  rfl
def isOw : Md → Bool
  | .o => true
  | _ => false
theorem st_test3 {k : Nat} {er x4 x7 x8 : OB} {sd ed : D} (he : er = some (false, ed)) (hw : m__law_word_of [ed] = .ok (.s, .str (wdN k))) (h3 : k = 3 → ed = .exc TM.C TM.fs) (hk : wdN k = mnS → k = 3) : eOr (eB (eOp neB (eCall m__law_word_of (eCons (eVar 6) eNil)) (eVar 5))) (eAnd (eB (eOp eqB (eVar 5) (eC (.str [109, 97, 110, 121])))) (eB (eOp neB (eExF XF "limit" (eVar 6)) (eC (.int 20))))) (ES q a L rs sd x4 (some (false, .str (wdN k))) er x7 x8) = .ok false := by
  subst he
  have h1 : eB (eOp neB (eCall m__law_word_of (eCons (eVar 6) eNil)) (eVar 5)) (ES q a L rs sd x4 (some (false, .str (wdN k))) (some (false, ed)) x7 x8) = .ok false :=
    ne_f (x := (.s, .str (wdN k))) (y := (.s, .str (wdN k))) (call_ok (xs := [(.s, ed)]) rfl rfl hw) rfl rfl rfl (str_self _)
  have h2 : eB (eOp eqB (eVar 5) (eC (.str [109, 97, 110, 121]))) (ES q a L rs sd x4 (some (false, .str (wdN k))) (some (false, ed)) x7 x8) = .ok (decide (wdN k = mnS)) :=
    tB_ok (op_ok (x := (.s, .str (wdN k))) (y := (.s, .str mnS)) rfl rfl (by show (eqD _ _).map _ = _; rw [eqD_ss]; rfl) rfl rfl)
  have h4 : eAnd (eB (eOp eqB (eVar 5) (eC (.str [109, 97, 110, 121])))) (eB (eOp neB (eExF XF "limit" (eVar 6)) (eC (.int 20)))) (ES q a L rs sd x4 (some (false, .str (wdN k))) (some (false, ed)) x7 x8) = .ok (decide (wdN k = mnS) && false) := by
    refine tAnd_ok h2 fun z => ?_
    have e := h3 (hk (of_decide_eq_true z))
    subst e
    exact ne_f (x := (.s, nI 20)) (y := (.s, nI 20)) (limit_tm rfl) rfl rfl rfl (nn_self 20)
  rw [Bool.and_false] at h4
  exact tOr_ok h1 fun _ => h4
theorem wd_many {k : Nat} (hk : k ≤ 4) (h : wdN k = mnS) : k = 3 := by
  match k, hk with
  | 0, _ => exact absurd h (by decide)
  | 1, _ => exact absurd h (by decide)
  | 2, _ => exact absurd h (by decide)
  | 3, _ => rfl
  | 4, _ => exact absurd h (by decide)
theorem sh_word (sh : Sh) : ∃ w r, shD sh = .tup (.str w :: r) ∧ ((w = aS ∧ rvR rs sh = nI (cn rs)) ∨ (w ≠ aS ∧ rvR rs sh = .non)) := by
  cases sh with
  | add x => exact ⟨_, _, rfl, .inl ⟨rfl, rfl⟩⟩
  | undo => exact ⟨_, _, rfl, .inr ⟨by decide, rfl⟩⟩
  | strike x => exact ⟨_, _, rfl, .inr ⟨by decide, rfl⟩⟩
  | mend x y => exact ⟨_, _, rfl, .inr ⟨by decide, rfl⟩⟩
theorem rv_shw (sh : Sh) (hl : rs.length < 900) : ∃ s, reprX [.lst [rvR rs sh]] = some (.str s) := by
  refine (Shw.lst (N := 1) (m := 0) (n := 1002) (fun x hx => ?_) (by simp)).repr (by omega) (by omega)
  rw [List.mem_singleton.mp hx]
  obtain ⟨w, r, _, ⟨_, e⟩ | ⟨_, e⟩⟩ := sh_word (rs := rs) sh
  · rw [e]
    have := cn_le rs
    exact shw_n3 (by omega)
  · rw [e]
    exact (Shw.of (n := 10) (by decide +kernel)).mono (Nat.le_refl _) (by omega)
theorem is_as_at {i j : Nat} {env : Env} (h1 : eVar i env = .ok (.s, .rf a)) (h2 : eVar j env = .ok (.s, accD L rs)) (hL : L < 1000) (hv : Va rs) (hl : rs.length ≤ 900) : rn a (bs L rs) (eB (eCall m__law_is_as (eCons (eVar i) (eCons (eVar j) eNil))) env) = some (bs L rs, .inl true) := by
  refine rn_tB ?_
  rw [rn_call (xs := [(.s, .rf a), (.s, accD L rs)]) (rn_of (cons_ok h1 (cons_ok h2 nil1))) rfl]
  exact q_is_as hL hv hl
theorem q_step {sh : Sh} (hs : Sv sh) (hv : Va rs) (hL : L < 1000) (hl : rs.length < 900) : rn a (bs L rs) (m__law_step_right [.drw q, .rf a, accD L rs, shD sh]) = some (bs L (goR L rs sh).1, .inl (.o, .lst [accD L (goR L rs sh).1])) := by
  refine rn_body (o := .rt (.o, .lst [accD L (goR L rs sh).1])) rfl ?_ (.inl rfl)
  show rn a _ (b__law_step_right (ES q a L rs (shD sh) none none none none none)) = _
  unfold b__law_step_right
  have e1 : bSets [4, 5] (eCons (eLst eNil) (eCons (eCall m__law_refusal (eCons (eVar 2) (eCons (eVar 3) eNil))) eNil)) (ES q a L rs (shD sh) none none none none none) = .ok (.nx (ES q a L rs (shD sh) (some (true, .lst [])) (some (false, .str (wdN (rfN L rs sh)))) none none none)) := by
    unfold bSets
    rw [cons_ok (fa := eLst eNil) (x := (.o, .lst [])) rfl (cons_ok (call_ok (xs := [(.s, accD L rs), (.s, shD sh)]) rfl rfl (q_refusal hs hv)) nil1)]
    rfl
  rw [rn_seq (rn_of e1)]
  have c1 : rn a (bs L rs) (eCall m__law_do (eCons (eVar 1) (eCons (eVar 3) eNil)) (hidE (ES q a L rs (shD sh) (some (true, .lst [])) (some (false, .str (wdN (rfN L rs sh)))) none none none))) = some (bs L (goR L rs sh).1, (goR L rs sh).2) := by
    rw [rn_call (xs := [(.s, .rf a), (.s, shD sh)]) (rn_of rfl) rfl]
    exact q_do hs hv (by omega)
  by_cases h : rfN L rs sh = 0
  · have hg : goR L rs sh = (nxR rs sh, .inl (.s, rvR rs sh)) := by unfold goR; rw [if_pos h]
    have hv2 := goR_va (L := L) hs hv
    rw [hg] at c1 hv2 ⊢
    dsimp only at c1 hv2 ⊢
    have hlen : (nxR rs sh).length ≤ 900 := by
      by_cases hu : sh = .undo
      · subst hu
        show rs.tail.length ≤ 900
        rw [List.length_tail]; omega
      · obtain ⟨d, _, e, _⟩ := sh_deed hs h hu hv
        rw [e, List.length_cons]; omega
    rw [h] at e1 c1 ⊢
    rw [rn_seq (rn_caught rfl c1 rfl (by simp))]
    show rn a _ (bSeq _ _ (ES q a L rs (shD sh) (some (true, .lst [rvR rs sh])) (some (false, .str (wdN 0))) (some (false, .non)) none none)) = _
    refine (rn_seqP (e' := (ES q a L rs (shD sh) (some (true, .lst [rvR rs sh])) (some (false, .str (wdN 0))) (some (false, .non)) none none)) ?_).trans ?_
    · show bIf _ _ _ (ES q a L rs (shD sh) (some (true, .lst [rvR rs sh])) (some (false, .str (wdN 0))) (some (false, .non)) none none) = _
      rw [bIf_f (st_test3 (k := 0) rfl q_word_non (fun z => absurd z (by decide)) (wd_many (by omega)))]
      rfl
    refine (rn_seqP (e' := (ES q a L rs (shD sh) (some (true, .lst [rvR rs sh])) (some (false, .str (wdN 0))) (some (false, .non)) none none)) ?_).trans ?_
    · show bIf _ _ _ (ES q a L rs (shD sh) (some (true, .lst [rvR rs sh])) (some (false, .str (wdN 0))) (some (false, .non)) none none) = _
      rw [bIf_f (ne_f (x := (.s, .str [])) (y := (.s, .str [])) rfl rfl rfl rfl (str_self _))]
      rfl
    obtain ⟨w, r, e2, e3⟩ := sh_word (rs := rs) sh
    refine (rn_seqP (e' := (ES q a L rs (shD sh) (some (true, .lst [rvR rs sh])) (some (false, .str (wdN 0))) (some (false, .non)) (some (false, rvR rs sh)) none)) ?_).trans ?_
    · have t := is_word_at (a := w) (b := aS) (i := 3) (env := ES q a L rs (shD sh) (some (true, .lst [rvR rs sh])) (some (false, .str (wdN 0))) (some (false, .non)) none none) (ds := .str w :: r) (by rw [← e2]; rfl) rfl
      have t2 : eIf (eB (eOp eqB (eIxA (eVar 3) (eC (.int 0))) (eC (.str [97, 100, 100])))) (eCall m__law_number_of (eCons (eVar 2) eNil)) (eC .non) (ES q a L rs (shD sh) (some (true, .lst [rvR rs sh])) (some (false, .str (wdN 0))) (some (false, .non)) none none) = .ok (.s, rvR rs sh) := by
        unfold eIf
        rw [t, ok_bind]
        rcases e3 with ⟨e4, e5⟩ | ⟨e4, e5⟩
        · rw [decide_eq_true e4, if_pos rfl, e5]
          exact call_ok (xs := [(.s, accD L rs)]) rfl rfl (q_number_of (by omega))
        · rw [decide_eq_false e4, if_neg Bool.false_ne_true, e5]
          rfl
      unfold bSet
      rw [t2]
      rfl
    obtain ⟨md, m1, m2⟩ := q_behind hs hv (by omega) h
    obtain ⟨s, hr⟩ := rv_shw (rs := rs) sh hl
    have fin : rn a (bs L (nxR rs sh)) (bRet (eIf (eAnd (eB (eOp eqB (eCB reprX (eCons (eVar 4) eNil)) (eCB reprX (eCons (eLst (eCons (eVar 7) eNil)) eNil)))) (eB (eCall m__law_is_as (eCons (eVar 1) (eCons (eVar 8) eNil))))) (eLst (eCons (eVar 8) eNil)) (eLst eNil)) (ES q a L rs (shD sh) (some (false, .lst [rvR rs sh])) (some (false, .str (wdN 0))) (some (false, .non)) (some (false, rvR rs sh)) (some (false, accD L (nxR rs sh))))) = some (bs L (nxR rs sh), .inl (.rt (.o, .lst [accD L (nxR rs sh)]))) := by
      refine rn_ret ?_ rfl
      have t1 : eB (eOp eqB (eCB reprX (eCons (eVar 4) eNil)) (eCB reprX (eCons (eLst (eCons (eVar 7) eNil)) eNil))) (ES q a L rs (shD sh) (some (false, .lst [rvR rs sh])) (some (false, .str (wdN 0))) (some (false, .non)) (some (false, rvR rs sh)) (some (false, accD L (nxR rs sh)))) = .ok true :=
        tB_ok (op_ok (x := (.s, .str s)) (y := (.s, .str s)) (cb_ok (xs := [(.s, .lst [rvR rs sh])]) rfl hr rfl) (cb_ok (xs := [(.o, .lst [rvR rs sh])]) rfl hr rfl) (eqB_t (str_self s)) rfl rfl)
      rw [rn_eIf (rn_and (rn_of t1) fun _ => is_as_at (i := 1) (j := 8) rfl rfl hL hv2 hlen)]
      rfl
    have e7 : rn a (bs L (nxR rs sh)) (bSet 8 (eCall m__law_behind (eCons (eVar 2) (eCons (eVar 3) eNil))) (ES q a L rs (shD sh) (some (true, .lst [rvR rs sh])) (some (false, .str (wdN 0))) (some (false, .non)) (some (false, rvR rs sh)) none)) = some (bs L (nxR rs sh), .inl (.nx (ES q a L rs (shD sh) (some (true, .lst [rvR rs sh])) (some (false, .str (wdN 0))) (some (false, .non)) (some (false, rvR rs sh)) (some (isOw md, accD L (nxR rs sh)))))) := by
      refine rn_of ?_
      unfold bSet
      rw [call_ok (xs := [(.s, accD L rs), (.s, shD sh)]) rfl rfl m2, ok_bind]
      cases md with
      | s => rfl
      | o => rfl
      | v i => cases m1
    rw [rn_seq e7]
    have e8 : ∀ b : Bool, rn a (bs L (nxR rs sh)) (bFrz [4, 7, 8] (bRet (eIf (eAnd (eB (eOp eqB (eCB reprX (eCons (eVar 4) eNil)) (eCB reprX (eCons (eLst (eCons (eVar 7) eNil)) eNil)))) (eB (eCall m__law_is_as (eCons (eVar 1) (eCons (eVar 8) eNil))))) (eLst (eCons (eVar 8) eNil)) (eLst eNil))) (ES q a L rs (shD sh) (some (true, .lst [rvR rs sh])) (some (false, .str (wdN 0))) (some (false, .non)) (some (false, rvR rs sh)) (some (b, accD L (nxR rs sh))))) = some (bs L (nxR rs sh), .inl (.rt (.o, .lst [accD L (nxR rs sh)]))) := fun b => by
      cases b <;> exact fin
    exact e8 _
  · have hg : goR L rs sh = (rs, .inr (exN (rfN L rs sh))) := by unfold goR; rw [if_neg h]
    rw [hg] at c1 ⊢
    dsimp only at c1 ⊢
    obtain ⟨w1, w2, w3⟩ := wd_exN h (rf_lt (L := L) (rs := rs) sh)
    rw [rn_seq (rn_caughtX rfl c1 w2)]
    show rn a _ (bSeq _ _ (ES q a L rs (shD sh) (some (true, .lst [])) (some (false, .str (wdN (rfN L rs sh)))) (some (false, .exc (exN (rfN L rs sh)).C (exN (rfN L rs sh)).fs)) none none)) = _
    refine (rn_seqP (e' := (ES q a L rs (shD sh) (some (true, .lst [])) (some (false, .str (wdN (rfN L rs sh)))) (some (false, .exc (exN (rfN L rs sh)).C (exN (rfN L rs sh)).fs)) none none)) ?_).trans ?_
    · show bIf _ _ _ (ES q a L rs (shD sh) (some (true, .lst [])) (some (false, .str (wdN (rfN L rs sh)))) (some (false, .exc (exN (rfN L rs sh)).C (exN (rfN L rs sh)).fs)) none none) = _
      rw [bIf_f (st_test3 rfl w1 (fun z => by rw [z]; rfl) (wd_many (rf_lt sh)))]
      rfl
    refine rn_seqR ?_
    have t1 : eB (eOp neB (eVar 5) (eC (.str []))) (ES q a L rs (shD sh) (some (true, .lst [])) (some (false, .str (wdN (rfN L rs sh)))) (some (false, .exc (exN (rfN L rs sh)).C (exN (rfN L rs sh)).fs)) none none) = .ok true :=
      tB_ok (op_ok (x := (.s, .str (wdN (rfN L rs sh)))) (y := (.s, .str [])) rfl rfl (by
        show (eqD (.str (wdN (rfN L rs sh))) (.str [])).map _ = _
        rw [eqD_ss, decide_eq_false w3]
        rfl) rfl rfl)
    show rn a _ (bIf _ _ _ (ES q a L rs (shD sh) (some (true, .lst [])) (some (false, .str (wdN (rfN L rs sh)))) (some (false, .exc (exN (rfN L rs sh)).C (exN (rfN L rs sh)).fs)) none none)) = _
    rw [bIf_t t1]
    refine rn_ret ?_ rfl
    rw [rn_eIf (is_as_at (i := 1) (j := 2) rfl rfl hL hv (by omega))]
    rfl
end
end Y

namespace Y
open PySem PySem.Spec PyProof.Rows L2 Z
section
variable {q : Tk} {c c1 c2 : Nat} {env : Env}
theorem Dn.retD {f : Env → M Vl} {P : Vl → Prop} (h : Dn q c (f env) fun r => (∃ d, r = (.s, d) ∧ P (.s, d)) ∨ ∃ d, r = (.o, d) ∧ P (.o, d)) : Dn q c (bRet f env) fun o => ∃ v, o = .rt v ∧ P v := by
  refine Dn.le (c := c + 0) (Dn.bind h fun r hr => ?_) (by omega)
  rcases hr with ⟨d, rfl, hd⟩ | ⟨d, rfl, hd⟩
  · exact Dn.ok ⟨_, rfl, hd⟩
  · exact Dn.ok ⟨_, rfl, hd⟩
theorem Dn.retS {f : Env → M Vl} {P : Vl → Prop} (h : Dn q c (f env) fun r => ∃ d, r = (.s, d) ∧ P (.s, d)) : Dn q c (bRet f env) fun o => ∃ v, o = .rt v ∧ P v := Dn.retD (h.mono fun r hr => .inl hr)
theorem Dn.setS {i : Nat} {f : Env → M Vl} {R : Env → Prop} (h : Dn q c (f env) fun r => ∃ d, r = (.s, d) ∧ R (env.set i (some (false, d)))) : Dn q c (bSet i f env) fun o => ∃ e, o = .nx e ∧ R e := Dn.setD (h.mono fun r hr => .inl hr)
end
def oSm (w : List Nat) : Prop := Ac w ∧ w.length ≤ 20
def Dwn : Sh → Prop
  | .add x => ∃ w, x = .str w ∧ oSm w
  | .undo => True
  | .strike x => ∃ n : Nat, x = nI n ∧ n < 1000
  | .mend x y => (∃ n : Nat, x = nI n ∧ n < 1000) ∧ ∃ w, y = .str w ∧ oSm w
theorem ac_ok {w : List Nat} (h : Ac w) : okS w := fun c hc => by
  have : c = 97 ∨ c = 99 ∨ c = 103 ∨ c = 116 := by simpa [acgt] using h c hc
  omega
theorem oSm.av {w : List Nat} (h : oSm w) : Av (.str w) := .inl ⟨w, rfl, by have := h.2; omega, ac_ok h.1⟩
theorem Dwn.sv {sh : Sh} (h : Dwn sh) : Sv sh := by
  cases sh with
  | add x => obtain ⟨w, rfl, hw⟩ := h; exact hw.av
  | undo => trivial
  | strike x => obtain ⟨n, rfl, _⟩ := h; exact .inr (.inl ⟨_, rfl⟩)
  | mend x y =>
    obtain ⟨⟨n, rfl, _⟩, w, rfl, hw⟩ := h
    exact ⟨.inr (.inl ⟨_, rfl⟩), hw.av⟩
section
variable {q : Tk} {L : Nat} {rs : List Deed}
theorem d_fresh (hL : L ≤ 10) : Dn q 20 (m__law_fresh_read [.drw q, nI L]) fun r => ∃ w, r = (.s, .str w) ∧ oSm w ∧ L < w.length := by
  refine Dn.body rfl ?_
  show Dn q 20 (b__law_fresh_read [some (false, .drw q), some (false, nI L)]) _
  unfold b__law_fresh_read
  refine Dn.retS ?_
  refine (Dn.callD (c1 := 2) (c2 := 18) (P := fun xs => ∃ w n, xs = [(.s, .drw q), (.s, .str w), (.s, nI n)] ∧ Ac w ∧ 0 < w.length ∧ w.length ≤ 10 ∧ L < n ∧ n ≤ 18) ?_ ?_).le (by omega)
  · refine (Dn.consD (c1 := 0) (c2 := 2) (P := fun x => x = (.s, .drw q)) (Dn.eqV rfl) ?_).le (by omega)
    rintro x rfl
    refine (Dn.consD (c1 := 1) (c2 := 1) (P := fun x => ∃ w, x = (.s, .str w) ∧ Ac w ∧ 0 < w.length ∧ w.length ≤ 10) ?_ ?_).le (by omega)
    · rw [call_ok (xs := [(.s, .drw q)]) rfl rfl rfl]
      exact d_signs
    · rintro x ⟨w, rfl, h1, h2, h3⟩
      refine (Dn.consD (c1 := 1) (c2 := 0) (P := fun x => ∃ n : Nat, x = (.s, nI n) ∧ L < n ∧ n ≤ 18) ?_ ?_).le (by omega)
      · refine (Dn.opD (c1 := 0) (c2 := 1) (P := fun x => x = (.s, nI (L + 1))) (Dn.eqV rfl) ?_).le (by omega)
        rintro x rfl
        refine (d_takeN (n := 4) rfl (by omega) (by omega)).mono ?_
        rintro y ⟨k, hk, rfl⟩
        exact ⟨rfl, rfl, nI (L + 1 + k), rfl, L + 1 + k, rfl, by omega, by omega⟩
      · rintro x ⟨n, rfl, h4, h5⟩
        exact Dn.nilD ⟨w, n, rfl, h1, h2, h3, h4, h5⟩
  · rintro xs ⟨w, n, rfl, h1, h2, h3, h4, h5⟩
    refine ⟨rfl, ((d_letters (q := q) (w := w) (n := n) h1 h2 (by omega) (by omega)).le (by omega)).mono ?_⟩
    rintro r ⟨z, rfl, h6, h7⟩
    exact ⟨_, rfl, z, rfl, ⟨h6, by omega⟩, by omega⟩
theorem keysI_kD : ∀ ks : Ks, keysI (kD ks) = some (ks.map fun e => (e.1 : Int))
  | [] => rfl
  | e :: ks => by
    show (keysI (kD ks)).map _ = _
    rw [keysI_kD ks]
    rfl
def nmL (rs : List Deed) : List D := (Kn rs).map fun e => nI e.1
theorem sorted_kn (h : (Kn rs).length < 64) : sortedDI [.dic (kD (Kn rs))] = some (.lst (nmL rs)) := by
  unfold sortedDI
  dsimp only
  rw [if_pos (by rw [kD_len]; exact h), keysI_kD]
  have : sortI ((Kn rs).map fun e => (e.1 : Int)) = (Kn rs).map fun e => (e.1 : Int) := sortI_uniq (List.Perm.refl _) (List.pairwise_map.mpr ((kn_asc rs).1.imp fun h => by omega))
  show some (D.lst ((sortI ((Kn rs).map fun e => (e.1 : Int))).map .int)) = _
  rw [this, List.map_map]
  rfl
abbrev EY (q : Tk) (L : Nat) (rs : List Deed) (x2 x3 x4 : OB) : Env := [some (false, .drw q), some (false, accD L rs), x2, x3, x4]
abbrev DW1 : Env → M Out := bSet 2 (eCall m__law_pick (eCons (eVar 0) (eCons (eLst (eCons (eC (.str [97, 100, 100])) (eCons (eC (.str [97, 100, 100])) (eCons (eC (.str [97, 100, 100])) (eCons (eC (.str [115, 116, 114, 105, 107, 101])) (eCons (eC (.str [109, 101, 110, 100])) (eCons (eC (.str [117, 110, 100, 111])) eNil))))))) eNil)))
abbrev DW2 : Env → M Out := bSet 3 (eOp addD (eCOV sortedDI (eCons (eIxA (eVar 1) (eC (.str [114, 101, 97, 100, 115]))) eNil)) (eLst (eCons (eCall m_take (eCons (eVar 0) (eCons (eC (.int 5)) eNil))) eNil)))
abbrev DW3 : Env → M Out := bFrz [2] (bIf (eB (eOp eqB (eVar 2) (eC (.str [97, 100, 100])))) (bFrz [2] (bRet (eTup (eCons (eVar 2) (eCons (eCall m__law_fresh_read (eCons (eVar 0) (eCons (eIxA (eVar 1) (eC (.str [108, 101, 110, 103, 116, 104]))) eNil))) eNil))))) bNext)
abbrev DW4 : Env → M Out := bFrz [2] (bIf (eB (eOp eqB (eVar 2) (eC (.str [117, 110, 100, 111])))) (bFrz [2] (bRet (eTup (eCons (eVar 2) eNil)))) bNext)
abbrev DW5 : Env → M Out := bSet 4 (eCall m__law_pick (eCons (eVar 0) (eCons (eOp addD (eVar 3) (eSl (eVar 3) eNo (ePart (eUn negD (eC (.int 1)))))) eNil)))
abbrev DW6 : Env → M Out := bFrz [2, 4] (bRet (eIf (eB (eOp eqB (eVar 2) (eC (.str [115, 116, 114, 105, 107, 101])))) (eTup (eCons (eVar 2) (eCons (eVar 4) eNil))) (eTup (eCons (eVar 2) (eCons (eVar 4) (eCons (eCall m__law_fresh_read (eCons (eVar 0) (eCons (eIxA (eVar 1) (eC (.str [108, 101, 110, 103, 116, 104]))) eNil))) eNil))))))
theorem DW_all : b__law_drawn_deed = bSeq DW1 (bSeq DW2 (bSeq DW3 (bSeq DW4 (bSeq DW5 (DW6))))) := rfl
theorem is_str_at {i : Nat} {env : Env} {a b : List Nat} (h : eVar i env = .ok (.s, .str a)) : eB (eOp eqB (eVar i) (eC (.str b))) env = .ok (decide (a = b)) := tB_ok (op_ok (y := (.s, .str b)) h rfl (by show (eqD _ _).map _ = _; rw [eqD_ss]; rfl) rfl rfl)
theorem fresh_at {env : Env} (h0 : eVar 0 env = .ok (.s, .drw q)) (h1 : eVar 1 env = .ok (.s, accD L rs)) (hL : L ≤ 10) : Dn q 20 (eCall m__law_fresh_read (eCons (eVar 0) (eCons (eIxA (eVar 1) (eC (.str [108, 101, 110, 103, 116, 104]))) eNil)) env) fun r => ∃ w, r = (.s, .str w) ∧ oSm w := by
  rw [call_ok (xs := [(.s, .drw q), (.s, nI L)]) (cons_ok h0 (cons_ok (a_len h1) nil1)) rfl rfl]
  refine (d_fresh hL).mono ?_
  rintro r ⟨w, rfl, h, _⟩
  exact ⟨w, rfl, h⟩
def DwnR (v : Vl) : Prop := ∃ sh, v = (.s, shD sh) ∧ Dwn sh
theorem d_deed (hL : L ≤ 10) (hv : Va rs) (hl : rs.length < 900) : Dn q 30 (m__law_drawn_deed [.drw q, accD L rs]) DwnR := by
  refine Dn.body rfl ?_
  show Dn q 30 (b__law_drawn_deed (EY q L rs none none none)) _
  rw [DW_all]
  refine (Dn.seq (c1 := 1) (c2 := 29) (R := fun e => ∃ w, w ∈ [aS, kS, mS, uS] ∧ e = EY q L rs (some (false, .str w)) none none) ?_ ?_).le (by omega)
  · refine Dn.setS ((d_pickN (m := .o) rfl rfl rfl (by simp) (by simp)).mono ?_)
    rintro r ⟨d, hd, rfl⟩
    refine ⟨d, rfl, ?_⟩
    have hd : d ∈ ([.str aS, .str aS, .str aS, .str kS, .str mS, .str uS] : List D) := hd
    simp only [List.mem_cons, List.not_mem_nil, or_false] at hd
    rcases hd with rfl | rfl | rfl | rfl | rfl | rfl <;> exact ⟨_, by simp, rfl⟩
  rintro e ⟨w, hw, rfl⟩
  have hk := (kn_small hv).1
  have nl : (nmL rs).length = (Kn rs).length := by unfold nmL; rw [List.length_map]
  refine (Dn.seq (c1 := 1) (c2 := 28) (R := fun e => ∃ k : Nat, k < 5 ∧ e = EY q L rs (some (false, .str w)) (some (false, .lst (nmL rs ++ [nI k]))) none) ?_ ?_).le (by omega)
  · refine Dn.setS ?_
    refine (Dn.opD (c1 := 0) (c2 := 1) (P := fun x => x = (.o, .lst (nmL rs))) (Dn.eqV (cov_ok (cons_ok (a_rds (L := L) (rs := rs) rfl) nil1) (sorted_kn (by omega)) rfl)) ?_).le (by omega)
    rintro x rfl
    refine Dn.lstD ?_
    refine (Dn.consD (c1 := 1) (c2 := 0) (P := fun x => ∃ k : Nat, k < 5 ∧ x = (.s, nI k)) ((d_takeN (n := 5) rfl (by omega) (by omega)).mono fun r ⟨k, hk, e⟩ => ⟨k, hk, e⟩) ?_).le (by omega)
    rintro x ⟨k, hk5, rfl⟩
    refine Dn.nilD ⟨rfl, by simp [dats], rfl, rfl, _, ?_, _, rfl, k, hk5, rfl⟩
    show (if (nmL rs).length + 1 ≤ 1000000 then some (D.lst (nmL rs ++ [nI k])) else none) = _
    rw [if_pos (by omega)]
  rintro e ⟨k, hk5, rfl⟩
  have hnum : ∀ d ∈ nmL rs ++ [nI k], ∃ n : Nat, d = nI n ∧ n < 1000 := fun d hd => by
    rcases List.mem_append.mp hd with hd | hd
    · unfold nmL at hd
      obtain ⟨e, he, rfl⟩ := List.mem_map.mp hd
      have := (kn_asc rs).2 e he
      have := cn_le rs
      exact ⟨e.1, rfl, by omega⟩
    · rw [List.mem_singleton.mp hd]
      exact ⟨k, rfl, by omega⟩
  by_cases ha : w = aS
  · subst ha
    refine (Dn.seqR ?_).le (Nat.le_refl _)
    show Dn q 28 (bIf _ _ _ (EY q L rs (some (false, .str aS)) (some (false, .lst (nmL rs ++ [nI k]))) none)) _
    rw [bIf_t (is_str_at (a := aS) (b := aS) rfl)]
    show Dn q 28 (bRet _ (EY q L rs (some (false, .str aS)) (some (false, .lst (nmL rs ++ [nI k]))) none)) _
    refine Dn.retS (Dn.tupD ?_)
    refine (Dn.consD (c1 := 0) (c2 := 28) (P := fun x => x = (.s, .str aS)) (Dn.eqV rfl) ?_).le (by omega)
    rintro x rfl
    refine (Dn.consD (c1 := 20) (c2 := 0) (fresh_at rfl rfl hL) ?_).le (by omega)
    rintro x ⟨z, rfl, hz⟩
    exact Dn.nilD ⟨rfl, by simp [dats], _, rfl, .add (.str z), rfl, z, rfl, hz⟩
  refine Dn.seqP (e' := EY q L rs (some (false, .str w)) (some (false, .lst (nmL rs ++ [nI k]))) none) ?_ ?_
  · show bIf _ _ _ (EY q L rs (some (false, .str w)) (some (false, .lst (nmL rs ++ [nI k]))) none) = _
    have t := is_str_at (i := 2) (env := EY q L rs (some (false, .str w)) (some (false, .lst (nmL rs ++ [nI k]))) none) (a := w) (b := aS) rfl
    rw [decide_eq_false ha] at t
    rw [bIf_f t]
    rfl
  by_cases hu : w = uS
  · subst hu
    refine (Dn.seqR ?_).le (Nat.le_refl _)
    show Dn q 28 (bIf _ _ _ (EY q L rs (some (false, .str uS)) (some (false, .lst (nmL rs ++ [nI k]))) none)) _
    rw [bIf_t (is_str_at (a := uS) (b := uS) rfl)]
    exact Dn.ok ⟨_, rfl, .undo, rfl, trivial⟩
  refine Dn.seqP (e' := EY q L rs (some (false, .str w)) (some (false, .lst (nmL rs ++ [nI k]))) none) ?_ ?_
  · show bIf _ _ _ (EY q L rs (some (false, .str w)) (some (false, .lst (nmL rs ++ [nI k]))) none) = _
    have t := is_str_at (i := 2) (env := EY q L rs (some (false, .str w)) (some (false, .lst (nmL rs ++ [nI k]))) none) (a := w) (b := uS) rfl
    rw [decide_eq_false hu] at t
    rw [bIf_f t]
    rfl
  refine (Dn.seq (c1 := 1) (c2 := 27) (R := fun e => ∃ n : Nat, n < 1000 ∧ e = EY q L rs (some (false, .str w)) (some (false, .lst (nmL rs ++ [nI k]))) (some (false, nI n))) ?_ ?_).le (by omega)
  · have e1 : eSl (eVar 3) eNo (ePart (eUn negD (eC (.int 1)))) (EY q L rs (some (false, .str w)) (some (false, .lst (nmL rs ++ [nI k]))) none) = .ok (.s, .lst (nmL rs)) := by
      show (M.of (slD (.lst (nmL rs ++ [nI k])) none (some (-1)))).bind _ = _
      have : slD (.lst (nmL rs ++ [nI k])) none (some (-1)) = some (.lst (nmL rs)) := by
        show some (D.lst (cutL (nmL rs ++ [nI k]) none (some (-1)))) = _
        rw [cut_m1]
        simp
      rw [this]
      rfl
    have e2 : eOp addD (eVar 3) (eSl (eVar 3) eNo (ePart (eUn negD (eC (.int 1))))) (EY q L rs (some (false, .str w)) (some (false, .lst (nmL rs ++ [nI k]))) none) = .ok (.s, .lst ((nmL rs ++ [nI k]) ++ nmL rs)) := add_l (m1 := .s) (m2 := .s) rfl e1 rfl rfl (by rw [List.length_append, nl]; simp; omega)
    refine Dn.setS ((d_pickN (m := .s) rfl e2 rfl (by simp) (by rw [List.length_append, List.length_append, nl]; simp; omega)).mono ?_)
    rintro r ⟨d, hd, rfl⟩
    obtain ⟨n, rfl, hn⟩ : ∃ n : Nat, d = nI n ∧ n < 1000 := by
      rcases List.mem_append.mp hd with hd | hd
      · exact hnum d hd
      · exact hnum d (List.mem_append_left _ hd)
    exact ⟨_, rfl, n, hn, rfl⟩
  rintro e ⟨n, hn, rfl⟩
  show Dn q 27 (bRet _ (EY q L rs (some (false, .str w)) (some (false, .lst (nmL rs ++ [nI k]))) (some (false, nI n)))) _
  refine Dn.retS ?_
  have t := is_str_at (i := 2) (env := EY q L rs (some (false, .str w)) (some (false, .lst (nmL rs ++ [nI k]))) (some (false, nI n))) (a := w) (b := kS) rfl
  unfold eIf
  rw [t, ok_bind]
  by_cases hs : w = kS
  · subst hs
    rw [decide_eq_true rfl, if_pos rfl]
    exact Dn.ok ⟨_, rfl, .strike (nI n), rfl, n, rfl, hn⟩
  · rw [decide_eq_false hs, if_neg Bool.false_ne_true]
    have hm : w = mS := by
      simp only [List.mem_cons, List.not_mem_nil, or_false] at hw
      rcases hw with h | h | h | h
      · exact (ha h).elim
      · exact (hs h).elim
      · exact h
      · exact (hu h).elim
    subst hm
    refine Dn.tupD ?_
    refine (Dn.consD (c1 := 0) (c2 := 27) (P := fun x => x = (.s, .str mS)) (Dn.eqV rfl) ?_).le (by omega)
    rintro x rfl
    refine (Dn.consD (c1 := 0) (c2 := 27) (P := fun x => x = (.s, nI n)) (Dn.eqV rfl) ?_).le (by omega)
    rintro x rfl
    refine (Dn.consD (c1 := 20) (c2 := 0) (fresh_at rfl rfl hL) ?_).le (by omega)
    rintro x ⟨z, rfl, hz⟩
    exact Dn.nilD ⟨rfl, by simp [dats], _, rfl, .mend (nI n) (.str z), rfl, ⟨n, rfl, hn⟩, z, rfl, hz⟩
end
end Y

namespace Y
open PySem PySem.Spec PyProof.Rows L2 Z
theorem dig_ok : (List.range 1000).all (fun n => decide (((toString ((n : Nat) : Int) : Str)).cps.toList.length ≤ 100) && ((toString ((n : Nat) : Int) : Str)).cps.toList.all (fun c => decide (c < 256))) = true := by decide +kernel
theorem str_dig {n : Nat} (h : n < 1000) : ∃ z : List Nat, strID [nI n] = some (.str z) ∧ Av (.str z) := by
  have h1 := List.all_eq_true.mp dig_ok n (List.mem_range.mpr h)
  rw [Bool.and_eq_true, decide_eq_true_eq, List.all_eq_true] at h1
  refine ⟨(toString ((n : Nat) : Int) : Str).cps.toList, ?_, .inl ⟨_, rfl, h1.1, fun c hc => of_decide_eq_true (h1.2 c hc)⟩⟩
  show (if ((n : Nat) : Int).natAbs.log2 < 1920 then _ else _) = _
  rw [if_pos]
  have : ((n : Nat) : Int).natAbs = n := by omega
  rw [this]
  by_cases hz : n = 0
  · subst hz; decide
  · have := (Nat.log2_lt (n := n) (k := 10) hz).mpr (by omega)
    omega
abbrev BN1 : Env → M Out := bIf (eB (eOp ltD (eCB lenD (eCons (eVar 2) eNil)) (eC (.int 2)))) (bRet (eVar 2)) bNext
abbrev BN2 : Env → M Out := bSets [3, 4] (eCons (eCall m__law_odd (eCons (eVar 0) eNil)) (eCons (eCall m__law_letters (eCons (eVar 0) (eCons (eC (.str [97, 99])) (eCons (eIxA (eVar 1) (eC (.str [108, 101, 110, 103, 116, 104]))) eNil)))) eNil))
abbrev BN3 : Env → M Out := bIf (eB (eOp eqB (eIxA (eVar 2) (eC (.int 0))) (eC (.str [97, 100, 100])))) (bFrz [3, 4] (bRet (eTup (eCons (eC (.str [97, 100, 100])) (eCons (eCall m__law_pick (eCons (eVar 0) (eCons (eLst (eCons (eVar 3) (eCons (eVar 4) (eCons (eC (.str [97, 99, 103, 116, 117])) (eCons (eC (.str [97, 99, 103, 116, 32])) eNil))))) eNil))) eNil))))) bNext
abbrev BN4 : Env → M Out := bFrz [3] (bSet 5 (eCall m__law_pick (eCons (eVar 0) (eCons (eLst (eCons (eVar 3) (eCons (eC (.bl true)) (eCons (eC (.bl false)) (eCons (eC (.int 99)) (eCons (eUn negD (eC (.int 1))) (eCons (eCB strID (eCons (eIxA (eVar 2) (eC (.int 1))) eNil)) eNil))))))) eNil))))
abbrev BN5 : Env → M Out := bIf (eB (eOp eqB (eIxA (eVar 2) (eC (.int 0))) (eC (.str [115, 116, 114, 105, 107, 101])))) (bFrz [5] (bRet (eTup (eCons (eC (.str [115, 116, 114, 105, 107, 101])) (eCons (eVar 5) eNil))))) bNext
abbrev BN6 : Env → M Out := bFrz [3, 4] (bSet 6 (eCall m__law_pick (eCons (eVar 0) (eCons (eLst (eCons (eVar 3) (eCons (eVar 4) eNil))) eNil))))
abbrev BN7 : Env → M Out := bFrz [3, 5, 6] (bRet (eCall m__law_pick (eCons (eVar 0) (eCons (eLst (eCons (eTup (eCons (eC (.str [109, 101, 110, 100])) (eCons (eVar 5) (eCons (eIxA (eVar 2) (eC (.int 2))) eNil)))) (eCons (eTup (eCons (eC (.str [109, 101, 110, 100])) (eCons (eIxA (eVar 2) (eC (.int 1))) (eCons (eVar 6) eNil)))) (eCons (eTup (eCons (eC (.str [109, 101, 110, 100])) (eCons (eVar 5) (eCons (eVar 3) eNil)))) eNil)))) eNil))))
theorem BN_all : b__law_bent = bSeq BN1 (bSeq BN2 (bSeq BN3 (bSeq BN4 (bSeq BN5 (bSeq BN6 (BN7)))))) := rfl
def SvR (v : Vl) : Prop := ∃ sh, v = (.s, shD sh) ∧ Sv sh
abbrev EN (q : Tk) (L : Nat) (rs : List Deed) (sd : D) (x3 x4 x5 x6 : OB) : Env := [some (false, .drw q), some (false, accD L rs), some (false, sd), x3, x4, x5, x6]
section
variable {q : Tk} {L : Nat} {rs : List Deed} {sd : D}
theorem bn1_next {x y : D} {r : List D} (hs : sd = .tup (x :: y :: r)) (hr : r.length ≤ 5) : BN1 (EN q L rs sd none none none none) = .ok (.nx (EN q L rs sd none none none none)) := by
  subst hs
  have e : eCB lenD (eCons (eVar 2) eNil) (EN q L rs (.tup (x :: y :: r)) none none none none) = .ok (.s, nI (r.length + 2)) := cb_ok (xs := [(.s, .tup (x :: y :: r))]) rfl (by
    show some (D.int (((x :: y :: r).length : Nat) : Int)) = _
    rw [List.length_cons, List.length_cons]) rfl
  have t : eB (eOp ltD (eCB lenD (eCons (eVar 2) eNil)) (eC (.int 2))) (EN q L rs (.tup (x :: y :: r)) none none none none) = .ok false := by
    have := lt_n (m := 2) e
    rw [decide_eq_false (by omega)] at this
    exact this
  show bIf _ _ _ _ = _
  rw [bIf_f t]
  rfl
theorem oSm_L {z : List Nat} (h : Ac z) (hl : z.length ≤ 20) : Av (.str z) := oSm.av ⟨h, hl⟩
theorem bn2 (hL : L ≤ 10) : Dn q 11 (BN2 (EN q L rs sd none none none none)) fun o => ∃ e, o = .nx e ∧ ∃ d z, Av d ∧ Av (.str z) ∧ e = EN q L rs sd (some (false, d)) (some (false, .str z)) none none := by
  show Dn q 11 (bSets _ _ _) _
  unfold bSets
  refine (Dn.bind (c1 := 11) (c2 := 0) (P := fun xs => ∃ d z, Av d ∧ Av (.str z) ∧ xs = [(.s, d), (.s, .str z)]) ?_ ?_).le (by omega)
  · refine (Dn.consD (c1 := 1) (c2 := 10) (P := fun x => ∃ d ∈ oddL, x = (.s, d)) ?_ ?_).le (by omega)
    · rw [call_ok (xs := [(.s, .drw q)]) rfl rfl rfl]
      exact d_odd
    · rintro x ⟨d, hd, rfl⟩
      refine (Dn.consD (c1 := 10) (c2 := 0) (P := fun x => ∃ z, x = (.s, .str z) ∧ Ac z ∧ z.length = L) ?_ ?_).le (by omega)
      · rw [call_ok (xs := [(.s, .drw q), (.s, .str [97, 99]), (.s, nI L)]) (cons_ok rfl (cons_ok (fa := eC (.str [97, 99])) (x := (.s, .str [97, 99])) rfl (cons_ok (a_len (L := L) (rs := rs) rfl) nil1))) rfl rfl]
        exact (d_letters (w := [97, 99]) (by unfold Ac; decide) (by decide) (by decide) (by omega)).le hL
      · rintro x ⟨z, rfl, h1, h2⟩
        exact Dn.nilD ⟨d, z, .inr (.inr (.inr hd)), oSm_L h1 (by omega), rfl⟩
  · rintro xs ⟨d, z, h1, h2, rfl⟩
    exact Dn.ok ⟨_, rfl, d, z, h1, h2, rfl⟩
theorem d_bent {sh : Sh} (hL : L ≤ 10) (hw : Dwn sh) : Dn q 20 (m__law_bent [.drw q, accD L rs, shD sh]) SvR := by
  refine Dn.body rfl ?_
  show Dn q 20 (b__law_bent (EN q L rs (shD sh) none none none none)) _
  rw [BN_all]
  have str_c : ∀ w : List Nat, w.length ≤ 20 → (∀ c ∈ w, c < 256) → Av (.str w) := fun w h1 h2 => .inl ⟨w, rfl, by omega, h2⟩
  cases sh with
  | undo =>
    refine Dn.seqR ?_
    have e : eCB lenD (eCons (eVar 2) eNil) (EN q L rs (shD .undo) none none none none) = .ok (.s, nI 1) := cb_ok (xs := [(.s, shD .undo)]) rfl rfl rfl
    have t : eB (eOp ltD (eCB lenD (eCons (eVar 2) eNil)) (eC (.int 2))) (EN q L rs (shD .undo) none none none none) = .ok true := by
      have := lt_n (m := 2) e
      rw [decide_eq_true (by omega)] at this
      exact this
    show Dn q 20 (bIf _ _ _ _) _
    rw [bIf_t t]
    exact Dn.ok ⟨_, rfl, .undo, rfl, trivial⟩
  | add x =>
    refine Dn.seqP (bn1_next rfl (by simp)) ?_
    refine (Dn.seq (c1 := 11) (c2 := 9) (R := fun e => ∃ d z, Av d ∧ Av (.str z) ∧ e = EN q L rs (shD (.add x)) (some (false, d)) (some (false, .str z)) none none) (bn2 hL) ?_).le (by omega)
    rintro e ⟨d, z, hd, hz, rfl⟩
    refine Dn.seqR ?_
    show Dn q 9 (bIf _ _ _ _) _
    rw [bIf_t (is_word_at (a := aS) (b := aS) (ds := [.str aS, x]) rfl rfl)]
    refine Dn.retS (Dn.tupD ?_)
    refine (Dn.consD (c1 := 0) (c2 := 9) (P := fun x => x = (.s, .str aS)) (Dn.eqV rfl) ?_).le (by omega)
    rintro _ rfl
    refine (Dn.consD (c1 := 1) (c2 := 0) (P := fun x => ∃ y, Av y ∧ x = (.s, y)) ((d_pickN (ds := [d, .str z, .str [97, 99, 103, 116, 117], .str [97, 99, 103, 116, 32]]) (m := .o) rfl rfl rfl (by simp) (by simp)).mono ?_) ?_).le (by omega)
    · rintro r ⟨y, hy, rfl⟩
      refine ⟨y, ?_, rfl⟩
      simp only [List.mem_cons, List.not_mem_nil, or_false] at hy
      rcases hy with rfl | rfl | rfl | rfl
      · exact hd
      · exact hz
      · exact str_c _ (by decide) (by decide)
      · exact str_c _ (by decide) (by decide)
    · rintro _ ⟨y, hy, rfl⟩
      exact Dn.nilD ⟨rfl, by simp [dats], _, rfl, .add y, rfl, hy⟩
  | strike x =>
    obtain ⟨n, rfl, hn⟩ := hw
    obtain ⟨s, hs, hsa⟩ := str_dig hn
    refine Dn.seqP (bn1_next rfl (by simp)) ?_
    refine (Dn.seq (c1 := 11) (c2 := 9) (R := fun e => ∃ d z, Av d ∧ Av (.str z) ∧ e = EN q L rs (shD (.strike (nI n))) (some (false, d)) (some (false, .str z)) none none) (bn2 hL) ?_).le (by omega)
    rintro e ⟨d, z, hd, hz, rfl⟩
    refine Dn.seqP (e' := EN q L rs (shD (.strike (nI n))) (some (false, d)) (some (false, .str z)) none none) (by
      show bIf _ _ _ _ = _
      rw [bIf_f (is_word_at (a := kS) (b := aS) (ds := [.str kS, nI n]) rfl rfl)]
      rfl) ?_
    refine (Dn.seq (c1 := 1) (c2 := 8) (R := fun e => ∃ y, Av y ∧ e = EN q L rs (shD (.strike (nI n))) (some (false, d)) (some (false, .str z)) (some (false, y)) none) ?_ ?_).le (by omega)
    · show Dn q 1 (bSet 5 _ (EN q L rs (shD (.strike (nI n))) (some (false, d)) (some (false, .str z)) none none)) _
      have c1 : eCB strID (eCons (eIxA (eVar 2) (eC (.int 1))) eNil) (EN q L rs (shD (.strike (nI n))) (some (false, d)) (some (false, .str z)) none none) = .ok (.s, .str s) := cb_ok (cons_ok (ix_1 rfl) nil1) hs rfl
      refine Dn.setS ((d_pickN (ds := [d, .bl true, .bl false, .int 99, .int (-1), .str s]) (m := .o) rfl (eLst_ok (xs := [(.s, d), (.s, .bl true), (.s, .bl false), (.s, .int 99), (.s, .int (-1)), (.s, .str s)]) (cons_ok rfl (cons_ok (fa := eC (.bl true)) (x := (.s, .bl true)) rfl (cons_ok (fa := eC (.bl false)) (x := (.s, .bl false)) rfl (cons_ok (fa := eC (.int 99)) (x := (.s, .int 99)) rfl (cons_ok (fa := eUn negD (eC (.int 1))) (x := (.s, .int (-1))) rfl (cons_ok c1 nil1)))))) rfl (by simp [dats])) rfl (by simp) (by simp)).mono ?_)
      rintro r ⟨y, hy, rfl⟩
      refine ⟨y, rfl, y, ?_, rfl⟩
      simp only [List.mem_cons, List.not_mem_nil, or_false] at hy
      rcases hy with rfl | rfl | rfl | rfl | rfl | rfl
      · exact hd
      · exact .inr (.inr (.inl ⟨_, rfl⟩))
      · exact .inr (.inr (.inl ⟨_, rfl⟩))
      · exact .inr (.inl ⟨_, rfl⟩)
      · exact .inr (.inl ⟨_, rfl⟩)
      · exact hsa
    · rintro e ⟨y, hy, rfl⟩
      refine Dn.seqR ?_
      show Dn q 8 (bIf _ _ _ _) _
      rw [bIf_t (is_word_at (a := kS) (b := kS) (ds := [.str kS, nI n]) rfl rfl)]
      exact Dn.ok ⟨_, rfl, .strike y, rfl, hy⟩
  | mend x w =>
    obtain ⟨⟨n, rfl, hn⟩, w, rfl, hw⟩ := hw
    obtain ⟨s, hs, hsa⟩ := str_dig hn
    refine Dn.seqP (bn1_next rfl (by simp)) ?_
    refine (Dn.seq (c1 := 11) (c2 := 9) (R := fun e => ∃ d z, Av d ∧ Av (.str z) ∧ e = EN q L rs (shD (.mend (nI n) (.str w))) (some (false, d)) (some (false, .str z)) none none) (bn2 hL) ?_).le (by omega)
    rintro e ⟨d, z, hd, hz, rfl⟩
    refine Dn.seqP (e' := EN q L rs (shD (.mend (nI n) (.str w))) (some (false, d)) (some (false, .str z)) none none) (by
      show bIf _ _ _ _ = _
      rw [bIf_f (is_word_at (a := mS) (b := aS) (ds := [.str mS, nI n, .str w]) rfl rfl)]
      rfl) ?_
    refine (Dn.seq (c1 := 1) (c2 := 8) (R := fun e => ∃ y, Av y ∧ e = EN q L rs (shD (.mend (nI n) (.str w))) (some (false, d)) (some (false, .str z)) (some (false, y)) none) ?_ ?_).le (by omega)
    · show Dn q 1 (bSet 5 _ (EN q L rs (shD (.mend (nI n) (.str w))) (some (false, d)) (some (false, .str z)) none none)) _
      have c1 : eCB strID (eCons (eIxA (eVar 2) (eC (.int 1))) eNil) (EN q L rs (shD (.mend (nI n) (.str w))) (some (false, d)) (some (false, .str z)) none none) = .ok (.s, .str s) := cb_ok (cons_ok (ix_1 rfl) nil1) hs rfl
      refine Dn.setS ((d_pickN (ds := [d, .bl true, .bl false, .int 99, .int (-1), .str s]) (m := .o) rfl (eLst_ok (xs := [(.s, d), (.s, .bl true), (.s, .bl false), (.s, .int 99), (.s, .int (-1)), (.s, .str s)]) (cons_ok rfl (cons_ok (fa := eC (.bl true)) (x := (.s, .bl true)) rfl (cons_ok (fa := eC (.bl false)) (x := (.s, .bl false)) rfl (cons_ok (fa := eC (.int 99)) (x := (.s, .int 99)) rfl (cons_ok (fa := eUn negD (eC (.int 1))) (x := (.s, .int (-1))) rfl (cons_ok c1 nil1)))))) rfl (by simp [dats])) rfl (by simp) (by simp)).mono ?_)
      rintro r ⟨y, hy, rfl⟩
      refine ⟨y, rfl, y, ?_, rfl⟩
      simp only [List.mem_cons, List.not_mem_nil, or_false] at hy
      rcases hy with rfl | rfl | rfl | rfl | rfl | rfl
      · exact hd
      · exact .inr (.inr (.inl ⟨_, rfl⟩))
      · exact .inr (.inr (.inl ⟨_, rfl⟩))
      · exact .inr (.inl ⟨_, rfl⟩)
      · exact .inr (.inl ⟨_, rfl⟩)
      · exact hsa
    · rintro e ⟨y, hy, rfl⟩
      refine Dn.seqP (e' := EN q L rs (shD (.mend (nI n) (.str w))) (some (false, d)) (some (false, .str z)) (some (false, y)) none) (by
        show bIf _ _ _ _ = _
        rw [bIf_f (is_word_at (a := mS) (b := kS) (ds := [.str mS, nI n, .str w]) rfl rfl)]
        rfl) ?_
      refine (Dn.seq (c1 := 1) (c2 := 7) (R := fun e => ∃ u, Av u ∧ e = EN q L rs (shD (.mend (nI n) (.str w))) (some (false, d)) (some (false, .str z)) (some (false, y)) (some (false, u))) ?_ ?_).le (by omega)
      · show Dn q 1 (bSet 6 _ (EN q L rs (shD (.mend (nI n) (.str w))) (some (false, d)) (some (false, .str z)) (some (false, y)) none)) _
        refine Dn.setS ((d_pickN (ds := [d, .str z]) (m := .o) rfl rfl rfl (by simp) (by simp)).mono ?_)
        rintro r ⟨u, hu, rfl⟩
        refine ⟨u, rfl, u, ?_, rfl⟩
        simp only [List.mem_cons, List.not_mem_nil, or_false] at hu
        rcases hu with rfl | rfl
        · exact hd
        · exact hz
      · rintro e ⟨u, hu, rfl⟩
        show Dn q 7 (bRet _ (EN q L rs (shD (.mend (nI n) (.str w))) (some (false, d)) (some (false, .str z)) (some (false, y)) (some (false, u)))) _
        refine Dn.le (c := 1) (Dn.retS ((d_pickN (ds := [shD (.mend y (.str w)), shD (.mend (nI n) u), shD (.mend y d)]) (m := .o) rfl rfl rfl (by simp) (by simp)).mono ?_)) (by omega)
        rintro r ⟨v, hv, rfl⟩
        simp only [List.mem_cons, List.not_mem_nil, or_false] at hv
        rcases hv with rfl | rfl | rfl
        · exact ⟨_, rfl, .mend y (.str w), rfl, hy, hw.av⟩
        · exact ⟨_, rfl, .mend (nI n) u, rfl, .inr (.inl ⟨_, rfl⟩), hu⟩
        · exact ⟨_, rfl, .mend y d, rfl, hy, hd⟩
end
end Y

namespace Y
open PySem PySem.Spec PyProof.Rows L2 Z
structure Bd {α : Type} (q : Tk) (c : Nat) (a : Addr) (s : D) (m : M α) (Q : D → α → Prop) : Prop where
  run : ∀ dr n, .inl q ∈ dr → Has dr a s → c ≤ n → wp dr n m (fun dr' n' x => SubX a dr dr' ∧ n ≤ n' + c ∧ ∃ s', Has dr' a s' ∧ Q s' x) (fun _ _ _ => False)
theorem SubX.q {a : Addr} {dr dr' : Dr} {q : Tk} (h : SubX a dr dr') (hq : .inl q ∈ dr) : .inl q ∈ dr' := h _ hq fun _ z => nomatch z
section
variable {α β : Type} {q : Tk} {c c' c1 c2 : Nat} {a : Addr} {s s' : D} {m : M α} {P Q Q' : D → α → Prop} {R : D → β → Prop} {f : α → M β}
theorem Bd.ok {x : α} (h : Q s x) : Bd q c a s (.ok x) Q := ⟨fun dr n _ hs _ => ⟨SubX.refl _, Nat.le_add_right _ _, s, hs, h⟩⟩
theorem Bd.pure {x : α} (e : m = .ok x) (h : Q s x) : Bd q c a s m Q := e ▸ Bd.ok h
theorem Bd.mono (h : Bd q c a s m Q) (hq : ∀ s x, Q s x → Q' s x) : Bd q c a s m Q' := ⟨fun dr n h1 h2 h3 => wp_mono (h.run dr n h1 h2 h3) (fun _ _ _ ⟨x, y, s', z, w⟩ => ⟨x, y, s', z, hq _ _ w⟩) fun _ _ _ e => e⟩
theorem Bd.le (h : Bd q c a s m Q) (hc : c ≤ c') : Bd q c' a s m Q := ⟨fun dr n h1 h2 h3 => wp_mono (h.run dr n h1 h2 (Nat.le_trans hc h3)) (fun _ _ _ ⟨x, y, z⟩ => ⟨x, by omega, z⟩) fun _ _ _ e => e⟩
theorem Bd.bind (h : Bd q c1 a s m P) (hf : ∀ s' x, P s' x → Bd q c2 a s' (f x) R) : Bd q (c1 + c2) a s (m.bind f) R := ⟨fun dr n h1 h2 h3 => by
  refine wp_bind.mpr (wp_mono (h.run dr n h1 h2 (by omega)) (fun dr' n' x ⟨e, b, s', hs, d⟩ => ?_) fun _ _ _ e => e)
  exact wp_mono ((hf s' x d).run dr' n' (e.q h1) hs (by omega)) (fun _ _ _ ⟨e2, b2, w⟩ => ⟨e.trans e2, by omega, w⟩) fun _ _ _ e => e⟩
theorem Bd.rn {x : α} (h : rn a s m = some (s', .inl x)) (hq : Q s' x) : Bd q c a s m Q := ⟨fun dr n _ h2 _ => rn_wp h h2 fun dr' sx hx => ⟨sx, Nat.le_add_right _ _, s', hx, hq⟩⟩
theorem Bd.dn {P : α → Prop} (h : Dn q c m P) (hq : ∀ x, P x → Q s x) : Bd q c a s m Q := ⟨fun dr n h1 h2 h3 => wp_mono (h.run dr n h1 h3) (fun _ _ _ ⟨e, b, p⟩ => ⟨SubX.of e, b, s, e _ h2, hq _ p⟩) fun _ _ _ e => e⟩
theorem Dn.newB {P : α → Prop} {d : D} {k : Addr → M α} (h : ∀ a, Bd q c a d (k a) fun _ x => P x) : Dn q c (.new d k) P := ⟨fun dr n hq hc => fun a hf => by
  refine wp_mono ((h a).run (.inr (a, d) :: dr) n (List.mem_cons_of_mem _ hq) has_new hc) (fun dr' n' x ⟨sx, b, s', _, p⟩ => ⟨fun i hi => sx i (List.mem_cons_of_mem _ hi) fun e z => ?_, b, p⟩) fun _ _ _ e => e
  subst z
  exact hf e hi⟩
end
section
variable {q : Tk} {c c1 c2 : Nat} {a : Addr} {s s' : D} {f g : Env → M Out} {env e' : Env} {P : D → Out → Prop} {R : D → Env → Prop}
theorem Bd.seq (h : Bd q c1 a s (f env) fun s' o => ∃ e, o = .nx e ∧ R s' e) (hg : ∀ s' e, R s' e → Bd q c2 a s' (g e) P) : Bd q (c1 + c2) a s (bSeq f g env) P := by
  unfold bSeq
  refine Bd.bind h fun s' o ho => ?_
  obtain ⟨e, rfl, he⟩ := ho
  exact hg s' e he
theorem Bd.seqP (h : f env = .ok (.nx e')) (hg : Bd q c a s (g e') P) : Bd q c a s (bSeq f g env) P := by
  rw [seq_ok h]; exact hg
theorem Bd.seqN (h : Y.rn a s (f env) = some (s', .inl (.nx e'))) (hg : Bd q c a s' (g e') P) : Bd q c a s (bSeq f g env) P :=
  (Bd.seq (c1 := 0) (c2 := c) (R := fun s2 e => s2 = s' ∧ e = e') (Bd.rn h ⟨_, rfl, rfl, rfl⟩) (by rintro _ _ ⟨rfl, rfl⟩; exact hg)).le (by omega)
theorem Bd.seqD {R : Env → Prop} (h : Dn q c1 (f env) fun o => ∃ e, o = .nx e ∧ R e) (hg : ∀ e, R e → Bd q c2 a s (g e) P) : Bd q (c1 + c2) a s (bSeq f g env) P :=
  Bd.seq (R := fun s2 e => s2 = s ∧ R e) (Bd.dn h fun o ⟨e, h1, h2⟩ => ⟨e, h1, rfl, h2⟩) (by rintro _ e ⟨rfl, he⟩; exact hg e he)
theorem Bd.forGo {α : Type} {tg : D → Env → Option Env} {fb : Env → M Out} {J : List α → D → Env → Prop} (F : α → D) (hb : ∀ x r s e, J (x :: r) s e → ∃ e1, tg (F x) e = some e1 ∧ Bd q c a s (fb e1) fun s' o => ∃ e2, o = .nx e2 ∧ J r s' e2) : ∀ (xs : List α) (s : D) (env : Env), J xs s env → Bd q (xs.length * c) a s (Y.forGo tg fb (xs.map F) env) fun s' o => ∃ e, o = .nx e ∧ J [] s' e
  | [], s, env, h => Bd.ok ⟨env, rfl, h⟩
  | x :: xs, s, env, h => by
    obtain ⟨e1, e, d⟩ := hb x xs s env h
    have := Bd.bind (c2 := xs.length * c) (f := fun o => match o with | .nx e => Y.forGo tg fb (xs.map F) e | .ct e => Y.forGo tg fb (xs.map F) e | .bk e => .ok (.nx e) | .rt v => .ok (.rt v)) d (R := fun s' o => ∃ e, o = .nx e ∧ J [] s' e) (fun s' o ho => by
      obtain ⟨e2, rfl, i2⟩ := ho
      exact Bd.forGo F hb xs s' e2 i2)
    have e' : Y.forGo tg fb ((x :: xs).map F) env = (fb e1).bind fun o => match o with | .nx e => Y.forGo tg fb (xs.map F) e | .ct e => Y.forGo tg fb (xs.map F) e | .bk e => .ok (.nx e) | .rt v => .ok (.rt v) := by
      show (M.of (tg (F x) env)).bind _ = _
      rw [e]
      rfl
    rw [e']
    exact this.le (by simp only [List.length_cons, Nat.add_mul]; omega)
theorem Dn.makeSeq {C : Str} {m : List D → M Vl} {fa : Env → M (List Vl)} {fe2 : Env → M Vl} {v2 : Vl} {is : List Nat} {REST : Env → M Out} {E : Addr → Env} {d s1 : D} {P : Out → Prop} (ha : fa env = .ok [(.s, d)]) (h2 : fe2 env = .ok v2) (hs : ∀ a, setsE env is [(.s, .rf a), v2] = some (E a))
    (hr : ∀ a, Y.rn a (.ins C []) (m [.rf a, d]) = some (s1, .inl (.s, .non))) (hk : ∀ a, Bd q c a s1 (REST (E a)) fun _ o => P o) : Dn q c (bSeq (bSets is (eCons (eMake C m fa) (eCons fe2 eNil))) REST env) P := by
  have e : bSeq (bSets is (eCons (eMake C m fa) (eCons fe2 eNil))) REST env = .new (.ins C []) fun a => (m [.rf a, d]).bind fun r => (match r with
    | (.s, .non) => M.ok ((Md.s, D.rf a) : Vl)
    | _ => M.bad).bind fun x => ((eCons fe2 eNil env).bind fun xs => M.ok (x :: xs)).bind fun rs => ((M.of (setsE env is rs)).bind fun e => M.ok (Out.nx e)).bind fun o => match o with
      | .nx e => REST e
      | o => .ok o := by
    show (((eMake C m fa env).bind fun x => (eCons fe2 eNil env).bind fun xs => M.ok (x :: xs)).bind fun rs => (M.of (setsE env is rs)).bind fun e => M.ok (Out.nx e)).bind _ = _
    unfold eMake
    rw [ha, ok_bind, if_pos (show okA [((Md.s, d) : Vl)] = true from rfl)]
    simp only [new_bind, bind_bind]
    rfl
  rw [e]
  refine Dn.newB fun a => ?_
  refine (Bd.bind (c1 := 0) (c2 := c) (P := fun s2 r => s2 = s1 ∧ r = (.s, .non)) (Bd.rn (hr a) ⟨rfl, rfl⟩) ?_).le (by omega)
  rintro _ _ ⟨rfl, rfl⟩
  show Bd q c a _ (((eCons fe2 eNil env).bind fun xs => M.ok (((Md.s, D.rf a) : Vl) :: xs)).bind _) _
  rw [cons_ok h2 nil1, ok_bind, ok_bind, hs a]
  exact hk a
end
section
variable {a : Addr} {L : Nat}
theorem q_init (h0 : 0 < L) (hL : L ≤ 120) : rn a (.ins "Bench" []) (m_Bench__init [.rf a, nI L]) = some (bs L [], .inl (.s, .non)) := by
  refine rn_bodyN (e := [some (false, .rf a), some (false, nI L)]) rfl ?_
  show rn a _ (b_Bench__init [some (false, .rf a), some (false, nI L)]) = _
  unfold b_Bench__init
  have e1 : bDrop (eCall m_need_length (eCons (eVar 1) eNil)) [some (false, .rf a), some (false, nI L)] = .ok (.nx [some (false, .rf a), some (false, nI L)]) := by
    unfold bDrop
    rw [call_ok (xs := [(.s, nI L)]) rfl rfl (q_need_length h0 hL)]
    rfl
  rw [rn_seq (rn_of e1)]
  refine (rn_seq (rn_fldPut (C := "Bench") (fs := []) (v := (.s, nI L)) (rn_of rfl) rfl rfl c_len (by simp))).trans ?_
  refine (rn_seq (rn_fldPut (C := "Bench") (fs := [("own_length", nI L)]) (v := (.s, .tup [])) (rn_of rfl) rfl rfl c_deeds (by simp))).trans ?_
  refine (rn_seq (rn_fldPut (C := "Bench") (fs := [("own_length", nI L), ("deeds", .tup [])]) (v := (.o, .dic [])) (rn_of rfl) rfl rfl c_known (by simp))).trans ?_
  exact rn_fldPut (C := "Bench") (fs := [("own_length", nI L), ("deeds", .tup []), ("known", .dic [])]) (v := (.s, .non)) (rn_of rfl) rfl rfl c_mark (by simp)
end
abbrev BLx : Ex := ⟨"BadLength", []⟩
def badLens : List D := [.int 0, .int 121, .int (-1), .bl true, .non, .str [49], .lst [.int 1]]
theorem bad_len : ∀ d ∈ badLens, m_need_length [d] = .raise BLx := by
  intro d hd
  simp only [badLens, List.mem_cons, List.not_mem_nil, or_false] at hd
  rcases hd with rfl | rfl | rfl | rfl | rfl | rfl | rfl <;> kernel_rfl
theorem init_bad {a : Addr} {d : D} (h : d ∈ badLens) : m_Bench__init [.rf a, d] = .raise BLx := by
  show bodyM 2 2 b_Bench__init [.rf a, d] = _
  unfold bodyM
  rw [if_pos (show [D.rf a, d].length = 2 from rfl)]
  show (b_Bench__init [some (false, .rf a), some (false, d)]).bind _ = _
  unfold b_Bench__init bSeq bDrop
  rw [call_ok (xs := [(.s, d)]) rfl rfl (bad_len d h)]
  rfl
theorem eqB2_one (x : D) : eqB2 (.lst [x]) (.lst []) = some (.bl false) := by
  have e : eqD (.lst [x]) (.lst []) = none ∨ eqD (.lst [x]) (.lst []) = some false := by
    show (match py (.lst [x]), py (.lst []) with
      | some p, some q => if SeqAt.shaped p && SeqAt.shaped q then some (PyData.eqv p q) else none
      | _, _ => none) = none ∨ _ = some false
    cases hx : py (.lst [x]) with
    | none => exact .inl rfl
    | some p =>
      have : ∃ p0, p = .list [p0] := by
        have h : (pys [x]).map PyData.list = some p := hx
        obtain ⟨ps, h1, rfl⟩ := Option.map_eq_some_iff.mp h
        obtain ⟨p0, qs, _, h2, rfl⟩ := pys_cons h1
        cases h2
        exact ⟨p0, rfl⟩
      obtain ⟨p0, rfl⟩ := this
      show (if SeqAt.shaped (.list [p0]) && SeqAt.shaped (.list []) then some (PyData.eqv (.list [p0]) (.list [])) else none) = none ∨ _
      by_cases hc : (SeqAt.shaped (.list [p0]) && SeqAt.shaped (.list [])) = true
      · right
        show eqD (.lst [x]) (.lst []) = _
        show (match py (.lst [x]), py (.lst []) with
          | some p, some q => if SeqAt.shaped p && SeqAt.shaped q then some (PyData.eqv p q) else none
          | _, _ => none) = some false
        rw [hx]
        show (if SeqAt.shaped (.list [p0]) && SeqAt.shaped (.list []) then some (PyData.eqv (.list [p0]) (.list [])) else none) = some false
        rw [if_pos hc]
        simp [PyData.eqv, PyData.eqvAll]
      · left
        rw [if_neg hc]
  unfold eqB2 eqB
  rcases e with e | e <;> rw [e] <;> rfl
end Y

namespace Y
open PySem PySem.Spec PyProof.Rows L2 Z
abbrev ST1 : Env → M Out := bFrz [1, 7] (bSet 8 (eCall m__law_drawn_deed (eCons (eVar 1) (eCons (eVar 7) eNil))))
abbrev ST2 : Env → M Out := bFrz [1, 7, 8] (bSet 8 (eIf (eB (eOp eqB (eCall m_take (eCons (eVar 1) (eCons (eC (.int 3)) eNil))) (eC (.int 0)))) (eCall m__law_bent (eCons (eVar 1) (eCons (eVar 7) (eCons (eVar 8) eNil)))) (eVar 8)))
abbrev ST3 : Env → M Out := bFrz [1, 7, 8] (bSet 9 (eCall m__law_step_right (eCons (eVar 1) (eCons (eVar 6) (eCons (eVar 7) (eCons (eVar 8) eNil))))))
abbrev ST4 : Env → M Out := bFrz [9] (bIf (eB (eOp eqB2 (eVar 9) (eLst eNil))) (bRet (eC (.bl false))) bNext)
abbrev ST5 : Env → M Out := bFrz [9] (bSet 7 (eIxA (eVar 9) (eC (.int 0))))
theorem ST_all : b_law_1 = bSeq ST1 (bSeq ST2 (bSeq ST3 (bSeq ST4 (ST5)))) := rfl
abbrev EL (ns : List Int) (q : Tk) (x2 x3 x4 x5 x6 x7 x8 x9 : OB) : Env := [some (false, .scr ns), some (false, .drw q), x2, x3, x4, x5, x6, x7, x8, x9]
theorem goR_len {L : Nat} {rs : List Deed} (sh : Sh) : (goR L rs sh).1.length ≤ rs.length + 1 := by
  unfold goR
  by_cases h : rfN L rs sh = 0
  · rw [if_pos h]
    cases sh with
    | add x => exact Nat.le_refl _
    | undo => show rs.tail.length ≤ _; rw [List.length_tail]; omega
    | strike x => exact Nat.le_refl _
    | mend x y => exact Nat.le_refl _
  · rw [if_neg h]; exact Nat.le_succ _
section
variable {ns : List Int} {q : Tk} {a : Addr} {L : Nat} {rs : List Deed} {x2 x3 x4 x5 x8 x9 : OB} {b : Bool}
theorem ix_one {i : Nat} {env : Env} {x : D} (h : eVar i env = .ok (.s, .lst [x])) : eIxA (eVar i) (eC (.int 0)) env = .ok (.s, x) := by
  unfold eIxA
  rw [h, ok_bind]
  rfl
theorem lap71 (hL : L ≤ 10) (hv : Va rs) (hl : rs.length < 800) : Bd q 60 a (bs L rs) (b_law_1 (EL ns q x2 x3 x4 x5 (some (false, .rf a)) (some (b, accD L rs)) x8 x9)) fun s' o => ∃ e, o = .nx e ∧ ∃ rs' x8' x9', Va rs' ∧ rs'.length ≤ rs.length + 1 ∧ s' = bs L rs' ∧ e = EL ns q x2 x3 x4 x5 (some (false, .rf a)) (some (false, accD L rs')) x8' x9' := by
  rw [ST_all]
  refine (Bd.seqD (c1 := 30) (c2 := 30) (R := fun e => ∃ sh, Dwn sh ∧ e = EL ns q x2 x3 x4 x5 (some (false, .rf a)) (some (false, accD L rs)) (some (false, shD sh)) x9) ?_ ?_).le (by omega)
  · have e : ST1 (EL ns q x2 x3 x4 x5 (some (false, .rf a)) (some (b, accD L rs)) x8 x9) = bSet 8 (eCall m__law_drawn_deed (eCons (eVar 1) (eCons (eVar 7) eNil))) (EL ns q x2 x3 x4 x5 (some (false, .rf a)) (some (false, accD L rs)) x8 x9) := by
      cases b <;> rfl
    rw [e]
    refine Dn.setS ?_
    rw [call_ok (xs := [(.s, .drw q), (.s, accD L rs)]) rfl rfl rfl]
    refine (d_deed hL hv (by omega)).mono ?_
    rintro r ⟨sh, rfl, h⟩
    exact ⟨_, rfl, sh, h, rfl⟩
  rintro e ⟨sh, hd, rfl⟩
  refine (Bd.seqD (c1 := 21) (c2 := 0) (R := fun e => ∃ sh, Sv sh ∧ e = EL ns q x2 x3 x4 x5 (some (false, .rf a)) (some (false, accD L rs)) (some (false, shD sh)) x9) ?_ ?_).le (by omega)
  · show Dn q 21 (bSet 8 _ (EL ns q x2 x3 x4 x5 (some (false, .rf a)) (some (false, accD L rs)) (some (false, shD sh)) x9)) _
    refine Dn.setS ?_
    unfold eIf
    refine (Dn.bind (c1 := 1) (c2 := 20) (P := fun _ => True) ?_ ?_).le (by omega)
    · unfold eB
      refine (Dn.bind (c1 := 1) (c2 := 0) (P := fun r => ∃ t, r = (.s, .bl t)) ?_ ?_).le (by omega)
      · refine (Dn.opD (c1 := 1) (c2 := 0) (P := fun x => ∃ k : Nat, k < 3 ∧ x = (.s, nI k)) ((d_takeN (n := 3) rfl (by omega) (by omega)).mono fun r ⟨k, hk, e⟩ => ⟨k, hk, e⟩) ?_).le (by omega)
        rintro x ⟨k, _, rfl⟩
        exact Dn.pure (show eC (.int 0) _ = .ok (.s, nI 0) from rfl) ⟨rfl, rfl, _, eqB_n k 0, _, rfl⟩
      · rintro r ⟨t, rfl⟩
        exact Dn.ok trivial
    · rintro t -
      cases t with
      | true =>
        rw [if_pos rfl, call_ok (xs := [(.s, .drw q), (.s, accD L rs), (.s, shD sh)]) rfl rfl rfl]
        refine (d_bent hL hd).mono ?_
        rintro r ⟨sh', rfl, h⟩
        exact ⟨_, rfl, sh', h, rfl⟩
      | false =>
        rw [if_neg Bool.false_ne_true]
        exact Dn.pure rfl ⟨_, rfl, sh, hd.sv, rfl⟩
  rintro e ⟨sh, hs, rfl⟩
  have h3 : rn a (bs L rs) (ST3 (EL ns q x2 x3 x4 x5 (some (false, .rf a)) (some (false, accD L rs)) (some (false, shD sh)) x9)) = some (bs L (goR L rs sh).1, .inl (.nx (EL ns q x2 x3 x4 x5 (some (false, .rf a)) (some (false, accD L rs)) (some (false, shD sh)) (some (true, .lst [accD L (goR L rs sh).1]))))) := by
    show rn a (bs L rs) (bSet 9 _ (EL ns q x2 x3 x4 x5 (some (false, .rf a)) (some (false, accD L rs)) (some (false, shD sh)) x9)) = _
    unfold bSet
    have c : rn a (bs L rs) (eCall m__law_step_right (eCons (eVar 1) (eCons (eVar 6) (eCons (eVar 7) (eCons (eVar 8) eNil)))) (EL ns q x2 x3 x4 x5 (some (false, .rf a)) (some (false, accD L rs)) (some (false, shD sh)) x9)) = some (bs L (goR L rs sh).1, .inl (.o, .lst [accD L (goR L rs sh).1])) := by
      rw [rn_call (xs := [(.s, .drw q), (.s, .rf a), (.s, accD L rs), (.s, shD sh)]) (rn_of rfl) rfl]
      exact q_step hs hv (by omega) (by omega)
    rw [rn_run c]
    rfl
  refine Bd.seqN h3 ?_
  generalize hr : (goR L rs sh).1 = rs'
  have hv' : Va rs' := hr ▸ goR_va hs hv
  have hl' : rs'.length ≤ rs.length + 1 := hr ▸ goR_len sh
  refine Bd.seqP (e' := EL ns q x2 x3 x4 x5 (some (false, .rf a)) (some (false, accD L rs)) (some (false, shD sh)) (some (false, .lst [accD L rs']))) ?_ ?_
  · show bIf _ _ _ (EL ns q x2 x3 x4 x5 (some (false, .rf a)) (some (false, accD L rs)) (some (false, shD sh)) (some (false, .lst [accD L rs']))) = _
    rw [bIf_f (tB_ok (op_ok (x := (.s, .lst [accD L rs'])) (y := (.o, .lst [])) rfl rfl (eqB2_one _) rfl rfl))]
    rfl
  refine Bd.pure (x := .nx (EL ns q x2 x3 x4 x5 (some (false, .rf a)) (some (false, accD L rs')) (some (false, shD sh)) (some (false, .lst [accD L rs'])))) ?_ ⟨_, rfl, rs', _, _, hv', hl', rfl, rfl⟩
  show bSet 7 _ (EL ns q x2 x3 x4 x5 (some (false, .rf a)) (some (false, accD L rs)) (some (false, shD sh)) (some (false, .lst [accD L rs']))) = _
  unfold bSet
  rw [ix_one (x := accD L rs') rfl]
  rfl
end
abbrev TU1 : Env → M Out := bFrz [1] (bSet 3 (eOp addD (eC (.int 1)) (eCall m_take (eCons (eVar 1) (eCons (eC (.int 3)) eNil)))))
abbrev TU2 : Env → M Out := bSets [6, 7] (eCons (eMakeK "Bench" 1 [0, 1] m_Bench__init (eCons (eVar 3) eNil)) (eCons (eCall m__law_begun_bench (eCons (eVar 3) eNil)) eNil))
abbrev TU3 : Env → M Out := bFor (eRng rngD1 (eCons (eOp addD (eC (.int 4)) (eCB minD2 (eCons (eCB lenD (eCons (eVar 0) eNil)) (eCons (eC (.int 10)) eNil)))) eNil)) (eTgN 4) (b_law_1)
abbrev TU4 : Env → M Out := bTmpClr (eProp0 "Bench" m_Bench__reads (eVar 6))
abbrev TU5 : Env → M Out := bTmpApp (eProp0 "Bench" m_Bench__log (eVar 6))
abbrev TU6 : Env → M Out := bFrz [7] (bIf (eNot (eB (eCall m__law_is_as (eCons (eVar 6) (eCons (eVar 7) eNil))))) (bRet (eC (.bl false))) bNext)
abbrev TU7 : Env → M Out := bFrz [1] (bSet 5 (eCall m__law_pick (eCons (eVar 1) (eCons (eLst (eCons (eC (.int 0)) (eCons (eC (.int 121)) (eCons (eUn negD (eC (.int 1))) (eCons (eC (.bl true)) (eCons (eC .non) (eCons (eC (.str [49])) (eCons (eLst (eCons (eC (.int 1)) eNil)) eNil)))))))) eNil))))
abbrev TU8 : Env → M Out := bFrz [5] (bIf (eNot (eB (eCB (isiD XT) (eCons (eCaughtH CAT (eMake "Bench" m_Bench__init (eCons (eVar 5) eNil))) (eCons (eC (.glo "BadLength")) eNil))))) (bRet (eC (.bl false))) bNext)
theorem TU_all : b_law_2 = bSeq TU1 (bSeq TU2 (bSeq TU3 (bSeq TU4 (bSeq TU5 (bSeq TU6 (bSeq TU7 (TU8))))))) := rfl
section
variable {ns : List Int} {q : Tk} {a : Addr} {L : Nat} {rs : List Deed} {x2 x3 x4 x5 x6 x7 x8 x9 : OB} {b : Bool}
theorem isBL2 : isiD XT [.exc "BadLength" [], .glo "BadLength"] = some (.bl true) := by
  have h2 : lookX XT "BadLength" "BadLength" = some true := by decide +kernel
  simp [isiD, tyName, h2]
theorem tu8 {d : D} (hd : d ∈ badLens) : TU8 (EL ns q x2 x3 x4 (some (false, d)) x6 x7 x8 x9) = .new (.ins "Bench" []) fun _ => .ok (.nx (EL ns q x2 x3 x4 (some (false, d)) x6 x7 x8 x9)) := by
  have hc : CAT.contains "BadLength" = true := by decide +kernel
  show bIf _ _ _ (EL ns q x2 x3 x4 (some (false, d)) x6 x7 x8 x9) = _
  have e1 : eMake "Bench" m_Bench__init (eCons (eVar 5) eNil) (hidE (EL ns q x2 x3 x4 (some (false, d)) x6 x7 x8 x9)) = .new (.ins "Bench" []) fun _ => .raise BLx := by
    unfold eMake
    rw [show eCons (eVar 5) eNil (hidE (EL ns q x2 x3 x4 (some (false, d)) x6 x7 x8 x9)) = .ok [(.s, d)] from rfl, ok_bind, if_pos (show okA [((Md.s, d) : Vl)] = true from rfl)]
    have e2 : ∀ a, m_Bench__init (.rf a :: dats [((Md.s, d) : Vl)]) = .raise BLx := fun a => init_bad hd
    simp only [e2, raise_bind]
  have e3 : eCaughtH CAT (eMake "Bench" m_Bench__init (eCons (eVar 5) eNil)) (EL ns q x2 x3 x4 (some (false, d)) x6 x7 x8 x9) = .new (.ins "Bench" []) fun _ => .ok (.s, .exc "BadLength" []) := by
    unfold eCaughtH
    rw [e1]
    show (M.new (D.ins "Bench" []) fun _ => (if CAT.contains "BadLength" then M.ok ((Md.s, D.exc "BadLength" []) : Vl) else M.bad)) = _
    rw [if_pos hc]
  have e4 : eB (eCB (isiD XT) (eCons (eCaughtH CAT (eMake "Bench" m_Bench__init (eCons (eVar 5) eNil))) (eCons (eC (.glo "BadLength")) eNil))) (EL ns q x2 x3 x4 (some (false, d)) x6 x7 x8 x9) = .new (.ins "Bench" []) fun _ => .ok true := by
    unfold eB eCB
    rw [show eCons (eCaughtH CAT (eMake "Bench" m_Bench__init (eCons (eVar 5) eNil))) (eCons (eC (.glo "BadLength")) eNil) (EL ns q x2 x3 x4 (some (false, d)) x6 x7 x8 x9) = .new (.ins "Bench" []) fun _ => .ok [(.s, .exc "BadLength" []), (.s, .glo "BadLength")] from by
      show ((eCaughtH CAT (eMake "Bench" m_Bench__init (eCons (eVar 5) eNil)) (EL ns q x2 x3 x4 (some (false, d)) x6 x7 x8 x9)).bind _) = _
      rw [e3]
      rfl]
    show (M.new _ fun _ => (((M.of (isiD XT [.exc "BadLength" [], .glo "BadLength"])).bind _).bind _)) = _
    rw [isBL2]
    rfl
  unfold bIf eNot
  rw [e4]
  rfl
theorem rest71 (hL0 : 0 < L) (hL : L ≤ 10) (hn : ns.length ≤ 63) : Bd q 900 a (bs L []) ((bSeq TU3 (bSeq TU4 (bSeq TU5 (bSeq TU6 (bSeq TU7 (TU8)))))) (EL ns q x2 (some (false, nI L)) x4 x5 (some (false, .rf a)) (some (true, accD L [])) x8 x9)) fun _ o => ∃ e, o = .nx e ∧ ∃ x2 x3 x4 x5 x6 x7 x8 x9, e = EL ns q x2 x3 x4 x5 x6 x7 x8 x9 := by
  have hr : eRng rngD1 (eCons (eOp addD (eC (.int 4)) (eCB minD2 (eCons (eCB lenD (eCons (eVar 0) eNil)) (eCons (eC (.int 10)) eNil)))) eNil) (EL ns q x2 (some (false, nI L)) x4 x5 (some (false, .rf a)) (some (true, accD L [])) x8 x9) = .ok ((List.range (4 + min ns.length 10)).map nI) := by
    have c1 : eCB lenD (eCons (eVar 0) eNil) (EL ns q x2 (some (false, nI L)) x4 x5 (some (false, .rf a)) (some (true, accD L [])) x8 x9) = .ok (.s, nI ns.length) := cb_ok (xs := [(.s, .scr ns)]) rfl rfl rfl
    have c2 : eCB minD2 (eCons (eCB lenD (eCons (eVar 0) eNil)) (eCons (eC (.int 10)) eNil)) (EL ns q x2 (some (false, nI L)) x4 x5 (some (false, .rf a)) (some (true, accD L [])) x8 x9) = .ok (.s, nI (min ns.length 10)) := cb_ok (cons_ok c1 (show eCons (eC (.int 10)) eNil _ = .ok [(.s, nI 10)] from rfl)) (min_n ns.length 10) rfl
    have c3 : eOp addD (eC (.int 4)) (eCB minD2 (eCons (eCB lenD (eCons (eVar 0) eNil)) (eCons (eC (.int 10)) eNil))) (EL ns q x2 (some (false, nI L)) x4 x5 (some (false, .rf a)) (some (true, accD L [])) x8 x9) = .ok (.s, .int ((4 + min ns.length 10 : Nat) : Int)) := op_ok (x := (.s, nI 4)) (y := (.s, nI (min ns.length 10))) rfl c2 (by
      show some (D.int (((4 : Nat) : Int) + ((min ns.length 10 : Nat) : Int))) = some (D.int _)
      congr 2) rfl rfl
    exact rng1_n c3 (by omega)
  refine (Bd.seq (c1 := 14 * 60) (c2 := 1) (R := fun s e => ∃ rs x4 x8 x9 b, Va rs ∧ rs.length ≤ 14 ∧ s = bs L rs ∧ e = EL ns q x2 (some (false, nI L)) x4 x5 (some (false, .rf a)) (some (b, accD L rs)) x8 x9) ?_ ?_).le (by omega)
  · show Bd q _ a _ (bFor _ _ _ _) _
    unfold bFor
    rw [hr, ok_bind]
    refine ((Bd.forGo (c := 60) (J := fun (r : List Nat) s e => ∃ rs x4 x8 x9 b, Va rs ∧ rs.length + r.length ≤ 14 ∧ s = bs L rs ∧ e = EL ns q x2 (some (false, nI L)) x4 x5 (some (false, .rf a)) (some (b, accD L rs)) x8 x9) nI ?_ (List.range (4 + min ns.length 10)) _ _ ?_).le (by rw [List.length_range]; omega)).mono ?_
    · rintro x r s e ⟨rs, x4, x8, x9, b, hv, hl, rfl, rfl⟩
      rw [List.length_cons] at hl
      refine ⟨EL ns q x2 (some (false, nI L)) (some (false, nI x)) x5 (some (false, .rf a)) (some (b, accD L rs)) x8 x9, rfl, (lap71 hL hv (by omega)).mono ?_⟩
      rintro s' o ⟨e, rfl, rs', x8', x9', h1, h2, rfl, rfl⟩
      exact ⟨_, rfl, rs', _, _, _, _, h1, by omega, rfl, rfl⟩
    · exact ⟨[], _, _, _, _, trivial, by rw [List.length_range]; simp; omega, rfl, rfl⟩
    · rintro s' o ⟨e, rfl, rs, x4, x8, x9, b, h1, h2, h3, h4⟩
      exact ⟨e, rfl, rs, x4, x8, x9, b, h1, by simpa using h2, h3, h4⟩
  rintro s e ⟨rs, x4, x8, x9, b, hv, hl, rfl, rfl⟩
  refine Bd.seqN (s' := bs L rs) (e' := EL ns q x2 (some (false, nI L)) x4 x5 (some (false, .rf a)) (some (b, accD L rs)) x8 x9) (by
    show rn a _ (bTmpClr _ _) = _
    unfold bTmpClr
    rw [rn_run (r_reads rfl)]
    rfl) ?_
  refine Bd.seqN (s' := bs L rs) (e' := EL ns q x2 (some (false, nI L)) x4 x5 (some (false, .rf a)) (some (b, accD L rs)) x8 x9) (by
    show rn a _ (bTmpApp _ _) = _
    unfold bTmpApp
    rw [rn_run (r_log rfl)]
    show rn a _ (if (dsD rs).length < 1000000 then _ else _) = _
    rw [if_pos (by rw [dsD_len]; omega)]
    rfl) ?_
  refine Bd.seqN (s' := bs L rs) (e' := EL ns q x2 (some (false, nI L)) x4 x5 (some (false, .rf a)) (some (false, accD L rs)) x8 x9) (by
    have e : TU6 (EL ns q x2 (some (false, nI L)) x4 x5 (some (false, .rf a)) (some (b, accD L rs)) x8 x9) = bIf (eNot (eB (eCall m__law_is_as (eCons (eVar 6) (eCons (eVar 7) eNil))))) (bRet (eC (.bl false))) bNext (EL ns q x2 (some (false, nI L)) x4 x5 (some (false, .rf a)) (some (false, accD L rs)) x8 x9) := by
      cases b <;> rfl
    rw [e]
    have t := is_as_at (a := a) (L := L) (rs := rs) (i := 6) (j := 7) (env := EL ns q x2 (some (false, nI L)) x4 x5 (some (false, .rf a)) (some (false, accD L rs)) x8 x9) rfl rfl (by omega) hv (by omega)
    have t2 : rn a (bs L rs) (eNot (eB (eCall m__law_is_as (eCons (eVar 6) (eCons (eVar 7) eNil)))) (EL ns q x2 (some (false, nI L)) x4 x5 (some (false, .rf a)) (some (false, accD L rs)) x8 x9)) = some (bs L rs, .inl false) := by
      unfold eNot
      rw [rn_run t]
      rfl
    rw [rn_if t2]
    rfl) ?_
  refine (Bd.seqD (c1 := 1) (c2 := 0) (R := fun e => ∃ d ∈ badLens, e = EL ns q x2 (some (false, nI L)) x4 (some (false, d)) (some (false, .rf a)) (some (false, accD L rs)) x8 x9) ?_ ?_).le (by omega)
  · show Dn q 1 (bSet 5 _ (EL ns q x2 (some (false, nI L)) x4 x5 (some (false, .rf a)) (some (false, accD L rs)) x8 x9)) _
    refine Dn.setS ((d_pickN (ds := badLens) (m := .o) rfl rfl rfl (by simp [badLens]) (by simp [badLens])).mono ?_)
    rintro r ⟨d, hd, rfl⟩
    exact ⟨_, rfl, d, hd, rfl⟩
  rintro e ⟨d, hd, rfl⟩
  refine Bd.dn (P := fun o => ∃ e, o = .nx e ∧ ∃ x2 x3 x4 x5 x6 x7 x8 x9, e = EL ns q x2 x3 x4 x5 x6 x7 x8 x9) ?_ fun o ho => ho
  rw [tu8 hd]
  exact Dn.newB fun a' => Bd.ok ⟨_, rfl, _, _, _, _, _, _, _, _, rfl⟩
theorem turn71 (hn : ns.length ≤ 63) : Dn q 1000 (b_law_2 (EL ns q x2 x3 x4 x5 x6 x7 x8 x9)) fun o => ∃ e, o = .nx e ∧ ∃ x2 x3 x4 x5 x6 x7 x8 x9, e = EL ns q x2 x3 x4 x5 x6 x7 x8 x9 := by
  rw [TU_all]
  refine (Dn.seq (c1 := 1) (c2 := 900) (R := fun e => ∃ L : Nat, 0 < L ∧ L ≤ 3 ∧ e = EL ns q x2 (some (false, nI L)) x4 x5 x6 x7 x8 x9) ?_ ?_).le (by omega)
  · show Dn q 1 (bSet 3 _ (EL ns q x2 x3 x4 x5 x6 x7 x8 x9)) _
    refine Dn.setS ((Dn.opD (c1 := 0) (c2 := 1) (P := fun x => x = (.s, nI 1)) (Dn.eqV rfl) ?_).le (by omega))
    rintro x rfl
    refine (d_takeN (n := 3) rfl (by omega) (by omega)).mono ?_
    rintro y ⟨k, hk, rfl⟩
    exact ⟨rfl, rfl, nI (1 + k), rfl, _, rfl, 1 + k, by omega, by omega, rfl⟩
  rintro e ⟨L, h0, hL, rfl⟩
  have e1 : eMakeK "Bench" 1 [0, 1] m_Bench__init (eCons (eVar 3) eNil) (EL ns q x2 (some (false, nI L)) x4 x5 x6 x7 x8 x9) = eMake "Bench" m_Bench__init (eCons (eVar 3) eNil) (EL ns q x2 (some (false, nI L)) x4 x5 x6 x7 x8 x9) := makeK_eq (d := nI L) rfl
  have e2 : ∀ REST : Env → M Out, bSeq TU2 REST (EL ns q x2 (some (false, nI L)) x4 x5 x6 x7 x8 x9) = bSeq (bSets [6, 7] (eCons (eMake "Bench" m_Bench__init (eCons (eVar 3) eNil)) (eCons (eCall m__law_begun_bench (eCons (eVar 3) eNil)) eNil))) REST (EL ns q x2 (some (false, nI L)) x4 x5 x6 x7 x8 x9) := fun REST => by
    show ((((eMakeK "Bench" 1 [0, 1] m_Bench__init (eCons (eVar 3) eNil) (EL ns q x2 (some (false, nI L)) x4 x5 x6 x7 x8 x9)).bind _).bind _).bind _) = _
    rw [e1]
    rfl
  rw [e2]
  exact Dn.makeSeq (d := nI L) (v2 := (.o, accD L [])) (s1 := bs L []) (E := fun a => EL ns q x2 (some (false, nI L)) x4 x5 (some (false, .rf a)) (some (true, accD L [])) x8 x9) rfl (call_ok (xs := [(.s, nI L)]) rfl rfl q_begun_bench) (fun a => rfl) (fun a => q_init h0 (by omega)) fun a => rest71 h0 (by omega) hn
end
end Y

namespace Y
open PySem PySem.Spec PyProof.Rows L2 Z
abbrev FU1 : Env → M Out := bSets [1, 2] (eCons (eMake "Bench" m_Bench__init (eCons (eC (.int 1)) eNil)) (eCons (eCall m__law_begun_bench (eCons (eC (.int 1)) eNil)) eNil))
abbrev FU2 : Env → M Out := bFor (eRng rngD1 (eCons (eC (.int 20)) eNil)) (eTgN 3) (b__law_full_right_1)
abbrev FU3 : Env → M Out := bSet 5 (eLst (eCons (eTup (eCons (eC (.str [97, 100, 100])) (eCons (eC (.str [97, 99])) eNil))) (eCons (eTup (eCons (eC (.str [97, 100, 100])) (eCons (eC (.str [97])) eNil))) (eCons (eTup (eCons (eC (.str [115, 116, 114, 105, 107, 101])) (eCons (eCall m_take (eCons (eVar 0) (eCons (eC (.int 20)) eNil))) eNil))) (eCons (eTup (eCons (eC (.str [97, 100, 100])) (eCons (eC (.str [103, 116])) eNil))) (eCons (eTup (eCons (eC (.str [97, 100, 100])) (eCons (eC (.str [103, 116])) eNil))) eNil))))))
abbrev FU4 : Env → M Out := bFrz [5] (bFor (eItA (eOp addD (eVar 5) (eLst (eCons (eTup (eCons (eC (.str [117, 110, 100, 111])) eNil)) (eCons (eTup (eCons (eC (.str [117, 110, 100, 111])) eNil)) eNil))))) (eTgN 6) (b__law_full_right_2))
abbrev FU5 : Env → M Out := bFrz [2] (bIf (eOr (eB (eOp neB (eCB lenD (eCons (eIxA (eVar 2) (eC (.str [114, 101, 97, 100, 115]))) eNil)) (eC (.int 20)))) (eOr (eB (eIsN true (eMethK "Bench" "mend" 2 [0, 1, 2] m_Bench__mend (eVar 1) (eCons (eC (.int 3)) (eCons (eC (.str [116, 116, 116])) eNil))))) (eB (eOp neB (eIxA (eProp0 "Bench" m_Bench__reads (eVar 1)) (eC (.int 3))) (eC (.str [116, 116, 116])))))) (bRet (eC (.bl false))) bNext)
abbrev FU6 : Env → M Out := bRet (eAndV (eIsN false (eMethK "Bench" "strike" 1 [0, 1] m_Bench__strike (eVar 1) (eCons (eC (.int 3)) eNil))) (eOp notInAB (eC (.int 3)) (eProp0 "Bench" m_Bench__reads (eVar 1))))
theorem FU_all : b__law_full_right = bSeq FU1 (bSeq FU2 (bSeq FU3 (bSeq FU4 (bSeq FU5 (FU6))))) := rfl
abbrev FV1 : Env → M Out := bSet 4 (eCall m__law_letters (eCons (eVar 0) (eCons (eC (.str [97, 99, 103, 116])) (eCons (eC (.int 2)) eNil))))
abbrev FV2 : Env → M Out := bFrz [4] (bIf (eB (eOp neB (eMethK "Bench" "add" 1 [0, 1] m_Bench__add (eVar 1) (eCons (eVar 4) eNil)) (eVar 3))) (bRet (eC (.bl false))) bNext)
abbrev FV3 : Env → M Out := bFrz [2, 4] (bSet 2 (eCall m__law_behind (eCons (eVar 2) (eCons (eTup (eCons (eC (.str [97, 100, 100])) (eCons (eVar 4) eNil))) eNil))))
theorem FV_all : b__law_full_right_1 = bSeq FV1 (bSeq FV2 (FV3)) := rfl
abbrev FW1 : Env → M Out := bFrz [2] (bSet 7 (eCall m__law_step_right (eCons (eVar 0) (eCons (eVar 1) (eCons (eVar 2) (eCons (eVar 6) eNil))))))
abbrev FW2 : Env → M Out := bFrz [7] (bIf (eB (eOp eqB2 (eVar 7) (eLst eNil))) (bRet (eC (.bl false))) bNext)
abbrev FW3 : Env → M Out := bFrz [7] (bSet 2 (eIxA (eVar 7) (eC (.int 0))))
theorem FW_all : b__law_full_right_2 = bSeq FW1 (bSeq FW2 (FW3)) := rfl
abbrev EF (q : Tk) (x1 x2 x3 x4 x5 x6 x7 : OB) : Env := [some (false, .drw q), x1, x2, x3, x4, x5, x6, x7]
structure Ad (k : Nat) (rs : List Deed) : Prop where
  va : Va rs
  len : rs.length = k
  cn : cn rs = k
  kn : (Kn rs).length = k
  has : ∀ n, n < k → has (Kn rs) n = true
theorem Ad.zero : Ad 0 [] := ⟨trivial, rfl, rfl, rfl, fun n h => absurd h (Nat.not_lt_zero _)⟩
theorem Ad.add {k : Nat} {rs : List Deed} {z : List Nat} (h : Ad k rs) (hk : k < 20) (hz : wordI z = true) (hl : z.length ≤ 100) : Ad (k + 1) (.add z :: rs) := by
  refine ⟨⟨h.va, hz, hl, by rw [h.kn]; exact hk⟩, by rw [List.length_cons, h.len], by show Y.cn rs + 1 = _; rw [h.cn], by show (Kn rs ++ [(Y.cn rs, z)]).length = _; rw [List.length_append, h.kn]; rfl, fun n hn => ?_⟩
  show Y.has (Kn rs ++ [(Y.cn rs, z)]) n = true
  unfold Y.has
  rw [List.any_append]
  by_cases e : n = k
  · subst e
    rw [h.cn]
    simp
  · have := h.has n (by omega)
    unfold Y.has at this
    rw [this]
    rfl
theorem rf_addK {k : Nat} {rs : List Deed} {z : List Nat} (h : Ad k rs) (hk : k < 20) (hz : wordI z = true) (hl : 1 < z.length) : rfN 1 rs (.add (.str z)) = 0 := by
  show (if rdB 1 (.str z) then (if 20 ≤ (Kn rs).length then 3 else 0) else 2) = 0
  have : rdB 1 (.str z) = true := by
    show (wordI z && decide (1 < z.length)) = true
    rw [hz, decide_eq_true hl]; rfl
  rw [this, if_pos rfl, if_neg (by rw [h.kn]; omega)]
section
variable {q : Tk} {a : Addr} {rs : List Deed} {x1 x2 x3 x4 x5 x6 x7 : OB} {b : Bool} {s s' : D} {env : Env}
theorem rn_methK {C nm : Str} {nk : Nat} {is : List Nat} {mm : List D → M Vl} {fo : Env → M Vl} {fa : Env → M (List Vl)} {xs : List Vl} (h1 : fo env = .ok (.s, .rf a)) (h2 : isIn C nm s = true) (h3 : fa env = .ok xs) (h4 : xs.length = nk ∧ okA xs = true) : rn a s (eMethK C nm nk is mm fo fa env) = rn a s (mm (dats (Z.perm is [((Md.s, D.rf a) : Vl)] xs))) := by
  unfold eMethK
  rw [h1, ok_bind]
  show (if a = a then rn a s (if isIn C nm s then (fa env).bind fun xs => if xs.length = nk ∧ okA xs = true then mm (dats (Z.perm is [((Md.s, D.rf a) : Vl)] xs)) else .bad else .bad) else none) = _
  rw [if_pos rfl, h2, if_pos rfl, h3, ok_bind, if_pos h4]
theorem rn_op2 {s2 : D} {h : D → D → Option D} {fa fb : Env → M Vl} {x y : Vl} {d : D} (h1 : rn a s (fa env) = some (s', .inl x)) (h2 : rn a s' (fb env) = some (s2, .inl y)) (h3 : h x.2 y.2 = some d) (v1 : isV x = false) (v2 : isV y = false) : rn a s (eOp h fa fb env) = some (s2, .inl (.s, d)) := by
  unfold eOp
  rw [rn_run h1, rn_run h2, h3, of_some, ok_bind, v1, v2]
  rfl
theorem rn_tB2 {fv : Env → M Vl} {t : Bool} (h : rn a s (fv env) = some (s', .inl (.s, .bl t))) : rn a s (eB fv env) = some (s', .inl t) := by
  have e : eB fv env = (fv env).bind fun x => eB (fun _ => .ok x) env := by unfold eB; rfl
  rw [e, rn_run h, tB_ok rfl]
  rfl
theorem rn_if2 {ft : Env → M Bool} {fo go : Env → M Out} {t : Bool} (h : rn a s (ft env) = some (s', .inl t)) : rn a s (bIf ft fo go env) = rn a s' (if t then fo env else go env) := by
  unfold bIf
  rw [rn_run h]
theorem rn_or2 {f h : Env → M Bool} {s2 : D} {y : Bool} (h1 : rn a s (f env) = some (s', .inl false)) (h2 : rn a s' (h env) = some (s2, .inl y)) : rn a s (eOr f h env) = some (s2, .inl y) := by
  unfold eOr
  rw [rn_run h1]
  exact h2
theorem rn_isN {neg : Bool} {f : Env → M Vl} {x : Vl} (h : rn a s (f env) = some (s', .inl x)) : rn a s (eIsN neg f env) = some (s', .inl (.s, .bl (neg ^^ isNonD x.2))) := by
  unfold eIsN
  rw [rn_run h]
  rfl
theorem rn_andV {f g : Env → M Vl} {s2 : D} {y : Vl} (h1 : rn a s (f env) = some (s', .inl (.s, .bl true))) (h2 : rn a s' (g env) = some (s2, .inl y)) : rn a s (eAndV f g env) = some (s2, .inl y) := by
  unfold eAndV
  rw [rn_run (rn_tB2 h1)]
  exact h2
theorem rn_ixA {f g : Env → M Vl} {x y : Vl} {d : D} (h1 : rn a s (f env) = some (s', .inl x)) (h2 : g env = .ok y) (h3 : ixA x.2 y.2 = some d) : rn a s (eIxA f g env) = some (s', .inl (.s, d)) := by
  unfold eIxA
  rw [rn_run h1, h2, ok_bind, h3]
  rfl
theorem lapA {k : Nat} (h : Ad k rs) (hk : k < 20) : Bd q 2 a (bs 1 rs) (b__law_full_right_1 (EF q (some (false, .rf a)) (some (b, accD 1 rs)) (some (false, nI k)) x4 x5 x6 x7)) fun s' o => ∃ e, o = .nx e ∧ ∃ rs' x3 x4 b, Ad (k + 1) rs' ∧ s' = bs 1 rs' ∧ e = EF q (some (false, .rf a)) (some (b, accD 1 rs')) x3 x4 x5 x6 x7 := by
  rw [FV_all]
  refine (Bd.seqD (c1 := 2) (c2 := 0) (R := fun e => ∃ z, Ac z ∧ z.length = 2 ∧ e = EF q (some (false, .rf a)) (some (b, accD 1 rs)) (some (false, nI k)) (some (false, .str z)) x5 x6 x7) ?_ ?_).le (by omega)
  · refine Dn.setS ?_
    rw [call_ok (xs := [(.s, .drw q), (.s, .str [97, 99, 103, 116]), (.s, nI 2)]) rfl rfl rfl]
    refine (d_letters (q := q) (w := [97, 99, 103, 116]) (n := 2) (by unfold Ac; decide) (by decide) (by decide) (by omega)).mono ?_
    rintro r ⟨z, rfl, h1, h2⟩
    exact ⟨_, rfl, z, h1, h2, rfl⟩
  rintro e ⟨z, hz, hzl, rfl⟩
  have hw : wordI z = true := wordI_iff.mpr ⟨hz, by omega⟩
  have h0 := rf_addK h hk hw (by omega)
  have hav : Av (.str z) := .inl ⟨z, rfl, by omega, ac_ok hz⟩
  have hg : goR 1 rs (.add (.str z)) = (.add z :: rs, .inl (.s, nI k)) := by
    unfold goR
    rw [h0, if_pos rfl]
    show (Deed.add z :: rs, Sum.inl ((Md.s, nI (cn rs)) : Vl)) = _
    rw [h.cn]
  have hadd := h.add hk hw (by omega)
  have c1 : rn a (bs 1 rs) (eMethK "Bench" "add" 1 [0, 1] m_Bench__add (eVar 1) (eCons (eVar 4) eNil) (EF q (some (false, .rf a)) (some (b, accD 1 rs)) (some (false, nI k)) (some (false, .str z)) x5 x6 x7)) = some (bs 1 (.add z :: rs), .inl (.s, nI k)) := by
    refine (rn_methK (nk := 1) (xs := [(.s, .str z)]) rfl in_add rfl ⟨rfl, rfl⟩).trans ?_
    show rn a _ (m_Bench__add [.rf a, .str z]) = _
    rw [r_add hav h.va (by rw [h.len]; omega), hg]
  refine Bd.seqN (s' := bs 1 (.add z :: rs)) (e' := EF q (some (false, .rf a)) (some (b, accD 1 rs)) (some (false, nI k)) (some (false, .str z)) x5 x6 x7) ?_ ?_
  · show rn a _ (bIf _ _ _ (EF q (some (false, .rf a)) (some (b, accD 1 rs)) (some (false, nI k)) (some (false, .str z)) x5 x6 x7)) = _
    have t := rn_tB2 (rn_op2 (h := neB) (d := .bl false) (y := (.s, nI k)) (fb := eVar 3) c1 (rn_of rfl) (by show (eqD (nI k) (nI k)).map _ = _; rw [nn_self]; rfl) rfl rfl)
    rw [rn_if2 t]
    rfl
  refine Bd.pure (x := .nx (EF q (some (false, .rf a)) (some (true, accD 1 (.add z :: rs))) (some (false, nI k)) (some (false, .str z)) x5 x6 x7)) ?_ ⟨_, rfl, _, _, _, _, hadd, rfl, rfl⟩
  have e3 : FV3 (EF q (some (false, .rf a)) (some (b, accD 1 rs)) (some (false, nI k)) (some (false, .str z)) x5 x6 x7) = bSet 2 (eCall m__law_behind (eCons (eVar 2) (eCons (eTup (eCons (eC (.str [97, 100, 100])) (eCons (eVar 4) eNil))) eNil))) (EF q (some (false, .rf a)) (some (false, accD 1 rs)) (some (false, nI k)) (some (false, .str z)) x5 x6 x7) := by
    cases b <;> rfl
  rw [e3]
  unfold bSet
  rw [call_ok (xs := [(.s, accD 1 rs), (.s, ddD (.add z))]) rfl rfl (q_behindD hadd.va (by rw [h.len]; omega))]
  rfl
theorem lapW {sh : Sh} (hs : Sv sh) (hv : Va rs) (hl : rs.length < 800) : Bd q 0 a (bs 1 rs) (b__law_full_right_2 (EF q (some (false, .rf a)) (some (b, accD 1 rs)) x3 x4 x5 (some (false, shD sh)) x7)) fun s' o => ∃ e, o = .nx e ∧ ∃ x7, s' = bs 1 (goR 1 rs sh).1 ∧ e = EF q (some (false, .rf a)) (some (false, accD 1 (goR 1 rs sh).1)) x3 x4 x5 (some (false, shD sh)) x7 := by
  rw [FW_all]
  have e1 : FW1 (EF q (some (false, .rf a)) (some (b, accD 1 rs)) x3 x4 x5 (some (false, shD sh)) x7) = bSet 7 (eCall m__law_step_right (eCons (eVar 0) (eCons (eVar 1) (eCons (eVar 2) (eCons (eVar 6) eNil))))) (EF q (some (false, .rf a)) (some (false, accD 1 rs)) x3 x4 x5 (some (false, shD sh)) x7) := by
    cases b <;> rfl
  have h3 : rn a (bs 1 rs) (FW1 (EF q (some (false, .rf a)) (some (b, accD 1 rs)) x3 x4 x5 (some (false, shD sh)) x7)) = some (bs 1 (goR 1 rs sh).1, .inl (.nx (EF q (some (false, .rf a)) (some (false, accD 1 rs)) x3 x4 x5 (some (false, shD sh)) (some (true, .lst [accD 1 (goR 1 rs sh).1]))))) := by
    rw [e1]
    unfold bSet
    have c : rn a (bs 1 rs) (eCall m__law_step_right (eCons (eVar 0) (eCons (eVar 1) (eCons (eVar 2) (eCons (eVar 6) eNil)))) (EF q (some (false, .rf a)) (some (false, accD 1 rs)) x3 x4 x5 (some (false, shD sh)) x7)) = some (bs 1 (goR 1 rs sh).1, .inl (.o, .lst [accD 1 (goR 1 rs sh).1])) := by
      rw [rn_call (xs := [(.s, .drw q), (.s, .rf a), (.s, accD 1 rs), (.s, shD sh)]) (rn_of rfl) rfl]
      exact q_step hs hv (by omega) (by omega)
    rw [rn_run c]
    rfl
  refine Bd.seqN h3 ?_
  generalize (goR 1 rs sh).1 = rs'
  refine Bd.seqP (e' := EF q (some (false, .rf a)) (some (false, accD 1 rs)) x3 x4 x5 (some (false, shD sh)) (some (false, .lst [accD 1 rs']))) ?_ ?_
  · show bIf _ _ _ (EF q (some (false, .rf a)) (some (false, accD 1 rs)) x3 x4 x5 (some (false, shD sh)) (some (false, .lst [accD 1 rs']))) = _
    rw [bIf_f (tB_ok (op_ok (x := (.s, .lst [accD 1 rs'])) (y := (.o, .lst [])) rfl rfl (eqB2_one _) rfl rfl))]
    rfl
  refine Bd.pure (x := .nx (EF q (some (false, .rf a)) (some (false, accD 1 rs')) x3 x4 x5 (some (false, shD sh)) (some (false, .lst [accD 1 rs'])))) ?_ ⟨_, rfl, _, rfl, rfl⟩
  show bSet 2 _ (EF q (some (false, .rf a)) (some (false, accD 1 rs)) x3 x4 x5 (some (false, shD sh)) (some (false, .lst [accD 1 rs']))) = _
  unfold bSet
  rw [ix_one (x := accD 1 rs') rfl]
  rfl
end
def sevenL (k : Nat) : List Sh := [.add (.str [97, 99]), .add (.str [97]), .strike (nI k), .add (.str [103, 116]), .add (.str [103, 116]), .undo, .undo]
theorem seven_sv {k : Nat} : ∀ sh ∈ sevenL k, Sv sh := by
  have w : ∀ z : List Nat, z.length ≤ 100 → (∀ c ∈ z, c < 256) → Av (.str z) := fun z h1 h2 => .inl ⟨z, rfl, h1, h2⟩
  intro sh h
  simp only [sevenL, List.mem_cons, List.not_mem_nil, or_false] at h
  rcases h with rfl | rfl | rfl | rfl | rfl | rfl | rfl
  · exact w _ (by decide) (by decide)
  · exact w _ (by decide) (by decide)
  · exact .inr (.inl ⟨_, rfl⟩)
  · exact w _ (by decide) (by decide)
  · exact w _ (by decide) (by decide)
  · trivial
  · trivial
theorem filt_one {ks : Ks} {n : Nat} (hp : ks.Pairwise fun e f => e.1 < f.1) (h : has ks n = true) : (ks.filter fun e => decide (e.1 ≠ n)).length + 1 = ks.length := by
  induction ks with
  | nil => cases h
  | cons e ks ih =>
    obtain ⟨h1, h2⟩ := List.pairwise_cons.mp hp
    by_cases he : e.1 = n
    · rw [List.filter_cons_of_neg (by simp [he])]
      have : ks.filter (fun e => decide (e.1 ≠ n)) = ks := List.filter_eq_self.mpr fun f hf => by
        have := h1 f hf
        simp; omega
      rw [this, List.length_cons]
    · rw [List.filter_cons_of_pos (by simp [he]), List.length_cons, List.length_cons]
      have h3 : has ks n = true := by
        unfold has at h ⊢
        rw [List.any_cons, Bool.or_eq_true] at h
        rcases h with h | h
        · exact (he (of_decide_eq_true h)).elim
        · exact h
      rw [ih h2 h3]
theorem go_full {rs : List Deed} (h : 20 ≤ (Kn rs).length) {z : List Nat} : (goR 1 rs (.add (.str z))).1 = rs := by
  have : rfN 1 rs (.add (.str z)) ≠ 0 := by
    show (if rdB 1 (.str z) then (if 20 ≤ (Kn rs).length then 3 else 0) else 2) ≠ 0
    rw [if_pos h]
    split <;> simp
  unfold goR
  rw [if_neg this]
theorem go_strike {rs : List Deed} {n : Nat} (h : has (Kn rs) n = true) : (goR 1 rs (.strike (nI n))).1 = .strike n :: rs := by
  have h1 : nmB (Kn rs) (nI n) = true := by
    show (getD (kD (Kn rs)) (.inl (n : Int))).isSome = true
    rw [kD_get, h]
  have : rfN 1 rs (.strike (nI n)) = 0 := by
    show (if nmB (Kn rs) (nI n) then 0 else 1) = 0
    rw [h1]; rfl
  unfold goR
  rw [this, if_pos rfl]
  show Deed.strike (natD (nI n)) :: rs = _
  have e : natD (nI n) = n := by show ((n : Int)).toNat = n; omega
  rw [e]
theorem go_add {rs : List Deed} {z : List Nat} (h : (Kn rs).length < 20) (hz : wordI z = true) (hl : 1 < z.length) : (goR 1 rs (.add (.str z))).1 = .add z :: rs := by
  have : rfN 1 rs (.add (.str z)) = 0 := by
    show (if rdB 1 (.str z) then (if 20 ≤ (Kn rs).length then 3 else 0) else 2) = 0
    have : rdB 1 (.str z) = true := by
      show (wordI z && decide (1 < z.length)) = true
      rw [hz, decide_eq_true hl]; rfl
    rw [this, if_pos rfl, if_neg (by omega)]
  unfold goR
  rw [this]
  rfl
theorem go_undo {d : Deed} {rs : List Deed} : (goR 1 (d :: rs) .undo).1 = rs := by
  have : rfN 1 (d :: rs) .undo = 0 := rfl
  unfold goR
  rw [this]
  rfl
theorem wgt : wordI [103, 116] = true := by decide +kernel
theorem seven_end {rs : List Deed} {k : Nat} (h : Ad 20 rs) (hk : k < 20) : (sevenL k).foldl (fun r sh => (goR 1 r sh).1) rs = rs := by
  have hf := filt_one (kn_asc rs).1 (h.has k hk)
  have k1 : (Kn (.strike k :: rs)).length = 19 := by
    show ((Kn rs).filter fun e => decide (e.1 ≠ k)).length = 19
    have := h.kn; omega
  have k2 : (Kn (.add [103, 116] :: .strike k :: rs)).length = 20 := by
    show (Kn (.strike k :: rs) ++ [_]).length = 20
    rw [List.length_append, k1]; rfl
  show (goR 1 (goR 1 (goR 1 (goR 1 (goR 1 (goR 1 (goR 1 rs _).1 _).1 _).1 _).1 _).1 _).1 _).1 = rs
  have k0 := h.kn
  rw [go_full (rs := rs) (by omega), go_full (rs := rs) (by omega), go_strike (h.has k hk), go_add (rs := .strike k :: rs) (by omega) wgt (by decide), go_full (rs := .add [103, 116] :: .strike k :: rs) (by omega), go_undo, go_undo]
theorem get_mend {ks : Ks} {n : Nat} {w : List Nat} (h : has ks n = true) : getD (kD (ks.map fun e => if e.1 = n then (e.1, w) else e)) (.inl (n : Int)) = some (.str w) := by
  induction ks with
  | nil => cases h
  | cons e ks ih =>
    by_cases he : e.1 = n
    · have : kD ((e :: ks).map fun e => if e.1 = n then (e.1, w) else e) = (.inl (n : Int), .str w) :: kD (ks.map fun e => if e.1 = n then (e.1, w) else e) := by
        show kD ((if e.1 = n then (e.1, w) else e) :: _) = _
        rw [if_pos he]
        show ((Sum.inl (e.1 : Int) : Ky), D.str w) :: _ = _
        rw [he]
        rfl
      rw [this]
      unfold getD
      rw [List.find?_cons_of_pos (by simp)]
      rfl
    · have : kD ((e :: ks).map fun e => if e.1 = n then (e.1, w) else e) = (.inl (e.1 : Int), .str e.2) :: kD (ks.map fun e => if e.1 = n then (e.1, w) else e) := by
        show kD ((if e.1 = n then (e.1, w) else e) :: _) = _
        rw [if_neg he]
        rfl
      rw [this]
      have h3 : has ks n = true := by
        unfold has at h ⊢
        rw [List.any_cons, Bool.or_eq_true] at h
        rcases h with h | h
        · exact (he (of_decide_eq_true h)).elim
        · exact h
      have ih := ih h3
      unfold getD at ih ⊢
      rw [List.find?_cons_of_neg (by simp; omega)]
      exact ih
theorem not_in_strike {ks : Ks} {n : Nat} : has (ks.filter fun e => decide (e.1 ≠ n)) n = false := by
  unfold has
  rw [List.any_eq_false]
  intro e he
  have := (List.mem_filter.mp he).2
  simpa using this
theorem has_mend {ks : Ks} {n : Nat} {w : List Nat} (h : has ks n = true) : has (ks.map fun e => if e.1 = n then (e.1, w) else e) n = true := by
  obtain ⟨e, he, h2⟩ := List.any_eq_true.mp h
  refine List.any_eq_true.mpr ⟨_, List.mem_map_of_mem he, ?_⟩
  have := of_decide_eq_true h2
  show decide ((if e.1 = n then (e.1, w) else e).1 = n) = true
  rw [if_pos this]
  simp [this]
section
variable {q : Tk} {a : Addr} {rs : List Deed} {x1 x2 x3 x4 x5 x6 x7 : OB} {b : Bool}
theorem wttt : wordI [116, 116, 116] = true := by decide +kernel
theorem ends71 (h : Ad 20 rs) : Bd q 0 a (bs 1 rs) (bSeq FU5 FU6 (EF q (some (false, .rf a)) (some (b, accD 1 rs)) x3 x4 x5 x6 x7)) fun _ o => o = .rt (.s, .bl true) := by
  have av3 : Av (nI 3) := .inr (.inl ⟨_, rfl⟩)
  have avt : Av (.str [116, 116, 116]) := .inl ⟨_, rfl, by decide, by unfold okS; decide⟩
  have h3 := h.has 3 (by omega)
  have hn3 : nmB (Kn rs) (nI 3) = true := by
    show (getD (kD (Kn rs)) (.inl ((3 : Nat) : Int))).isSome = true
    rw [kD_get, h3]
  have hg : goR 1 rs (.mend (nI 3) (.str [116, 116, 116])) = (.mend 3 [116, 116, 116] :: rs, .inl (.s, .non)) := by
    have : rfN 1 rs (.mend (nI 3) (.str [116, 116, 116])) = 0 := by
      show (if nmB (Kn rs) (nI 3) then (if rdB 1 (.str [116, 116, 116]) then 0 else 2) else 1) = 0
      have hr : rdB 1 (.str [116, 116, 116]) = true := by
        show (wordI [116, 116, 116] && decide (1 < 3)) = true
        rw [wttt]; rfl
      rw [hn3, hr]; rfl
    unfold goR
    rw [this]
    rfl
  have hv : Va (.mend 3 [116, 116, 116] :: rs) := ⟨h.va, wttt, by decide, h3⟩
  have c1 : ∀ env : Env, eVar 1 env = .ok (.s, .rf a) → rn a (bs 1 rs) (eMethK "Bench" "mend" 2 [0, 1, 2] m_Bench__mend (eVar 1) (eCons (eC (.int 3)) (eCons (eC (.str [116, 116, 116])) eNil)) env) = some (bs 1 (.mend 3 [116, 116, 116] :: rs), .inl (.s, .non)) := fun env he => by
    refine (rn_methK (nk := 2) (xs := [(.s, nI 3), (.s, .str [116, 116, 116])]) he in_mend rfl ⟨rfl, rfl⟩).trans ?_
    show rn a _ (m_Bench__mend [.rf a, nI 3, .str [116, 116, 116]]) = _
    rw [r_mend av3 avt h.va (by rw [h.len]; omega), hg]
  have hm3 : has (Kn (.mend 3 [116, 116, 116] :: rs)) 3 = true := has_mend h3
  have hn4 : nmB (Kn (.mend 3 [116, 116, 116] :: rs)) (nI 3) = true := by
    show (getD (kD (Kn (.mend 3 [116, 116, 116] :: rs))) (.inl ((3 : Nat) : Int))).isSome = true
    rw [kD_get, hm3]
  have hg2 : goR 1 (.mend 3 [116, 116, 116] :: rs) (.strike (nI 3)) = (.strike 3 :: .mend 3 [116, 116, 116] :: rs, .inl (.s, .non)) := by
    have : rfN 1 (.mend 3 [116, 116, 116] :: rs) (.strike (nI 3)) = 0 := by
      show (if nmB (Kn (.mend 3 [116, 116, 116] :: rs)) (nI 3) then 0 else 1) = 0
      rw [hn4]; rfl
    unfold goR
    rw [this]
    rfl
  have c2 : ∀ env : Env, eVar 1 env = .ok (.s, .rf a) → rn a (bs 1 (.mend 3 [116, 116, 116] :: rs)) (eMethK "Bench" "strike" 1 [0, 1] m_Bench__strike (eVar 1) (eCons (eC (.int 3)) eNil) env) = some (bs 1 (.strike 3 :: .mend 3 [116, 116, 116] :: rs), .inl (.s, .non)) := fun env he => by
    refine (rn_methK (nk := 1) (xs := [(.s, nI 3)]) he in_strike rfl ⟨rfl, rfl⟩).trans ?_
    show rn a _ (m_Bench__strike [.rf a, nI 3]) = _
    rw [r_strike av3 hv (by rw [List.length_cons, h.len]; omega), hg2]
  refine Bd.seqN (s' := bs 1 (.mend 3 [116, 116, 116] :: rs)) (e' := EF q (some (false, .rf a)) (some (false, accD 1 rs)) x3 x4 x5 x6 x7) ?_ ?_
  · have e : FU5 (EF q (some (false, .rf a)) (some (b, accD 1 rs)) x3 x4 x5 x6 x7) = bIf (eOr (eB (eOp neB (eCB lenD (eCons (eIxA (eVar 2) (eC (.str [114, 101, 97, 100, 115]))) eNil)) (eC (.int 20)))) (eOr (eB (eIsN true (eMethK "Bench" "mend" 2 [0, 1, 2] m_Bench__mend (eVar 1) (eCons (eC (.int 3)) (eCons (eC (.str [116, 116, 116])) eNil))))) (eB (eOp neB (eIxA (eProp0 "Bench" m_Bench__reads (eVar 1)) (eC (.int 3))) (eC (.str [116, 116, 116])))))) (bRet (eC (.bl false))) bNext (EF q (some (false, .rf a)) (some (false, accD 1 rs)) x3 x4 x5 x6 x7) := by
      cases b <;> rfl
    rw [e]
    have t1 : eB (eOp neB (eCB lenD (eCons (eIxA (eVar 2) (eC (.str [114, 101, 97, 100, 115]))) eNil)) (eC (.int 20))) (EF q (some (false, .rf a)) (some (false, accD 1 rs)) x3 x4 x5 x6 x7) = .ok false := by
      refine ne_f (x := (.s, nI 20)) (y := (.s, nI 20)) (cb_ok (cons_ok (a_rds (L := 1) (rs := rs) rfl) nil1) ?_ rfl) rfl rfl rfl (nn_self 20)
      show lenD [.dic (kD (Kn rs))] = _
      rw [lenD_dic, kD_len, h.kn]
    have t2 := rn_tB2 (rn_isN (neg := true) (c1 (EF q (some (false, .rf a)) (some (false, accD 1 rs)) x3 x4 x5 x6 x7) rfl))
    have t3 : rn a (bs 1 (.mend 3 [116, 116, 116] :: rs)) (eB (eOp neB (eIxA (eProp0 "Bench" m_Bench__reads (eVar 1)) (eC (.int 3))) (eC (.str [116, 116, 116]))) (EF q (some (false, .rf a)) (some (false, accD 1 rs)) x3 x4 x5 x6 x7)) = some (bs 1 (.mend 3 [116, 116, 116] :: rs), .inl false) := by
      refine rn_tB2 (rn_op2 (x := (.s, .str [116, 116, 116])) (y := (.s, .str [116, 116, 116])) (rn_ixA (y := (.s, nI 3)) (r_reads rfl) rfl ?_) (rn_of rfl) rfl rfl rfl)
      show getD (kD ((Kn rs).map _)) (.inl ((3 : Nat) : Int)) = _
      exact get_mend h3
    rw [rn_if2 (t := false) (rn_or2 (rn_of t1) (rn_or2 t2 t3))]
    rfl
  refine Bd.rn (s' := bs 1 (.strike 3 :: .mend 3 [116, 116, 116] :: rs)) (x := .rt (.s, .bl true)) ?_ rfl
  refine rn_ret (rn_andV (rn_isN (neg := false) (c2 _ rfl)) ?_) rfl
  refine rn_op2 (x := (.s, nI 3)) (y := (.o, .dic (kD (Kn (.strike 3 :: .mend 3 [116, 116, 116] :: rs))))) (rn_of rfl) (r_reads rfl) ?_ rfl rfl
  show some (D.bl (!(getD (kD (Kn (.strike 3 :: .mend 3 [116, 116, 116] :: rs))) (.inl ((3 : Nat) : Int))).isSome)) = _
  rw [kD_get]
  have : has (Kn (.strike 3 :: .mend 3 [116, 116, 116] :: rs)) 3 = false := not_in_strike
  rw [this]
  rfl
theorem full71 : Dn q 60 (m__law_full_right [.drw q]) fun r => r = (.s, .bl true) := by
  refine (Dn.body (P := fun r => r = (.s, .bl true)) rfl ?_)
  show Dn q 60 (b__law_full_right (EF q none none none none none none none)) _
  rw [FU_all]
  refine Dn.makeSeq (d := nI 1) (v2 := (.o, accD 1 [])) (s1 := bs 1 []) (E := fun a => EF q (some (false, .rf a)) (some (true, accD 1 [])) none none none none none) rfl (call_ok (xs := [(.s, nI 1)]) rfl rfl q_begun_bench) (fun a => rfl) (fun a => q_init (by omega) (by omega)) fun a => ?_
  refine (Bd.seq (c1 := 20 * 2) (c2 := 20) (R := fun s e => ∃ rs x3 x4 b, Ad 20 rs ∧ s = bs 1 rs ∧ e = EF q (some (false, .rf a)) (some (b, accD 1 rs)) x3 x4 none none none) ?_ ?_).le (by omega)
  · have hr : eRng rngD1 (eCons (eC (.int 20)) eNil) (EF q (some (false, .rf a)) (some (true, accD 1 [])) none none none none none) = .ok ((List.range 20).map nI) := rng1_n (n := 20) rfl (by omega)
    show Bd q _ a _ (bFor _ _ _ _) _
    unfold bFor
    rw [hr, ok_bind]
    refine ((Bd.forGo (c := 2) (J := fun (r : List Nat) s e => ∃ k rs x3 x4 b, List.range 20 = List.range k ++ r ∧ Ad k rs ∧ s = bs 1 rs ∧ e = EF q (some (false, .rf a)) (some (b, accD 1 rs)) x3 x4 none none none) nI ?_ (List.range 20) _ _ ?_).le (by rw [List.length_range]; omega)).mono ?_
    · rintro x r s e ⟨k, rs, x3, x4, b, hr, ha, rfl, rfl⟩
      obtain ⟨rfl, hk⟩ := range_at hr
      refine ⟨EF q (some (false, .rf a)) (some (b, accD 1 rs)) (some (false, nI x)) x4 none none none, rfl, (lapA ha hk).mono ?_⟩
      rintro s' o ⟨e, rfl, rs', x3', x4', b', h1, rfl, rfl⟩
      exact ⟨_, rfl, x + 1, rs', _, _, _, range_nx hr, h1, rfl, rfl⟩
    · exact ⟨0, [], _, _, _, rfl, Ad.zero, rfl, rfl⟩
    · rintro s' o ⟨e, rfl, k, rs, x3, x4, b, hr, ha, rfl, rfl⟩
      have := range_end hr
      subst this
      exact ⟨_, rfl, rs, x3, x4, b, ha, rfl, rfl⟩
  rintro s e ⟨rs, x3, x4, b, ha, rfl, rfl⟩
  refine (Bd.seqD (c1 := 1) (c2 := 0) (R := fun e => ∃ k : Nat, k < 20 ∧ e = EF q (some (false, .rf a)) (some (b, accD 1 rs)) x3 x4 (some (true, .lst [shD (.add (.str [97, 99])), shD (.add (.str [97])), shD (.strike (nI k)), shD (.add (.str [103, 116])), shD (.add (.str [103, 116]))])) none none) ?_ ?_).le (by omega)
  · refine Dn.setD (Dn.lstD ?_)
    refine (Dn.consD (c1 := 0) (c2 := 1) (P := fun x => x = (.s, shD (.add (.str [97, 99])))) (Dn.eqV rfl) ?_).le (by omega)
    rintro _ rfl
    refine (Dn.consD (c1 := 0) (c2 := 1) (P := fun x => x = (.s, shD (.add (.str [97])))) (Dn.eqV rfl) ?_).le (by omega)
    rintro _ rfl
    refine (Dn.consD (c1 := 1) (c2 := 0) (P := fun x => ∃ k : Nat, k < 20 ∧ x = (.s, shD (.strike (nI k)))) ?_ ?_).le (by omega)
    · refine Dn.tupD ?_
      refine (Dn.consD (c1 := 0) (c2 := 1) (P := fun x => x = (.s, .str kS)) (Dn.eqV rfl) ?_).le (by omega)
      rintro _ rfl
      refine (Dn.consD (c1 := 1) (c2 := 0) (P := fun x => ∃ k : Nat, k < 20 ∧ x = (.s, nI k)) ((d_takeN (n := 20) rfl (by omega) (by omega)).mono fun r ⟨k, hk, e⟩ => ⟨k, hk, e⟩) ?_).le (by omega)
      rintro _ ⟨k, hk, rfl⟩
      exact Dn.nilD ⟨rfl, by simp [dats], k, hk, rfl⟩
    · rintro _ ⟨k, hk, rfl⟩
      refine Dn.pure (a := [(.s, shD (.add (.str [103, 116]))), (.s, shD (.add (.str [103, 116])))]) rfl ⟨rfl, by simp [dats], .inr ⟨_, rfl, k, hk, rfl⟩⟩
  rintro e ⟨k, hk, rfl⟩
  refine (Bd.seq (c1 := 0) (c2 := 0) (R := fun s e => ∃ x5 x6 x7 b, s = bs 1 rs ∧ e = EF q (some (false, .rf a)) (some (b, accD 1 rs)) x3 x4 x5 x6 x7) ?_ ?_).le (by omega)
  · show Bd q 0 a _ (bFor _ _ _ (EF q (some (false, .rf a)) (some (b, accD 1 rs)) x3 x4 (some (false, .lst [shD (.add (.str [97, 99])), shD (.add (.str [97])), shD (.strike (nI k)), shD (.add (.str [103, 116])), shD (.add (.str [103, 116]))])) none none)) _
    have hi : eItA (eOp addD (eVar 5) (eLst (eCons (eTup (eCons (eC (.str [117, 110, 100, 111])) eNil)) (eCons (eTup (eCons (eC (.str [117, 110, 100, 111])) eNil)) eNil)))) (EF q (some (false, .rf a)) (some (b, accD 1 rs)) x3 x4 (some (false, .lst [shD (.add (.str [97, 99])), shD (.add (.str [97])), shD (.strike (nI k)), shD (.add (.str [103, 116])), shD (.add (.str [103, 116]))])) none none) = .ok ((sevenL k).map shD) := rfl
    unfold bFor
    rw [hi, ok_bind]
    refine ((Bd.forGo (c := 0) (J := fun (r : List Sh) s e => ∃ rs2 x5 x6 x7 b, (∀ sh ∈ r, Sv sh) ∧ Va rs2 ∧ rs2.length + r.length ≤ 30 ∧ r.foldl (fun r sh => (goR 1 r sh).1) rs2 = rs ∧ s = bs 1 rs2 ∧ e = EF q (some (false, .rf a)) (some (b, accD 1 rs2)) x3 x4 x5 x6 x7) shD ?_ (sevenL k) _ _ ?_).le (by omega)).mono ?_
    · rintro sh r s e ⟨rs2, x5, x6, x7, b, h1, h2, h3, h4, rfl, rfl⟩
      rw [List.length_cons] at h3
      refine ⟨EF q (some (false, .rf a)) (some (b, accD 1 rs2)) x3 x4 x5 (some (false, shD sh)) x7, rfl, (lapW (h1 sh (List.mem_cons_self ..)) h2 (by omega)).mono ?_⟩
      rintro s' o ⟨e, rfl, x7', rfl, rfl⟩
      have := goR_len (L := 1) (rs := rs2) sh
      exact ⟨_, rfl, _, _, _, _, _, fun sh' h => h1 sh' (List.mem_cons_of_mem _ h), goR_va (h1 sh (List.mem_cons_self ..)) h2, by omega, h4, rfl, rfl⟩
    · exact ⟨rs, _, _, _, _, seven_sv, ha.va, by rw [ha.len]; simp [sevenL], seven_end ha hk, rfl, rfl⟩
    · rintro s' o ⟨e, rfl, rs2, x5, x6, x7, b, -, -, -, h4, rfl, rfl⟩
      have h4 : rs2 = rs := h4
      subst h4
      exact ⟨_, rfl, _, _, _, _, rfl, rfl⟩
  rintro s e ⟨x5, x6, x7, b, rfl, rfl⟩
  refine (ends71 ha).mono ?_
  rintro s' o rfl
  exact ⟨_, rfl, rfl⟩
end
end Y

namespace Y
open PySem PySem.Spec PyProof.Rows L2 Z
abbrev LW1 : Env → M Out := bSet 1 (eCall m_begun (eCons (eVar 0) eNil))
abbrev LW2 : Env → M Out := bFor (eRng rngD1 (eCons (eOp addD (eC (.int 1)) (eCB minD2 (eCons (eCB lenD (eCons (eVar 0) eNil)) (eCons (eC (.int 3)) eNil)))) eNil)) (eTgN 2) (b_law_2)
abbrev LW3 : Env → M Out := bFrz [1] (bRet (eCall m__law_full_right (eCons (eVar 1) eNil)))
theorem LW_all : b_law = bSeq LW1 (bSeq LW2 (LW3)) := rfl
theorem rest_law {ns : List Int} (hl : ns.length ≤ 63) (q : Tk) : Dn q 5000 (bSeq LW2 LW3 (EL ns q none none none none none none none none)) fun o => o = .rt (.s, .bl true) := by
  refine Dn.le (c := 4000 + 60) (Dn.seq (c1 := 4000) (c2 := 60) (R := fun e => ∃ x2 x3 x4 x5 x6 x7 x8 x9, e = EL ns q x2 x3 x4 x5 x6 x7 x8 x9) ?_ ?_) (by omega)
  · have hr : eRng rngD1 (eCons (eOp addD (eC (.int 1)) (eCB minD2 (eCons (eCB lenD (eCons (eVar 0) eNil)) (eCons (eC (.int 3)) eNil)))) eNil) (EL ns q none none none none none none none none) = .ok ((List.range (1 + min ns.length 3)).map nI) := by
      have c1 : eCB lenD (eCons (eVar 0) eNil) (EL ns q none none none none none none none none) = .ok (.s, nI ns.length) := cb_ok (xs := [(.s, .scr ns)]) rfl rfl rfl
      have c2 : eCB minD2 (eCons (eCB lenD (eCons (eVar 0) eNil)) (eCons (eC (.int 3)) eNil)) (EL ns q none none none none none none none none) = .ok (.s, nI (min ns.length 3)) := cb_ok (cons_ok c1 (show eCons (eC (.int 3)) eNil _ = .ok [(.s, nI 3)] from rfl)) (min_n ns.length 3) rfl
      have c3 : eOp addD (eC (.int 1)) (eCB minD2 (eCons (eCB lenD (eCons (eVar 0) eNil)) (eCons (eC (.int 3)) eNil))) (EL ns q none none none none none none none none) = .ok (.s, .int ((1 + min ns.length 3 : Nat) : Int)) := op_ok (x := (.s, nI 1)) (y := (.s, nI (min ns.length 3))) rfl c2 (by
        show some (D.int (((1 : Nat) : Int) + ((min ns.length 3 : Nat) : Int))) = some (D.int _)
        congr 2) rfl rfl
      exact rng1_n c3 (by omega)
    show Dn q 4000 (bFor _ _ _ _) _
    unfold bFor
    rw [hr, ok_bind]
    refine Dn.le (Dn.forGo (c := 1000) (I := fun e => ∃ x2 x3 x4 x5 x6 x7 x8 x9, e = EL ns q x2 x3 x4 x5 x6 x7 x8 x9) nI (List.range (1 + min ns.length 3)) _ ⟨_, _, _, _, _, _, _, _, rfl⟩ ?_) (by rw [List.length_range]; omega)
    rintro x - e ⟨x2, x3, x4, x5, x6, x7, x8, x9, rfl⟩
    exact ⟨EL ns q (some (false, nI x)) x3 x4 x5 x6 x7 x8 x9, rfl, turn71 hl⟩
  · rintro e ⟨x2, x3, x4, x5, x6, x7, x8, x9, rfl⟩
    show Dn q 60 (bRet _ (EL ns q x2 x3 x4 x5 x6 x7 x8 x9)) _
    unfold bRet
    refine (Dn.bind (c1 := 60) (c2 := 0) (P := fun r => r = (.s, .bl true)) ?_ ?_).le (by omega)
    · rw [call_ok (xs := [(.s, .drw q)]) rfl rfl rfl]
      exact full71
    · rintro _ rfl
      exact Dn.ok rfl
theorem law_pure (ns : List Int) (hl : ns.length ≤ 63) : wp [] 1000000000000 (m_law [.scr ns]) (fun _ _ r => r = (.s, .bl true)) (fun _ _ _ => False) := by
  have hG := rest_law hl
  unfold m_law
  rw [LW_all]
  unfold EL at hG
  generalize bSeq LW2 LW3 = G at hG ⊢
  simp [bodyM, bSeq, bSet, eCall, eCons, eVar, eNil, okA, isV]
  refine wp_mono (dn_beg (P := fun r => r = (.s, .bl true)) (c := 5000) (by omega) (fun q => ?_) (by omega)) (fun _ _ _ h => h.2) fun _ _ _ h => h
  show Dn q 5000 ((G [some (false, .scr ns), some (false, .drw q), none, none, none, none, none, none, none, none]).bind fun o => match o with
    | .nx _ => M.ok ((Md.s, D.non) : Vl)
    | .rt v => M.ok v
    | _ => M.bad) _
  refine Dn.le (c := 5000 + 0) (Dn.bind (hG q) fun o ho => ?_) (by omega)
  subst ho
  exact Dn.ok rfl
end Y

namespace Y
open PySem PySem.Spec PyProof.Rows L2 Z
def top (i : Nat) : Stmt := PySem.Challenge.pw_readhouse_k71_deeds_of_a_bench.main.body.getD i (.Pass ⟨0, 0, 0, 0⟩)
def clsBody : Stmt → List Stmt
  | .ClassDef _ _ _ b _ _ _ _ _ _ _ => b
  | _ => []
def mtd (i j : Nat) : Stmt := (clsBody (top i)).getD j (.Pass ⟨0, 0, 0, 0⟩)
theorem sc__law_begun : FnScope ["_law_script", "_law_wide", "_law_cell"] ["_law_script"] (defScope (top 26)) := ⟨rfl, rfl, rfl, by decide +kernel, rfl, by decide +kernel, by decide +kernel⟩
theorem lk__law_begun {P : Program} {w : World} {k : Kx} {mg : Str → Option Value} {base : Heap} {f : Addr} {fd : FuncData} (B : Blt mg) (F : FunD k.K "_law_begun" "_law_begun" (defArgs (top 26)) (defBody (top 26)) (defScope (top 26)) [] [] f fd) : FnOk P w k.K mg base (L2.CX P w) 1 f fd ["_law_script"] (spM k m_begun) := by
  refine F.ok sc__law_begun (fun vs H Q E h => (pure_begunC (K := k.K) (ca := k.ca) vs H Q E (begun_ok h).2).1) (fun cdv A outer s H vs Q E hr h => ⟨t__law_begun k.K k.ca E, ?_, (pure_begunC (K := k.K) (ca := k.ca) vs H Q E (begun_ok h).2).2⟩)
  have nd := sc__law_begun.nd
  have hu : A.units + 3 + 100 < cLine := by have := hr.un; have e : (A.deeper (envOfC "_law_begun" (defScope (top 26)) s.heap.objs.size f cdv)).units = A.units + 3 := rfl; omega
  have hu1 : A.units + 3 + 1 < cLine := by omega
  have hu10 : A.units + 3 + 10 < cLine := by omega
  have hdp : (A.deeper (envOfC "_law_begun" (defScope (top 26)) s.heap.objs.size f cdv)).depth < recursionLimit := by have := hr.dp; omega
  have hu64 : A.units + 3 + 64 < cLine := by omega
  exact (pss_cons (ps_setLc (i := 1) (own := [("_law_cell", 2)]) rfl nd rfl rfl (sw_true rfl rfl rfl (by decide +kernel)) (pi_list (pv 0)) (blkOk_by rfl) (fun _ _ _ _ _ => (pg_name (i := 2) nd rfl (by first | exact Or.inl rfl | exact Or.inr rfl))) (fun _ _ _ _ _ => (pts_one (pt_cmpR op_ge (pe_callB call_abs rfl B.z_abs (by decide +kernel) (pa_cons (pv 2) pa_nil)) (pe_op op_pow pe_int pe_int) (nomark _)))) (fun _ _ _ _ _ => (pe_op op_sub (pe_callB call_abs rfl B.z_abs (by decide +kernel) (pa_cons (pv 2) pa_nil)) (pe_op op_pow pe_int pe_int)))) (pss_one (ps_ret (pe_disp (pps_cons pe_str (pv 1) (pps_cons pe_str (pe_lc (own := [("_law_cell", 2)]) rfl nd (pi_list (pv 0)) (blkOk_by rfl) (fun _ _ _ _ _ => (pg_name (i := 2) nd rfl (by first | exact Or.inl rfl | exact Or.inr rfl))) (fun _ _ _ _ _ => pts_nil) (fun _ _ _ _ _ => (pe_op op_modN (pe_callTy call_int1 rfl B.z_int (by decide +kernel) (pa_cons (pe_callB call_abs rfl B.z_abs (by decide +kernel) (pa_cons (pv 2) pa_nil)) pa_nil)) pe_int))) (pps_cons pe_str pe_int (pps_cons pe_str pe_int pps_nil)))) (by rfl) (by rfl) (fun z => by cases z) (by decide)))))
theorem sc__law_mixed : FnScope ["_law_draw", "_law_tick", "_law_found", "_law_prime", "_law_blend", "_law_cell"] ["_law_draw"] (defScope (top 27)) := ⟨rfl, rfl, rfl, by decide +kernel, rfl, by decide +kernel, by decide +kernel⟩
theorem lk__law_mixed {P : Program} {w : World} {k : Kx} {mg : Str → Option Value} {base : Heap} {f : Addr} {fd : FuncData} (B : Blt mg) (F : FunD k.K "_law_mixed" "_law_mixed" (defArgs (top 27)) (defBody (top 27)) (defScope (top 27)) [] [] f fd) : FnOk P w k.K mg base (L2.CX P w) 1 f fd ["_law_draw"] (sp__law_mixed k.K k.ca) := by
  refine F.ok sc__law_mixed (fun vs H Q E h => (pure__law_mixed vs H Q E h).1) (fun cdv A outer s H vs Q E hr h => ⟨t__law_mixed k.K k.ca E, ?_, (pure__law_mixed vs H Q E h).2⟩)
  have nd := sc__law_mixed.nd
  have hu : A.units + 3 + 100 < cLine := by have := hr.un; have e : (A.deeper (envOfC "_law_mixed" (defScope (top 27)) s.heap.objs.size f cdv)).units = A.units + 3 := rfl; omega
  have hu1 : A.units + 3 + 1 < cLine := by omega
  have hu10 : A.units + 3 + 10 < cLine := by omega
  have hdp : (A.deeper (envOfC "_law_mixed" (defScope (top 27)) s.heap.objs.size f cdv)).depth < recursionLimit := by have := hr.dp; omega
  have hu64 : A.units + 3 + 64 < cLine := by omega
  exact (pss_cons (ps_par rfl nd rfl rfl (by decide) rfl rfl (pa_cons (pe_op op_add (pe_dget hu1 (pv 0) pe_str (fun _ _ => rfl)) pe_int) (pa_cons pe_int pa_nil)) rfl) (pss_cons (ps_dput hu1 (pv 0) pe_str (pv 1) rfl) (pss_cons (ps_for (passes_of rfl) rfl (pi_list (pe_lst (pa_cons pe_int (pa_cons pe_int (pa_cons pe_int (pa_cons pe_int pa_nil)))))) (pg_name (i := 3) nd rfl (by first | exact Or.inl rfl | exact Or.inr rfl)) (pss_cons (ps_set (i := 4) nd rfl (by first | exact Or.inl rfl | exact Or.inr rfl) (pe_op op_add (pe_op op_mul pe_int (pv 1)) (pe_op op_fdivN (pv 3) pe_int))) (pss_cons (ps_for (passes_of rfl) rfl (pi_list (pe_dget hu1 (pv 0) pe_str (fun _ _ => rfl))) (pg_name (i := 5) nd rfl (by first | exact Or.inl rfl | exact Or.inr rfl)) (pss_one (ps_set (i := 4) nd rfl (by first | exact Or.inl rfl | exact Or.inr rfl) (pe_op op_modN (pe_callTy call_int1 rfl B.z_int (by decide +kernel) (pa_cons (pe_op op_add (pe_op op_add (pe_op op_mul (pv 4) pe_int) (pv 5)) (pv 1)) pa_nil)) (pv 3))))) (pss_one (ps_set (i := 2) nd rfl (by first | exact Or.inl rfl | exact Or.inr rfl) (pe_op op_add (pe_op op_mul (pv 2) pe_int) (pe_op op_modN (pe_callTy call_int1 rfl B.z_int (by decide +kernel) (pa_cons (pe_op op_pow (pv 4) pe_int) pa_nil)) (pv 3)))))))) (pss_one (ps_ret (pv 2))))))
theorem sc__law_take : FnScope ["_law_draw", "_law_total", "_law_found"] ["_law_draw", "_law_total"] (defScope (top 28)) := ⟨rfl, rfl, rfl, by decide +kernel, rfl, by decide +kernel, by decide +kernel⟩
theorem lk__law_take {P : Program} {w : World} {k : Kx} {mg : Str → Option Value} {base : Heap} {f : Addr} {fd : FuncData} (B : Blt mg) (F__law_mixed : FnIs P w k.K mg base 1 "_law_mixed" ["_law_draw"] (sp__law_mixed k.K k.ca)) (F : FunD k.K "_law_take" "_law_take" (defArgs (top 28)) (defBody (top 28)) (defScope (top 28)) [] [] f fd) : FnOk P w k.K mg base (L2.CX P w) 2 f fd ["_law_draw", "_law_total"] (spM k m_take) := by
  refine F.ok sc__law_take (fun vs H Q E h => (pure_takeC (K := k.K) (ca := k.ca) vs H Q E (take_ok h)).1) (fun cdv A outer s H vs Q E hr h => ⟨t__law_take k.K k.ca E, ?_, (pure_takeC (K := k.K) (ca := k.ca) vs H Q E (take_ok h)).2⟩)
  have nd := sc__law_take.nd
  have hu : A.units + 3 + 100 < cLine := by have := hr.un; have e : (A.deeper (envOfC "_law_take" (defScope (top 28)) s.heap.objs.size f cdv)).units = A.units + 3 := rfl; omega
  have hu1 : A.units + 3 + 1 < cLine := by omega
  have hu10 : A.units + 3 + 10 < cLine := by omega
  have hdp : (A.deeper (envOfC "_law_take" (defScope (top 28)) s.heap.objs.size f cdv)).depth < recursionLimit := by have := hr.dp; omega
  have hu64 : A.units + 3 + 64 < cLine := by omega
  exact (pss_cons (ps_if (pt_cmpR op_eq (pe_dget hu1 (pv 0) pe_str (fun _ _ => rfl)) pe_int (nomark _)) (pss_one (ps_dput hu1 (pv 0) pe_str (pe_ifExp (pt_cmpR (op_neD hu64) (pe_dget hu1 (pv 0) pe_str (fun _ _ => rfl)) (pe_lst pa_nil) (nomark _)) (pe_bm PySem.F.plainAttrs_list PySem.F.slot_list_pop PySem.F.type_list_pop mt_popAt (pe_dget hu1 (pv 0) pe_str (fun _ _ => rfl)) (pa_cons pe_int pa_nil)) (pe_fn F__law_mixed (hr.mono (by decide)) rfl (passes_call (takes_of rfl rfl rfl rfl) (fun _ _ _ _ h => h)) (pa_cons (pv 0) pa_nil))) rfl)) pss_nil) (pss_cons (ps_set (i := 2) nd rfl (by first | exact Or.inl rfl | exact Or.inr rfl) (pe_op op_modN (pe_callTy call_int1 rfl B.z_int (by decide +kernel) (pa_cons (pe_dget hu1 (pv 0) pe_str (fun _ _ => rfl)) pa_nil)) (pv 1))) (pss_cons (ps_dput hu1 (pv 0) pe_str (pe_op op_fdivN (pe_dget hu1 (pv 0) pe_str (fun _ _ => rfl)) (pv 1)) rfl) (pss_one (ps_ret (pv 2))))))
theorem sc_init_TooMany : FnScope ["self", "limit"] ["self", "limit"] (defScope (mtd 7 0)) := ⟨rfl, rfl, rfl, by decide +kernel, rfl, by decide +kernel, by decide +kernel⟩
theorem lk_init_TooMany {P : Program} {w : World} {k : Kx} {mg : Str → Option Value} {base : Heap} {f : Addr} {fd : FuncData} (B : Blt mg) (G_ReadError : mg "ReadError" = some (.ref (k.ca "ReadError"))) (RI : ReI k.K (k.ca "ReadError")) (T : OexC k.K (k.ca "TooMany")) (hno : PySem.W.findIn k.K (.ref (k.ca "TooMany")) "limit" = some none) (F : FunD k.K "__init__" "TooMany.__init__" (defArgs (mtd 7 0)) (defBody (mtd 7 0)) (defScope (mtd 7 0)) [] [] f fd) : FnOk P w k.K mg base (L2.CX P w) 1 f fd ["self", "limit"] (sp_exi k "TooMany" "limit") := by
  refine F.ok sc_init_TooMany (fun vs H Q E h => exi_len h) (fun cdv A outer s H vs Q E hr h => ⟨t_exi k "limit" "more than ", ?_, exi_ok (N := ["self", "limit"]) rfl T hno (by decide +kernel) h⟩)
  have nd := sc_init_TooMany.nd
  exact (pss_cons (ps_expr (pe_reinit rfl G_ReadError RI.ga RI.ty RI.rd RI.ini (pa_cons (pv 0) (pa_cons (pe_op or_add pe_str (pe_callB cr_reprF rfl B.z_repr (by decide +kernel) (pa_cons (pv 1) pa_nil))) pa_nil)))) (pss_one (ps_ost (pv 0) (pv 1))))
theorem sc_caught : FnScope ["_law_job", "_law_found", "_law_error"] ["_law_job"] (defScope (top 30)) := ⟨rfl, rfl, rfl, by decide +kernel, rfl, by decide +kernel, by decide +kernel⟩
theorem sc__wall : FnScope ["k"] ["k"] (defScope (top 0)) := ⟨rfl, rfl, rfl, by decide +kernel, rfl, by decide +kernel, by decide +kernel⟩
theorem lk__wall {P : Program} {w : World} {k : Kx} {mg : Str → Option Value} {base : Heap} {f : Addr} {fd : FuncData} (B : Blt mg) (F : FunD k.K "_wall" "_wall" (defArgs (top 0)) (defBody (top 0)) (defScope (top 0)) [] [] f fd) : FnOk P w k.K mg base (L2.CX P w) 1 f fd ["k"] (spM k m__wall) := by
  refine F.ok sc__wall (fun vs H Q E h => (body_ok (N := ["k"]) (ar := 1) (t := t__wall k) (b := b__wall) (fun E => s__wall  E) h (by decide)).1) (fun cdv A outer s H vs Q E hr h => ⟨t__wall k E, ?_, (body_ok (N := ["k"]) (ar := 1) (t := t__wall k) (b := b__wall) (fun E => s__wall  E) h (by decide)).2⟩)
  have nd := sc__wall.nd
  have hu : A.units + 3 + 100 < cLine := by have := hr.un; have e : (A.deeper (envOfC "_wall" (defScope (top 0)) s.heap.objs.size f cdv)).units = A.units + 3 := rfl; omega
  have hu1 : A.units + 3 + 1 < cLine := by omega
  have hu10 : A.units + 3 + 10 < cLine := by omega
  have hdp : (A.deeper (envOfC "_wall" (defScope (top 0)) s.heap.objs.size f cdv)).depth < recursionLimit := by have := hr.dp; omega
  have hu64 : A.units + 3 + 64 < cLine := by omega
  exact (pss_one (ps_while (passes_of rfl) (pt_val pe_bl) (pss_one ps_pass)))
theorem sc_is_integer : FnScope ["value"] ["value"] (defScope (top 11)) := ⟨rfl, rfl, rfl, by decide +kernel, rfl, by decide +kernel, by decide +kernel⟩
theorem lk_is_integer {P : Program} {w : World} {k : Kx} {mg : Str → Option Value} {base : Heap} {f : Addr} {fd : FuncData} (B : Blt mg) (hXT : XTab k XT) (F : FunD k.K "is_integer" "is_integer" (defArgs (top 11)) (defBody (top 11)) (defScope (top 11)) [] [] f fd) : FnOk P w k.K mg base (L2.CX P w) 1 f fd ["value"] (spM k m_is_integer) := by
  refine F.ok sc_is_integer (fun vs H Q E h => (body_ok (N := ["value"]) (ar := 1) (t := t_is_integer k) (b := b_is_integer) (fun E => s_is_integer hXT E) h (by decide)).1) (fun cdv A outer s H vs Q E hr h => ⟨t_is_integer k E, ?_, (body_ok (N := ["value"]) (ar := 1) (t := t_is_integer k) (b := b_is_integer) (fun E => s_is_integer hXT E) h (by decide)).2⟩)
  have nd := sc_is_integer.nd
  have hu : A.units + 3 + 100 < cLine := by have := hr.un; have e : (A.deeper (envOfC "is_integer" (defScope (top 11)) s.heap.objs.size f cdv)).units = A.units + 3 := rfl; omega
  have hu1 : A.units + 3 + 1 < cLine := by omega
  have hu10 : A.units + 3 + 10 < cLine := by omega
  have hdp : (A.deeper (envOfC "is_integer" (defScope (top 11)) s.heap.objs.size f cdv)).depth < recursionLimit := by have := hr.dp; omega
  have hu64 : A.units + 3 + 64 < cLine := by omega
  exact (pss_one (ps_ret (L2.pe_and (pe_callB call_isA rfl B.z_isinstance (by decide +kernel) (pa_cons (pv 0) (pa_cons (pe_bltn (v := .ty "int") rfl B.z_int (by decide +kernel) rfl) pa_nil))) (pe_one (pe_not (pe_callB call_isA rfl B.z_isinstance (by decide +kernel) (pa_cons (pv 0) (pa_cons (pe_bltn (v := .ty "bool") rfl B.z_bool (by decide +kernel) rfl) pa_nil))))))))
theorem sc_is_line : FnScope ["value", "sign"] ["value"] (defScope (top 13)) := ⟨rfl, rfl, rfl, by decide +kernel, rfl, by decide +kernel, by decide +kernel⟩
theorem lk_is_line {P : Program} {w : World} {k : Kx} {mg : Str → Option Value} {base : Heap} {f : Addr} {fd : FuncData} (B : Blt mg) (g_LETTERS : ∃ t, mg "LETTERS" = some (.str "acgt" t)) (hXT : XTab k XT) (F : FunD k.K "is_line" "is_line" (defArgs (top 13)) (defBody (top 13)) (defScope (top 13)) [] [] f fd) : FnOk P w k.K mg base (L2.CX P w) 1 f fd ["value"] (spM k m_is_line) := by
  refine F.ok sc_is_line (fun vs H Q E h => (body_ok (N := ["value", "sign"]) (ar := 1) (t := t_is_line k) (b := b_is_line) (fun E => s_is_line hXT E) h (by decide)).1) (fun cdv A outer s H vs Q E hr h => ⟨t_is_line k E, ?_, (body_ok (N := ["value", "sign"]) (ar := 1) (t := t_is_line k) (b := b_is_line) (fun E => s_is_line hXT E) h (by decide)).2⟩)
  have nd := sc_is_line.nd
  have hu : A.units + 3 + 100 < cLine := by have := hr.un; have e : (A.deeper (envOfC "is_line" (defScope (top 13)) s.heap.objs.size f cdv)).units = A.units + 3 := rfl; omega
  have hu1 : A.units + 3 + 1 < cLine := by omega
  have hu10 : A.units + 3 + 10 < cLine := by omega
  have hdp : (A.deeper (envOfC "is_line" (defScope (top 13)) s.heap.objs.size f cdv)).depth < recursionLimit := by have := hr.dp; omega
  have hu64 : A.units + 3 + 64 < cLine := by omega
  exact (pss_one (ps_ret (L2.pe_and (pe_callB call_isA rfl B.z_isinstance (by decide +kernel) (pa_cons (pv 0) (pa_cons (pe_bltn (v := .ty "str") rfl B.z_str (by decide +kernel) rfl) pa_nil))) (pe_one (pe_callB (cr_all rfl) rfl B.z_all (by decide +kernel) (pa_cons (pe_lc (own := [("sign", 1)]) rfl nd (pi_anyD (pv 0)) (blkOk_by rfl) (fun _ _ _ _ _ => (pg_name (i := 1) nd rfl (by first | exact Or.inl rfl | exact Or.inr rfl))) (fun _ _ _ _ _ => pts_nil) (fun _ _ _ _ _ => (pe_cmpR (or_inA hu) (pv 1) (pe_gstr rfl g_LETTERS) rfl))) pa_nil))))))
theorem sc_standing_behind : FnScope ["deeds", "known", "many", "deed"] ["deeds"] (defScope (top 22)) := ⟨rfl, rfl, rfl, by decide +kernel, rfl, by decide +kernel, by decide +kernel⟩
theorem lk_standing_behind {P : Program} {w : World} {k : Kx} {mg : Str → Option Value} {base : Heap} {f : Addr} {fd : FuncData} (B : Blt mg) (g_ADD : ∃ t, mg "ADD" = some (.str "add" t)) (g_STRIKE : ∃ t, mg "STRIKE" = some (.str "strike" t)) (F : FunD k.K "standing_behind" "standing_behind" (defArgs (top 22)) (defBody (top 22)) (defScope (top 22)) [] [] f fd) : FnOk P w k.K mg base (L2.CX P w) 1 f fd ["deeds"] (spM k m_standing_behind) := by
  refine F.ok sc_standing_behind (fun vs H Q E h => (body_ok (N := ["deeds", "known", "many", "deed"]) (ar := 1) (t := t_standing_behind k) (b := b_standing_behind) (fun E => s_standing_behind  E) h (by decide)).1) (fun cdv A outer s H vs Q E hr h => ⟨t_standing_behind k E, ?_, (body_ok (N := ["deeds", "known", "many", "deed"]) (ar := 1) (t := t_standing_behind k) (b := b_standing_behind) (fun E => s_standing_behind  E) h (by decide)).2⟩)
  have nd := sc_standing_behind.nd
  have hu : A.units + 3 + 100 < cLine := by have := hr.un; have e : (A.deeper (envOfC "standing_behind" (defScope (top 22)) s.heap.objs.size f cdv)).units = A.units + 3 := rfl; omega
  have hu1 : A.units + 3 + 1 < cLine := by omega
  have hu10 : A.units + 3 + 10 < cLine := by omega
  have hdp : (A.deeper (envOfC "standing_behind" (defScope (top 22)) s.heap.objs.size f cdv)).depth < recursionLimit := by have := hr.dp; omega
  have hu64 : A.units + 3 + 64 < cLine := by omega
  exact (pss_cons (ps_par rfl nd rfl rfl (by decide) rfl rfl (pa_cons pe_dnewK (pa_cons pe_int pa_nil)) rfl) (pss_cons (ps_for (passes_of rfl) rfl (pi_anyD (pv 0)) (pg_name (i := 3) nd rfl (by first | exact Or.inl rfl | exact Or.inr rfl)) (pss_one (ps_if (pt_cmpR (or_eq hu) (pe_ix (ix_any hu) (pv 3) pe_int (fun _ _ => rfl)) (pe_gstr rfl g_ADD) (nomark _)) (pss_cons (ps_dput hu1 (pv 1) (pv 2) (pe_ix (ix_any hu) (pv 3) pe_int (fun _ _ => rfl)) rfl) (pss_one (ps_aug (i := 2) nd rfl (by first | exact Or.inl rfl | exact Or.inr rfl) pe_int ip_addA (by first | exact Or.inl rfl | exact Or.inr rfl)))) (pss_one (ps_if (pt_cmpR (or_eq hu) (pe_ix (ix_any hu) (pv 3) pe_int (fun _ _ => rfl)) (pe_gstr rfl g_STRIKE) (nomark _)) (pss_one (ps_ddel (pv 1) (pe_ix (ix_any hu) (pv 3) pe_int (fun _ _ => rfl)))) (pss_one (ps_dput hu1 (pv 1) (pe_ix (ix_any hu) (pv 3) pe_int (fun _ _ => rfl)) (pe_ix (ix_any hu) (pv 3) pe_int (fun _ _ => rfl)) rfl))))))) (pss_one (ps_ret (pv 1)))))
theorem sc__law_is_int : FnScope ["_law_value"] ["_law_value"] (defScope (top 33)) := ⟨rfl, rfl, rfl, by decide +kernel, rfl, by decide +kernel, by decide +kernel⟩
theorem lk__law_is_int {P : Program} {w : World} {k : Kx} {mg : Str → Option Value} {base : Heap} {f : Addr} {fd : FuncData} (B : Blt mg) (hXT : XTab k XT) (F : FunD k.K "_law_is_int" "_law_is_int" (defArgs (top 33)) (defBody (top 33)) (defScope (top 33)) [] [] f fd) : FnOk P w k.K mg base (L2.CX P w) 1 f fd ["_law_value"] (spM k m__law_is_int) := by
  refine F.ok sc__law_is_int (fun vs H Q E h => (body_ok (N := ["_law_value"]) (ar := 1) (t := t__law_is_int k) (b := b__law_is_int) (fun E => s__law_is_int hXT E) h (by decide)).1) (fun cdv A outer s H vs Q E hr h => ⟨t__law_is_int k E, ?_, (body_ok (N := ["_law_value"]) (ar := 1) (t := t__law_is_int k) (b := b__law_is_int) (fun E => s__law_is_int hXT E) h (by decide)).2⟩)
  have nd := sc__law_is_int.nd
  have hu : A.units + 3 + 100 < cLine := by have := hr.un; have e : (A.deeper (envOfC "_law_is_int" (defScope (top 33)) s.heap.objs.size f cdv)).units = A.units + 3 := rfl; omega
  have hu1 : A.units + 3 + 1 < cLine := by omega
  have hu10 : A.units + 3 + 10 < cLine := by omega
  have hdp : (A.deeper (envOfC "_law_is_int" (defScope (top 33)) s.heap.objs.size f cdv)).depth < recursionLimit := by have := hr.dp; omega
  have hu64 : A.units + 3 + 64 < cLine := by omega
  exact (pss_one (ps_ret (L2.pe_and (pe_callB call_isA rfl B.z_isinstance (by decide +kernel) (pa_cons (pv 0) (pa_cons (pe_bltn (v := .ty "int") rfl B.z_int (by decide +kernel) rfl) pa_nil))) (pe_one (pe_not (pe_callB call_isA rfl B.z_isinstance (by decide +kernel) (pa_cons (pv 0) (pa_cons (pe_bltn (v := .ty "bool") rfl B.z_bool (by decide +kernel) rfl) pa_nil))))))))
theorem sc__law_begun_bench : FnScope ["_law_length"] ["_law_length"] (defScope (top 36)) := ⟨rfl, rfl, rfl, by decide +kernel, rfl, by decide +kernel, by decide +kernel⟩
theorem lk__law_begun_bench {P : Program} {w : World} {k : Kx} {mg : Str → Option Value} {base : Heap} {f : Addr} {fd : FuncData} (B : Blt mg) (F : FunD k.K "_law_begun_bench" "_law_begun_bench" (defArgs (top 36)) (defBody (top 36)) (defScope (top 36)) [] [] f fd) : FnOk P w k.K mg base (L2.CX P w) 1 f fd ["_law_length"] (spM k m__law_begun_bench) := by
  refine F.ok sc__law_begun_bench (fun vs H Q E h => (body_ok (N := ["_law_length"]) (ar := 1) (t := t__law_begun_bench k) (b := b__law_begun_bench) (fun E => s__law_begun_bench  E) h (by decide)).1) (fun cdv A outer s H vs Q E hr h => ⟨t__law_begun_bench k E, ?_, (body_ok (N := ["_law_length"]) (ar := 1) (t := t__law_begun_bench k) (b := b__law_begun_bench) (fun E => s__law_begun_bench  E) h (by decide)).2⟩)
  have nd := sc__law_begun_bench.nd
  have hu : A.units + 3 + 100 < cLine := by have := hr.un; have e : (A.deeper (envOfC "_law_begun_bench" (defScope (top 36)) s.heap.objs.size f cdv)).units = A.units + 3 := rfl; omega
  have hu1 : A.units + 3 + 1 < cLine := by omega
  have hu10 : A.units + 3 + 10 < cLine := by omega
  have hdp : (A.deeper (envOfC "_law_begun_bench" (defScope (top 36)) s.heap.objs.size f cdv)).depth < recursionLimit := by have := hr.dp; omega
  have hu64 : A.units + 3 + 64 < cLine := by omega
  exact (pss_one (ps_ret (pe_disp (pps_cons pe_str (pv 0) (pps_cons pe_str pe_dnewK (pps_cons pe_str (pe_lst pa_nil) (pps_cons pe_str pe_non pps_nil)))) (by rfl) (by rfl) (fun z => by cases z) (by decide))))
theorem sc__law_is_read : FnScope ["_law_value", "_law_length", "_law_sign"] ["_law_value", "_law_length"] (defScope (top 37)) := ⟨rfl, rfl, rfl, by decide +kernel, rfl, by decide +kernel, by decide +kernel⟩
theorem lk__law_is_read {P : Program} {w : World} {k : Kx} {mg : Str → Option Value} {base : Heap} {f : Addr} {fd : FuncData} (B : Blt mg) (hXT : XTab k XT) (F : FunD k.K "_law_is_read" "_law_is_read" (defArgs (top 37)) (defBody (top 37)) (defScope (top 37)) [] [] f fd) : FnOk P w k.K mg base (L2.CX P w) 1 f fd ["_law_value", "_law_length"] (spM k m__law_is_read) := by
  refine F.ok sc__law_is_read (fun vs H Q E h => (body_ok (N := ["_law_value", "_law_length", "_law_sign"]) (ar := 2) (t := t__law_is_read k) (b := b__law_is_read) (fun E => s__law_is_read hXT E) h (by decide)).1) (fun cdv A outer s H vs Q E hr h => ⟨t__law_is_read k E, ?_, (body_ok (N := ["_law_value", "_law_length", "_law_sign"]) (ar := 2) (t := t__law_is_read k) (b := b__law_is_read) (fun E => s__law_is_read hXT E) h (by decide)).2⟩)
  have nd := sc__law_is_read.nd
  have hu : A.units + 3 + 100 < cLine := by have := hr.un; have e : (A.deeper (envOfC "_law_is_read" (defScope (top 37)) s.heap.objs.size f cdv)).units = A.units + 3 := rfl; omega
  have hu1 : A.units + 3 + 1 < cLine := by omega
  have hu10 : A.units + 3 + 10 < cLine := by omega
  have hdp : (A.deeper (envOfC "_law_is_read" (defScope (top 37)) s.heap.objs.size f cdv)).depth < recursionLimit := by have := hr.dp; omega
  have hu64 : A.units + 3 + 64 < cLine := by omega
  exact (pss_cons (ps_if (PW.pt (pw_or (pt_not (pt_val (pe_callB call_isA rfl B.z_isinstance (by decide +kernel) (pa_cons (pv 0) (pa_cons (pe_bltn (v := .ty "str") rfl B.z_str (by decide +kernel) rfl) pa_nil))))) (pw_or1 (pt_cmpR or_lt (pe_callB cr_len rfl B.z_len (by decide +kernel) (pa_cons (pv 0) pa_nil)) (pe_op or_add (pv 1) pe_int) (nomark _))))) (pss_one (ps_ret pe_bl)) pss_nil) (pss_one (ps_ret (pe_cmpR (or_eq hu) (pe_lc (own := [("_law_sign", 2)]) rfl nd (pi_anyD (pv 0)) (blkOk_by rfl) (fun _ _ _ _ _ => (pg_name (i := 2) nd rfl (by first | exact Or.inl rfl | exact Or.inr rfl))) (fun _ _ _ _ _ => (pts_one (pt_cmpR (or_notinA hu) (pv 2) pe_str rfl))) (fun _ _ _ _ _ => (pv 2))) (pe_lst pa_nil) (nomark _)))))
theorem sc__law_number_of : FnScope ["_law_account", "_law_deed"] ["_law_account"] (defScope (top 39)) := ⟨rfl, rfl, rfl, by decide +kernel, rfl, by decide +kernel, by decide +kernel⟩
theorem lk__law_number_of {P : Program} {w : World} {k : Kx} {mg : Str → Option Value} {base : Heap} {f : Addr} {fd : FuncData} (B : Blt mg) (F : FunD k.K "_law_number_of" "_law_number_of" (defArgs (top 39)) (defBody (top 39)) (defScope (top 39)) [] [] f fd) : FnOk P w k.K mg base (L2.CX P w) 1 f fd ["_law_account"] (spM k m__law_number_of) := by
  refine F.ok sc__law_number_of (fun vs H Q E h => (body_ok (N := ["_law_account", "_law_deed"]) (ar := 1) (t := t__law_number_of k) (b := b__law_number_of) (fun E => s__law_number_of  E) h (by decide)).1) (fun cdv A outer s H vs Q E hr h => ⟨t__law_number_of k E, ?_, (body_ok (N := ["_law_account", "_law_deed"]) (ar := 1) (t := t__law_number_of k) (b := b__law_number_of) (fun E => s__law_number_of  E) h (by decide)).2⟩)
  have nd := sc__law_number_of.nd
  have hu : A.units + 3 + 100 < cLine := by have := hr.un; have e : (A.deeper (envOfC "_law_number_of" (defScope (top 39)) s.heap.objs.size f cdv)).units = A.units + 3 := rfl; omega
  have hu1 : A.units + 3 + 1 < cLine := by omega
  have hu10 : A.units + 3 + 10 < cLine := by omega
  have hdp : (A.deeper (envOfC "_law_number_of" (defScope (top 39)) s.heap.objs.size f cdv)).depth < recursionLimit := by have := hr.dp; omega
  have hu64 : A.units + 3 + 64 < cLine := by omega
  exact (pss_one (ps_ret (pe_callB cr_len rfl B.z_len (by decide +kernel) (pa_cons (pe_lc (own := [("_law_deed", 1)]) rfl nd (pi_anyD (pe_ix (ix_any hu) (pv 0) pe_str (fun _ _ => rfl))) (blkOk_by rfl) (fun _ _ _ _ _ => (pg_name (i := 1) nd rfl (by first | exact Or.inl rfl | exact Or.inr rfl))) (fun _ _ _ _ _ => (pts_one (pt_cmpR (or_eq hu) (pe_ix (ix_any hu) (pv 1) pe_int (fun _ _ => rfl)) pe_str (nomark _)))) (fun _ _ _ _ _ => (pv 1))) pa_nil))))
theorem sc__law_word_of : FnScope ["_law_error", "_law_some"] ["_law_error"] (defScope (top 44)) := ⟨rfl, rfl, rfl, by decide +kernel, rfl, by decide +kernel, by decide +kernel⟩
theorem lk__law_word_of {P : Program} {w : World} {k : Kx} {mg : Str → Option Value} {base : Heap} {f : Addr} {fd : FuncData} (B : Blt mg) (G_TooMany : mg "TooMany" = some (.ref (k.ca "TooMany"))) (G_BadWord : mg "BadWord" = some (.ref (k.ca "BadWord"))) (G_BadIndex : mg "BadIndex" = some (.ref (k.ca "BadIndex"))) (G_NothingDone : mg "NothingDone" = some (.ref (k.ca "NothingDone"))) (hXT : XTab k XT) (F : FunD k.K "_law_word_of" "_law_word_of" (defArgs (top 44)) (defBody (top 44)) (defScope (top 44)) [] [] f fd) : FnOk P w k.K mg base (L2.CX P w) 1 f fd ["_law_error"] (spM k m__law_word_of) := by
  refine F.ok sc__law_word_of (fun vs H Q E h => (body_ok (N := ["_law_error", "_law_some"]) (ar := 1) (t := t__law_word_of k) (b := b__law_word_of) (fun E => s__law_word_of hXT E) h (by decide)).1) (fun cdv A outer s H vs Q E hr h => ⟨t__law_word_of k E, ?_, (body_ok (N := ["_law_error", "_law_some"]) (ar := 1) (t := t__law_word_of k) (b := b__law_word_of) (fun E => s__law_word_of hXT E) h (by decide)).2⟩)
  have nd := sc__law_word_of.nd
  have hu : A.units + 3 + 100 < cLine := by have := hr.un; have e : (A.deeper (envOfC "_law_word_of" (defScope (top 44)) s.heap.objs.size f cdv)).units = A.units + 3 := rfl; omega
  have hu1 : A.units + 3 + 1 < cLine := by omega
  have hu10 : A.units + 3 + 10 < cLine := by omega
  have hdp : (A.deeper (envOfC "_law_word_of" (defScope (top 44)) s.heap.objs.size f cdv)).depth < recursionLimit := by have := hr.dp; omega
  have hu64 : A.units + 3 + 64 < cLine := by omega
  exact (pss_cons (ps_if (pt_cmp (pc_isN (pv 0)) rfl) (pss_one (ps_ret pe_str)) pss_nil) (pss_cons (ps_set (i := 1) nd rfl (by first | exact Or.inl rfl | exact Or.inr rfl) (pe_lst (pa_cons (pe_callB call_isE2 rfl B.z_isinstance (by decide +kernel) (pa_cons (pv 0) (pa_cons (pe_glob rfl G_BadIndex rfl) pa_nil))) (pa_cons (pe_callB call_isE2 rfl B.z_isinstance (by decide +kernel) (pa_cons (pv 0) (pa_cons (pe_glob rfl G_BadWord rfl) pa_nil))) (pa_cons (pe_callB call_isE2 rfl B.z_isinstance (by decide +kernel) (pa_cons (pv 0) (pa_cons (pe_glob rfl G_TooMany rfl) pa_nil))) pa_nil))))) (pss_cons (ps_set (i := 1) nd rfl (by first | exact Or.inl rfl | exact Or.inr rfl) (pe_op or_add (pv 1) (pe_lst (pa_cons (pe_callB call_isE2 rfl B.z_isinstance (by decide +kernel) (pa_cons (pv 0) (pa_cons (pe_glob rfl G_NothingDone rfl) pa_nil))) (pa_cons pe_bl pa_nil))))) (pss_one (ps_ret (pe_ix (ix_any hu) (pe_lst (pa_cons pe_str (pa_cons pe_str (pa_cons pe_str (pa_cons pe_str (pa_cons pe_str pa_nil)))))) (pe_bm PySem.F.plainAttrs_list PySem.F.slot_list_index PySem.F.type_list_index mt_index (pv 1) (pa_cons pe_bl pa_nil)) (fun _ _ => rfl)))))))
theorem sc_Mark__init : FnScope ["self", "outer", "deeds", "known"] ["self", "outer", "deeds", "known"] (defScope (mtd 23 0)) := ⟨rfl, rfl, rfl, by decide +kernel, rfl, by decide +kernel, by decide +kernel⟩
theorem lk_Mark__init {P : Program} {w : World} {k : Kx} {mg : Str → Option Value} {base : Heap} {f : Addr} {fd : FuncData} (B : Blt mg) (hCT : CTab k CTB) (F : FunD k.K "__init__" "Mark.__init__" (defArgs (mtd 23 0)) (defBody (mtd 23 0)) (defScope (mtd 23 0)) [] [] f fd) : FnOk P w k.K mg base (L2.CX P w) 1 f fd ["self", "outer", "deeds", "known"] (spM k m_Mark__init) := by
  refine F.ok sc_Mark__init (fun vs H Q E h => (body_ok (N := ["self", "outer", "deeds", "known"]) (ar := 4) (t := t_Mark__init k) (b := b_Mark__init) (fun E => s_Mark__init hCT E) h (by decide)).1) (fun cdv A outer s H vs Q E hr h => ⟨t_Mark__init k E, ?_, (body_ok (N := ["self", "outer", "deeds", "known"]) (ar := 4) (t := t_Mark__init k) (b := b_Mark__init) (fun E => s_Mark__init hCT E) h (by decide)).2⟩)
  have nd := sc_Mark__init.nd
  have hu : A.units + 3 + 100 < cLine := by have := hr.un; have e : (A.deeper (envOfC "Mark.__init__" (defScope (mtd 23 0)) s.heap.objs.size f cdv)).units = A.units + 3 := rfl; omega
  have hu1 : A.units + 3 + 1 < cLine := by omega
  have hu10 : A.units + 3 + 10 < cLine := by omega
  have hdp : (A.deeper (envOfC "Mark.__init__" (defScope (mtd 23 0)) s.heap.objs.size f cdv)).depth < recursionLimit := by have := hr.dp; omega
  have hu64 : A.units + 3 + 64 < cLine := by omega
  exact (pss_cons (ps_fld (pv 0) (pv 1) rfl) (pss_cons (ps_fld (pv 0) (pv 2) rfl) (pss_one (ps_fld (pv 0) (pv 3) rfl))))
theorem sc_Bench__length : FnScope ["self"] ["self"] (defScope (mtd 24 1)) := ⟨rfl, rfl, rfl, by decide +kernel, rfl, by decide +kernel, by decide +kernel⟩
theorem lk_Bench__length {P : Program} {w : World} {k : Kx} {mg : Str → Option Value} {base : Heap} {f : Addr} {fd : FuncData} (B : Blt mg) (hCT : CTab k CTB) (F : FunD k.K "length" "Bench.length" (defArgs (mtd 24 1)) (defBody (mtd 24 1)) (defScope (mtd 24 1)) [] [] f fd) : FnOk P w k.K mg base (L2.CX P w) 1 f fd ["self"] (spM k m_Bench__length) := by
  refine F.ok sc_Bench__length (fun vs H Q E h => (body_ok (N := ["self"]) (ar := 1) (t := t_Bench__length k) (b := b_Bench__length) (fun E => s_Bench__length hCT E) h (by decide)).1) (fun cdv A outer s H vs Q E hr h => ⟨t_Bench__length k E, ?_, (body_ok (N := ["self"]) (ar := 1) (t := t_Bench__length k) (b := b_Bench__length) (fun E => s_Bench__length hCT E) h (by decide)).2⟩)
  have nd := sc_Bench__length.nd
  have hu : A.units + 3 + 100 < cLine := by have := hr.un; have e : (A.deeper (envOfC "Bench.length" (defScope (mtd 24 1)) s.heap.objs.size f cdv)).units = A.units + 3 := rfl; omega
  have hu1 : A.units + 3 + 1 < cLine := by omega
  have hu10 : A.units + 3 + 10 < cLine := by omega
  have hdp : (A.deeper (envOfC "Bench.length" (defScope (mtd 24 1)) s.heap.objs.size f cdv)).depth < recursionLimit := by have := hr.dp; omega
  have hu64 : A.units + 3 + 64 < cLine := by omega
  exact (pss_one (ps_ret (pe_fld (pv 0) rfl)))
theorem sc_Bench__reads : FnScope ["self"] ["self"] (defScope (mtd 24 2)) := ⟨rfl, rfl, rfl, by decide +kernel, rfl, by decide +kernel, by decide +kernel⟩
theorem lk_Bench__reads {P : Program} {w : World} {k : Kx} {mg : Str → Option Value} {base : Heap} {f : Addr} {fd : FuncData} (B : Blt mg) (hCT : CTab k CTB) (F : FunD k.K "reads" "Bench.reads" (defArgs (mtd 24 2)) (defBody (mtd 24 2)) (defScope (mtd 24 2)) [] [] f fd) : FnOk P w k.K mg base (L2.CX P w) 1 f fd ["self"] (spM k m_Bench__reads) := by
  refine F.ok sc_Bench__reads (fun vs H Q E h => (body_ok (N := ["self"]) (ar := 1) (t := t_Bench__reads k) (b := b_Bench__reads) (fun E => s_Bench__reads hCT E) h (by decide)).1) (fun cdv A outer s H vs Q E hr h => ⟨t_Bench__reads k E, ?_, (body_ok (N := ["self"]) (ar := 1) (t := t_Bench__reads k) (b := b_Bench__reads) (fun E => s_Bench__reads hCT E) h (by decide)).2⟩)
  have nd := sc_Bench__reads.nd
  have hu : A.units + 3 + 100 < cLine := by have := hr.un; have e : (A.deeper (envOfC "Bench.reads" (defScope (mtd 24 2)) s.heap.objs.size f cdv)).units = A.units + 3 := rfl; omega
  have hu1 : A.units + 3 + 1 < cLine := by omega
  have hu10 : A.units + 3 + 10 < cLine := by omega
  have hdp : (A.deeper (envOfC "Bench.reads" (defScope (mtd 24 2)) s.heap.objs.size f cdv)).depth < recursionLimit := by have := hr.dp; omega
  have hu64 : A.units + 3 + 64 < cLine := by omega
  exact (pss_one (ps_ret (pe_callTy cr_dictC rfl B.z_dict (by decide +kernel) (pa_cons (pe_fld (pv 0) rfl) pa_nil))))
theorem sc_Bench__log : FnScope ["self"] ["self"] (defScope (mtd 24 3)) := ⟨rfl, rfl, rfl, by decide +kernel, rfl, by decide +kernel, by decide +kernel⟩
theorem lk_Bench__log {P : Program} {w : World} {k : Kx} {mg : Str → Option Value} {base : Heap} {f : Addr} {fd : FuncData} (B : Blt mg) (hCT : CTab k CTB) (F : FunD k.K "log" "Bench.log" (defArgs (mtd 24 3)) (defBody (mtd 24 3)) (defScope (mtd 24 3)) [] [] f fd) : FnOk P w k.K mg base (L2.CX P w) 1 f fd ["self"] (spM k m_Bench__log) := by
  refine F.ok sc_Bench__log (fun vs H Q E h => (body_ok (N := ["self"]) (ar := 1) (t := t_Bench__log k) (b := b_Bench__log) (fun E => s_Bench__log hCT E) h (by decide)).1) (fun cdv A outer s H vs Q E hr h => ⟨t_Bench__log k E, ?_, (body_ok (N := ["self"]) (ar := 1) (t := t_Bench__log k) (b := b_Bench__log) (fun E => s_Bench__log hCT E) h (by decide)).2⟩)
  have nd := sc_Bench__log.nd
  have hu : A.units + 3 + 100 < cLine := by have := hr.un; have e : (A.deeper (envOfC "Bench.log" (defScope (mtd 24 3)) s.heap.objs.size f cdv)).units = A.units + 3 := rfl; omega
  have hu1 : A.units + 3 + 1 < cLine := by omega
  have hu10 : A.units + 3 + 10 < cLine := by omega
  have hdp : (A.deeper (envOfC "Bench.log" (defScope (mtd 24 3)) s.heap.objs.size f cdv)).depth < recursionLimit := by have := hr.dp; omega
  have hu64 : A.units + 3 + 64 < cLine := by omega
  exact (pss_one (ps_ret (pe_callTy (cr_listA rfl) rfl B.z_list (by decide +kernel) (pa_cons (pe_fld (pv 0) rfl) pa_nil))))
theorem sc_Bench__eq : FnScope ["self", "other"] ["self", "other"] (defScope (mtd 24 4)) := ⟨rfl, rfl, rfl, by decide +kernel, rfl, by decide +kernel, by decide +kernel⟩
theorem lk_Bench__eq {P : Program} {w : World} {k : Kx} {mg : Str → Option Value} {base : Heap} {f : Addr} {fd : FuncData} (B : Blt mg) (G_Bench : mg "Bench" = some (.ref (k.ca "Bench"))) (hCT : CTab k CTB) (hOT : OTab k OCLS) (F : FunD k.K "__eq__" "Bench.__eq__" (defArgs (mtd 24 4)) (defBody (mtd 24 4)) (defScope (mtd 24 4)) [] [] f fd) : FnOk P w k.K mg base (L2.CX P w) 1 f fd ["self", "other"] (spM k m_Bench__eq) := by
  refine F.ok sc_Bench__eq (fun vs H Q E h => (body_ok (N := ["self", "other"]) (ar := 2) (t := t_Bench__eq k) (b := b_Bench__eq) (fun E => s_Bench__eq hCT hOT E) h (by decide)).1) (fun cdv A outer s H vs Q E hr h => ⟨t_Bench__eq k E, ?_, (body_ok (N := ["self", "other"]) (ar := 2) (t := t_Bench__eq k) (b := b_Bench__eq) (fun E => s_Bench__eq hCT hOT E) h (by decide)).2⟩)
  have nd := sc_Bench__eq.nd
  have hu : A.units + 3 + 100 < cLine := by have := hr.un; have e : (A.deeper (envOfC "Bench.__eq__" (defScope (mtd 24 4)) s.heap.objs.size f cdv)).units = A.units + 3 := rfl; omega
  have hu1 : A.units + 3 + 1 < cLine := by omega
  have hu10 : A.units + 3 + 10 < cLine := by omega
  have hdp : (A.deeper (envOfC "Bench.__eq__" (defScope (mtd 24 4)) s.heap.objs.size f cdv)).depth < recursionLimit := by have := hr.dp; omega
  have hu64 : A.units + 3 + 64 < cLine := by omega
  exact (pss_one (ps_ret (L2.pe_and (pe_callB call_isA rfl B.z_isinstance (by decide +kernel) (pa_cons (pv 1) (pa_cons (pe_glob rfl G_Bench rfl) pa_nil))) (L2.pe_and (pe_cmpR (or_eq hu) (pe_fld (pv 0) rfl) (pe_fld (pv 1) rfl) (nomark _)) (pe_one (pe_cmpR (or_eq hu) (pe_fld (pv 0) rfl) (pe_fld (pv 1) rfl) (nomark _)))))))
theorem sc_is_between : FnScope ["value", "least", "most"] ["value", "least", "most"] (defScope (top 12)) := ⟨rfl, rfl, rfl, by decide +kernel, rfl, by decide +kernel, by decide +kernel⟩
theorem lk_is_between {P : Program} {w : World} {k : Kx} {mg : Str → Option Value} {base : Heap} {f : Addr} {fd : FuncData} (B : Blt mg) (F_is_integer : FnIs P w k.K mg base 1 "is_integer" ["value"] (spM k m_is_integer)) (F : FunD k.K "is_between" "is_between" (defArgs (top 12)) (defBody (top 12)) (defScope (top 12)) [] [] f fd) : FnOk P w k.K mg base (L2.CX P w) 2 f fd ["value", "least", "most"] (spM k m_is_between) := by
  refine F.ok sc_is_between (fun vs H Q E h => (body_ok (N := ["value", "least", "most"]) (ar := 3) (t := t_is_between k) (b := b_is_between) (fun E => s_is_between  E) h (by decide)).1) (fun cdv A outer s H vs Q E hr h => ⟨t_is_between k E, ?_, (body_ok (N := ["value", "least", "most"]) (ar := 3) (t := t_is_between k) (b := b_is_between) (fun E => s_is_between  E) h (by decide)).2⟩)
  have nd := sc_is_between.nd
  have hu : A.units + 3 + 100 < cLine := by have := hr.un; have e : (A.deeper (envOfC "is_between" (defScope (top 12)) s.heap.objs.size f cdv)).units = A.units + 3 := rfl; omega
  have hu1 : A.units + 3 + 1 < cLine := by omega
  have hu10 : A.units + 3 + 10 < cLine := by omega
  have hdp : (A.deeper (envOfC "is_between" (defScope (top 12)) s.heap.objs.size f cdv)).depth < recursionLimit := by have := hr.dp; omega
  have hu64 : A.units + 3 + 64 < cLine := by omega
  exact (pss_one (ps_ret (L2.pe_and (pe_fn F_is_integer (hr.mono (by decide)) rfl (passes_call (takes_of rfl rfl rfl rfl) (fun _ _ _ _ h => h)) (pa_cons (pv 0) pa_nil)) (pe_one (pe_chain op_le op_le (pv 1) (pv 0) (pv 2))))))
theorem sc_is_word : FnScope ["value"] ["value"] (defScope (top 14)) := ⟨rfl, rfl, rfl, by decide +kernel, rfl, by decide +kernel, by decide +kernel⟩
theorem lk_is_word {P : Program} {w : World} {k : Kx} {mg : Str → Option Value} {base : Heap} {f : Addr} {fd : FuncData} (B : Blt mg) (F_is_line : FnIs P w k.K mg base 1 "is_line" ["value"] (spM k m_is_line)) (F : FunD k.K "is_word" "is_word" (defArgs (top 14)) (defBody (top 14)) (defScope (top 14)) [] [] f fd) : FnOk P w k.K mg base (L2.CX P w) 2 f fd ["value"] (spM k m_is_word) := by
  refine F.ok sc_is_word (fun vs H Q E h => (body_ok (N := ["value"]) (ar := 1) (t := t_is_word k) (b := b_is_word) (fun E => s_is_word  E) h (by decide)).1) (fun cdv A outer s H vs Q E hr h => ⟨t_is_word k E, ?_, (body_ok (N := ["value"]) (ar := 1) (t := t_is_word k) (b := b_is_word) (fun E => s_is_word  E) h (by decide)).2⟩)
  have nd := sc_is_word.nd
  have hu : A.units + 3 + 100 < cLine := by have := hr.un; have e : (A.deeper (envOfC "is_word" (defScope (top 14)) s.heap.objs.size f cdv)).units = A.units + 3 := rfl; omega
  have hu1 : A.units + 3 + 1 < cLine := by omega
  have hu10 : A.units + 3 + 10 < cLine := by omega
  have hdp : (A.deeper (envOfC "is_word" (defScope (top 14)) s.heap.objs.size f cdv)).depth < recursionLimit := by have := hr.dp; omega
  have hu64 : A.units + 3 + 64 < cLine := by omega
  exact (pss_one (ps_ret (L2.pe_and (pe_fn F_is_line (hr.mono (by decide)) rfl (passes_call (takes_of rfl rfl rfl rfl) (fun _ _ _ _ h => h)) (pa_cons (pv 0) pa_nil)) (pe_one (pe_cmpR op_gt (pe_callB cr_len rfl B.z_len (by decide +kernel) (pa_cons (pv 0) pa_nil)) pe_int (nomark _))))))
theorem sc__law_refusal : FnScope ["_law_account", "_law_deed", "_law_some"] ["_law_account", "_law_deed"] (defScope (top 38)) := ⟨rfl, rfl, rfl, by decide +kernel, rfl, by decide +kernel, by decide +kernel⟩
theorem lk__law_refusal {P : Program} {w : World} {k : Kx} {mg : Str → Option Value} {base : Heap} {f : Addr} {fd : FuncData} (B : Blt mg) (F__law_is_int : FnIs P w k.K mg base 1 "_law_is_int" ["_law_value"] (spM k m__law_is_int)) (F__law_is_read : FnIs P w k.K mg base 1 "_law_is_read" ["_law_value", "_law_length"] (spM k m__law_is_read)) (F : FunD k.K "_law_refusal" "_law_refusal" (defArgs (top 38)) (defBody (top 38)) (defScope (top 38)) [] [] f fd) : FnOk P w k.K mg base (L2.CX P w) 2 f fd ["_law_account", "_law_deed"] (spM k m__law_refusal) := by
  refine F.ok sc__law_refusal (fun vs H Q E h => (body_ok (N := ["_law_account", "_law_deed", "_law_some"]) (ar := 2) (t := t__law_refusal k) (b := b__law_refusal) (fun E => s__law_refusal  E) h (by decide)).1) (fun cdv A outer s H vs Q E hr h => ⟨t__law_refusal k E, ?_, (body_ok (N := ["_law_account", "_law_deed", "_law_some"]) (ar := 2) (t := t__law_refusal k) (b := b__law_refusal) (fun E => s__law_refusal  E) h (by decide)).2⟩)
  have nd := sc__law_refusal.nd
  have hu : A.units + 3 + 100 < cLine := by have := hr.un; have e : (A.deeper (envOfC "_law_refusal" (defScope (top 38)) s.heap.objs.size f cdv)).units = A.units + 3 := rfl; omega
  have hu1 : A.units + 3 + 1 < cLine := by omega
  have hu10 : A.units + 3 + 10 < cLine := by omega
  have hdp : (A.deeper (envOfC "_law_refusal" (defScope (top 38)) s.heap.objs.size f cdv)).depth < recursionLimit := by have := hr.dp; omega
  have hu64 : A.units + 3 + 64 < cLine := by omega
  exact (pss_cons (ps_set (i := 2) nd rfl (by first | exact Or.inl rfl | exact Or.inr rfl) (pe_ix (ix_any hu) (pv 0) pe_str (fun _ _ => rfl))) (pss_cons (ps_if (pt_cmpR (or_eq hu) (pe_ix (ix_any hu) (pv 1) pe_int (fun _ _ => rfl)) pe_str (nomark _)) (pss_one (ps_ret (pe_ifExp (pt_cmp (pc_isN (pe_ix (ix_any hu) (pv 0) pe_str (fun _ _ => rfl))) rfl) pe_str pe_str))) pss_nil) (pss_cons (ps_if (PW.pt (pw_and (pt_cmpR (or_inA hu) (pe_ix (ix_any hu) (pv 1) pe_int (fun _ _ => rfl)) (pe_lst (pa_cons pe_str (pa_cons pe_str pa_nil))) rfl) (pw_and1 (PW.pt (pw_or (pt_not (pt_val (pe_fn F__law_is_int (hr.mono (by decide)) rfl (passes_call (takes_of rfl rfl rfl rfl) (fun _ _ _ _ h => h)) (pa_cons (pe_ix (ix_any hu) (pv 1) pe_int (fun _ _ => rfl)) pa_nil)))) (pw_or1 (pt_cmpR (or_notinA hu) (pe_ix (ix_any hu) (pv 1) pe_int (fun _ _ => rfl)) (pv 2) rfl))))))) (pss_one (ps_ret pe_str)) pss_nil) (pss_cons (ps_if (PW.pt (pw_and (pt_cmpR (or_inA hu) (pe_ix (ix_any hu) (pv 1) pe_int (fun _ _ => rfl)) (pe_lst (pa_cons pe_str (pa_cons pe_str pa_nil))) rfl) (pw_and1 (pt_not (pt_val (pe_fn F__law_is_read (hr.mono (by decide)) rfl (passes_call (takes_of rfl rfl rfl rfl) (fun _ _ _ _ h => h)) (pa_cons (pe_ix (ix_any hu) (pv 1) (pe_un un_neg pe_int) (fun _ _ => rfl)) (pa_cons (pe_ix (ix_any hu) (pv 0) pe_str (fun _ _ => rfl)) pa_nil)))))))) (pss_one (ps_ret pe_str)) pss_nil) (pss_one (ps_ret (pe_ifExp (PW.pt (pw_and (pt_cmpR (or_eq hu) (pe_ix (ix_any hu) (pv 1) pe_int (fun _ _ => rfl)) pe_str (nomark _)) (pw_and1 (pt_cmpR op_gt (pe_callB cr_len rfl B.z_len (by decide +kernel) (pa_cons (pv 2) pa_nil)) pe_int (nomark _))))) pe_str pe_str)))))))
theorem sc__law_behind : FnScope ["_law_account", "_law_deed", "_law_some"] ["_law_account", "_law_deed"] (defScope (top 40)) := ⟨rfl, rfl, rfl, by decide +kernel, rfl, by decide +kernel, by decide +kernel⟩
theorem lk__law_behind {P : Program} {w : World} {k : Kx} {mg : Str → Option Value} {base : Heap} {f : Addr} {fd : FuncData} (B : Blt mg) (F__law_number_of : FnIs P w k.K mg base 1 "_law_number_of" ["_law_account"] (spM k m__law_number_of)) (F : FunD k.K "_law_behind" "_law_behind" (defArgs (top 40)) (defBody (top 40)) (defScope (top 40)) [] [] f fd) : FnOk P w k.K mg base (L2.CX P w) 2 f fd ["_law_account", "_law_deed"] (spM k m__law_behind) := by
  refine F.ok sc__law_behind (fun vs H Q E h => (body_ok (N := ["_law_account", "_law_deed", "_law_some"]) (ar := 2) (t := t__law_behind k) (b := b__law_behind) (fun E => s__law_behind  E) h (by decide)).1) (fun cdv A outer s H vs Q E hr h => ⟨t__law_behind k E, ?_, (body_ok (N := ["_law_account", "_law_deed", "_law_some"]) (ar := 2) (t := t__law_behind k) (b := b__law_behind) (fun E => s__law_behind  E) h (by decide)).2⟩)
  have nd := sc__law_behind.nd
  have hu : A.units + 3 + 100 < cLine := by have := hr.un; have e : (A.deeper (envOfC "_law_behind" (defScope (top 40)) s.heap.objs.size f cdv)).units = A.units + 3 := rfl; omega
  have hu1 : A.units + 3 + 1 < cLine := by omega
  have hu10 : A.units + 3 + 10 < cLine := by omega
  have hdp : (A.deeper (envOfC "_law_behind" (defScope (top 40)) s.heap.objs.size f cdv)).depth < recursionLimit := by have := hr.dp; omega
  have hu64 : A.units + 3 + 64 < cLine := by omega
  exact (pss_cons (ps_if (pt_cmpR (or_eq hu) (pe_ix (ix_any hu) (pv 1) pe_int (fun _ _ => rfl)) pe_str (nomark _)) (pss_one (ps_ret (pe_ix (ix_any hu) (pv 0) pe_str (fun _ _ => rfl)))) pss_nil) (pss_cons (ps_set (i := 2) nd rfl (by first | exact Or.inl rfl | exact Or.inr rfl) (pe_callTy (cr_dictP rfl) rfl B.z_dict (by decide +kernel) (pa_cons (pe_callB (cr_sortI rfl hu) rfl B.z_sorted (by decide +kernel) (pa_cons (pe_itemsK (pe_ix (ix_any hu) (pv 0) pe_str (fun _ _ => rfl))) pa_nil)) pa_nil))) (pss_cons (ps_if (pt_cmpR (or_eq hu) (pe_ix (ix_any hu) (pv 1) pe_int (fun _ _ => rfl)) pe_str (nomark _)) (pss_one (ps_expr (pe_dpop1 (pv 2) (pe_ix (ix_any hu) (pv 1) pe_int (fun _ _ => rfl)) ⟨by rfl, by rfl, by rfl, by rfl⟩))) (pss_one (ps_if (pt_cmpR (or_eq hu) (pe_ix (ix_any hu) (pv 1) pe_int (fun _ _ => rfl)) pe_str (nomark _)) (pss_one (ps_dput hu1 (pv 2) (pe_fn F__law_number_of (hr.mono (by decide)) rfl (passes_call (takes_of rfl rfl rfl rfl) (fun _ _ _ _ h => h)) (pa_cons (pv 0) pa_nil)) (pe_ix (ix_any hu) (pv 1) pe_int (fun _ _ => rfl)) rfl)) (pss_one (ps_dput hu1 (pv 2) (pe_ix (ix_any hu) (pv 1) pe_int (fun _ _ => rfl)) (pe_ix (ix_any hu) (pv 1) pe_int (fun _ _ => rfl)) rfl))))) (pss_one (ps_ret (pe_disp (pps_cons pe_str (pe_ix (ix_any hu) (pv 0) pe_str (fun _ _ => rfl)) (pps_cons pe_str (pv 2) (pps_cons pe_str (pe_op or_add (pe_ix (ix_any hu) (pv 0) pe_str (fun _ _ => rfl)) (pe_lst (pa_cons (pv 1) pa_nil))) (pps_cons pe_str (pv 0) pps_nil)))) (by rfl) (by rfl) (fun z => by cases z) (by decide)))))))
theorem sc_Bench__tried : FnScope ["self", "work"] ["self", "work"] (defScope (mtd 24 7)) := ⟨rfl, rfl, rfl, by decide +kernel, rfl, by decide +kernel, by decide +kernel⟩
theorem lk_Bench__tried {P : Program} {w : World} {k : Kx} {mg : Str → Option Value} {base : Heap} {f : Addr} {fd : FuncData} (B : Blt mg) (F__wall : FnIs P w k.K mg base 1 "_wall" ["k"] (spM k m__wall)) (F : FunD k.K "tried" "Bench.tried" (defArgs (mtd 24 7)) (defBody (mtd 24 7)) (defScope (mtd 24 7)) [] [] f fd) : FnOk P w k.K mg base (L2.CX P w) 2 f fd ["self", "work"] (spM k m_Bench__tried) := by
  refine F.ok sc_Bench__tried (fun vs H Q E h => (body_ok (N := ["self", "work"]) (ar := 2) (t := t_Bench__tried k) (b := b_Bench__tried) (fun E => s_Bench__tried  E) h (by decide)).1) (fun cdv A outer s H vs Q E hr h => ⟨t_Bench__tried k E, ?_, (body_ok (N := ["self", "work"]) (ar := 2) (t := t_Bench__tried k) (b := b_Bench__tried) (fun E => s_Bench__tried  E) h (by decide)).2⟩)
  have nd := sc_Bench__tried.nd
  have hu : A.units + 3 + 100 < cLine := by have := hr.un; have e : (A.deeper (envOfC "Bench.tried" (defScope (mtd 24 7)) s.heap.objs.size f cdv)).units = A.units + 3 := rfl; omega
  have hu1 : A.units + 3 + 1 < cLine := by omega
  have hu10 : A.units + 3 + 10 < cLine := by omega
  have hdp : (A.deeper (envOfC "Bench.tried" (defScope (mtd 24 7)) s.heap.objs.size f cdv)).depth < recursionLimit := by have := hr.dp; omega
  have hu64 : A.units + 3 + 64 < cLine := by omega
  exact (pss_one (ps_expr (pe_fn F__wall (hr.mono (by decide)) rfl (passes_call (takes_of rfl rfl rfl rfl) (fun _ _ _ _ h => h)) (pa_cons pe_int pa_nil))))
theorem sc_Bench__copy : FnScope ["self"] ["self"] (defScope (mtd 24 8)) := ⟨rfl, rfl, rfl, by decide +kernel, rfl, by decide +kernel, by decide +kernel⟩
theorem lk_Bench__copy {P : Program} {w : World} {k : Kx} {mg : Str → Option Value} {base : Heap} {f : Addr} {fd : FuncData} (B : Blt mg) (F__wall : FnIs P w k.K mg base 1 "_wall" ["k"] (spM k m__wall)) (F : FunD k.K "copy" "Bench.copy" (defArgs (mtd 24 8)) (defBody (mtd 24 8)) (defScope (mtd 24 8)) [] [] f fd) : FnOk P w k.K mg base (L2.CX P w) 2 f fd ["self"] (spM k m_Bench__copy) := by
  refine F.ok sc_Bench__copy (fun vs H Q E h => (body_ok (N := ["self"]) (ar := 1) (t := t_Bench__copy k) (b := b_Bench__copy) (fun E => s_Bench__copy  E) h (by decide)).1) (fun cdv A outer s H vs Q E hr h => ⟨t_Bench__copy k E, ?_, (body_ok (N := ["self"]) (ar := 1) (t := t_Bench__copy k) (b := b_Bench__copy) (fun E => s_Bench__copy  E) h (by decide)).2⟩)
  have nd := sc_Bench__copy.nd
  have hu : A.units + 3 + 100 < cLine := by have := hr.un; have e : (A.deeper (envOfC "Bench.copy" (defScope (mtd 24 8)) s.heap.objs.size f cdv)).units = A.units + 3 := rfl; omega
  have hu1 : A.units + 3 + 1 < cLine := by omega
  have hu10 : A.units + 3 + 10 < cLine := by omega
  have hdp : (A.deeper (envOfC "Bench.copy" (defScope (mtd 24 8)) s.heap.objs.size f cdv)).depth < recursionLimit := by have := hr.dp; omega
  have hu64 : A.units + 3 + 64 < cLine := by omega
  exact (pss_one (ps_expr (pe_fn F__wall (hr.mono (by decide)) rfl (passes_call (takes_of rfl rfl rfl rfl) (fun _ _ _ _ h => h)) (pa_cons pe_int pa_nil))))
theorem sc_Bench__do : FnScope ["self", "deed"] ["self", "deed"] (defScope (mtd 24 9)) := ⟨rfl, rfl, rfl, by decide +kernel, rfl, by decide +kernel, by decide +kernel⟩
theorem lk_Bench__do {P : Program} {w : World} {k : Kx} {mg : Str → Option Value} {base : Heap} {f : Addr} {fd : FuncData} (B : Blt mg) (F_standing_behind : FnIs P w k.K mg base 1 "standing_behind" ["deeds"] (spM k m_standing_behind)) (hCT : CTab k CTB) (F : FunD k.K "do" "Bench.do" (defArgs (mtd 24 9)) (defBody (mtd 24 9)) (defScope (mtd 24 9)) [] [] f fd) : FnOk P w k.K mg base (L2.CX P w) 2 f fd ["self", "deed"] (spM k m_Bench__do) := by
  refine F.ok sc_Bench__do (fun vs H Q E h => (body_ok (N := ["self", "deed"]) (ar := 2) (t := t_Bench__do k) (b := b_Bench__do) (fun E => s_Bench__do hCT E) h (by decide)).1) (fun cdv A outer s H vs Q E hr h => ⟨t_Bench__do k E, ?_, (body_ok (N := ["self", "deed"]) (ar := 2) (t := t_Bench__do k) (b := b_Bench__do) (fun E => s_Bench__do hCT E) h (by decide)).2⟩)
  have nd := sc_Bench__do.nd
  have hu : A.units + 3 + 100 < cLine := by have := hr.un; have e : (A.deeper (envOfC "Bench.do" (defScope (mtd 24 9)) s.heap.objs.size f cdv)).units = A.units + 3 := rfl; omega
  have hu1 : A.units + 3 + 1 < cLine := by omega
  have hu10 : A.units + 3 + 10 < cLine := by omega
  have hdp : (A.deeper (envOfC "Bench.do" (defScope (mtd 24 9)) s.heap.objs.size f cdv)).depth < recursionLimit := by have := hr.dp; omega
  have hu64 : A.units + 3 + 64 < cLine := by omega
  exact (pss_cons (ps_fld (pv 0) (pe_op or_add (pe_fld (pv 0) rfl) (pe_tup (pa_cons (pv 1) pa_nil))) rfl) (pss_one (ps_fld (pv 0) (pe_fn F_standing_behind (hr.mono (by decide)) rfl (passes_call (takes_of rfl rfl rfl rfl) (fun _ _ _ _ h => h)) (pa_cons (pe_fld (pv 0) rfl) pa_nil)) rfl)))
theorem sc_Bench__need_number : FnScope ["self", "number"] ["self", "number"] (defScope (mtd 24 11)) := ⟨rfl, rfl, rfl, by decide +kernel, rfl, by decide +kernel, by decide +kernel⟩
theorem lk_Bench__need_number {P : Program} {w : World} {k : Kx} {mg : Str → Option Value} {base : Heap} {f : Addr} {fd : FuncData} (B : Blt mg) (F_is_integer : FnIs P w k.K mg base 1 "is_integer" ["value"] (spM k m_is_integer)) (x_BadIndex : ExcIs k.K mg "BadIndex" (k.ca "BadIndex")) (hCT : CTab k CTB) (F : FunD k.K "need_number" "Bench.need_number" (defArgs (mtd 24 11)) (defBody (mtd 24 11)) (defScope (mtd 24 11)) [] [] f fd) : FnOk P w k.K mg base (L2.CX P w) 2 f fd ["self", "number"] (spM k m_Bench__need_number) := by
  refine F.ok sc_Bench__need_number (fun vs H Q E h => (body_ok (N := ["self", "number"]) (ar := 2) (t := t_Bench__need_number k) (b := b_Bench__need_number) (fun E => s_Bench__need_number hCT E) h (by decide)).1) (fun cdv A outer s H vs Q E hr h => ⟨t_Bench__need_number k E, ?_, (body_ok (N := ["self", "number"]) (ar := 2) (t := t_Bench__need_number k) (b := b_Bench__need_number) (fun E => s_Bench__need_number hCT E) h (by decide)).2⟩)
  have nd := sc_Bench__need_number.nd
  have hu : A.units + 3 + 100 < cLine := by have := hr.un; have e : (A.deeper (envOfC "Bench.need_number" (defScope (mtd 24 11)) s.heap.objs.size f cdv)).units = A.units + 3 := rfl; omega
  have hu1 : A.units + 3 + 1 < cLine := by omega
  have hu10 : A.units + 3 + 10 < cLine := by omega
  have hdp : (A.deeper (envOfC "Bench.need_number" (defScope (mtd 24 11)) s.heap.objs.size f cdv)).depth < recursionLimit := by have := hr.dp; omega
  have hu64 : A.units + 3 + 64 < cLine := by omega
  exact (pss_one (ps_if (PW.pt (pw_or (pt_not (pt_val (pe_fn F_is_integer (hr.mono (by decide)) rfl (passes_call (takes_of rfl rfl rfl rfl) (fun _ _ _ _ h => h)) (pa_cons (pv 1) pa_nil)))) (pw_or1 (pt_cmpR (or_notinA hu) (pv 1) (pe_fld (pv 0) rfl) rfl)))) (pss_one (ps_raise rfl (takes_of rfl rfl rfl rfl) (pmk_exc x_BadIndex (by rfl)))) pss_nil))
theorem sc_Bench__undo : FnScope ["self"] ["self"] (defScope (mtd 24 15)) := ⟨rfl, rfl, rfl, by decide +kernel, rfl, by decide +kernel, by decide +kernel⟩
theorem lk_Bench__undo {P : Program} {w : World} {k : Kx} {mg : Str → Option Value} {base : Heap} {f : Addr} {fd : FuncData} (B : Blt mg) (F_standing_behind : FnIs P w k.K mg base 1 "standing_behind" ["deeds"] (spM k m_standing_behind)) (x_NothingDone : ExcIs k.K mg "NothingDone" (k.ca "NothingDone")) (hCT : CTab k CTB) (F : FunD k.K "undo" "Bench.undo" (defArgs (mtd 24 15)) (defBody (mtd 24 15)) (defScope (mtd 24 15)) [] [] f fd) : FnOk P w k.K mg base (L2.CX P w) 2 f fd ["self"] (spM k m_Bench__undo) := by
  refine F.ok sc_Bench__undo (fun vs H Q E h => (body_ok (N := ["self"]) (ar := 1) (t := t_Bench__undo k) (b := b_Bench__undo) (fun E => s_Bench__undo hCT E) h (by decide)).1) (fun cdv A outer s H vs Q E hr h => ⟨t_Bench__undo k E, ?_, (body_ok (N := ["self"]) (ar := 1) (t := t_Bench__undo k) (b := b_Bench__undo) (fun E => s_Bench__undo hCT E) h (by decide)).2⟩)
  have nd := sc_Bench__undo.nd
  have hu : A.units + 3 + 100 < cLine := by have := hr.un; have e : (A.deeper (envOfC "Bench.undo" (defScope (mtd 24 15)) s.heap.objs.size f cdv)).units = A.units + 3 := rfl; omega
  have hu1 : A.units + 3 + 1 < cLine := by omega
  have hu10 : A.units + 3 + 10 < cLine := by omega
  have hdp : (A.deeper (envOfC "Bench.undo" (defScope (mtd 24 15)) s.heap.objs.size f cdv)).depth < recursionLimit := by have := hr.dp; omega
  have hu64 : A.units + 3 + 64 < cLine := by omega
  exact (pss_cons (ps_if (pt_cmpR (or_eq hu) (pe_callB cr_len rfl B.z_len (by decide +kernel) (pa_cons (pe_fld (pv 0) rfl) pa_nil)) pe_int (nomark _)) (pss_one (ps_raise rfl (takes_of rfl rfl rfl rfl) (pmk_exc x_NothingDone (by rfl)))) pss_nil) (pss_cons (ps_fld (pv 0) (pe_slice or_sl (pe_fld (pv 0) rfl) po_none (po_some (pe_un un_neg pe_int))) rfl) (pss_one (ps_fld (pv 0) (pe_fn F_standing_behind (hr.mono (by decide)) rfl (passes_call (takes_of rfl rfl rfl rfl) (fun _ _ _ _ h => h)) (pa_cons (pe_fld (pv 0) rfl) pa_nil)) rfl))))
theorem sc_Bench__runs_of_reads : FnScope ["self"] ["self"] (defScope (mtd 24 16)) := ⟨rfl, rfl, rfl, by decide +kernel, rfl, by decide +kernel, by decide +kernel⟩
theorem lk_Bench__runs_of_reads {P : Program} {w : World} {k : Kx} {mg : Str → Option Value} {base : Heap} {f : Addr} {fd : FuncData} (B : Blt mg) (F__wall : FnIs P w k.K mg base 1 "_wall" ["k"] (spM k m__wall)) (F : FunD k.K "runs_of_reads" "Bench.runs_of_reads" (defArgs (mtd 24 16)) (defBody (mtd 24 16)) (defScope (mtd 24 16)) [] [] f fd) : FnOk P w k.K mg base (L2.CX P w) 2 f fd ["self"] (spM k m_Bench__runs_of_reads) := by
  refine F.ok sc_Bench__runs_of_reads (fun vs H Q E h => (body_ok (N := ["self"]) (ar := 1) (t := t_Bench__runs_of_reads k) (b := b_Bench__runs_of_reads) (fun E => s_Bench__runs_of_reads  E) h (by decide)).1) (fun cdv A outer s H vs Q E hr h => ⟨t_Bench__runs_of_reads k E, ?_, (body_ok (N := ["self"]) (ar := 1) (t := t_Bench__runs_of_reads k) (b := b_Bench__runs_of_reads) (fun E => s_Bench__runs_of_reads  E) h (by decide)).2⟩)
  have nd := sc_Bench__runs_of_reads.nd
  have hu : A.units + 3 + 100 < cLine := by have := hr.un; have e : (A.deeper (envOfC "Bench.runs_of_reads" (defScope (mtd 24 16)) s.heap.objs.size f cdv)).units = A.units + 3 := rfl; omega
  have hu1 : A.units + 3 + 1 < cLine := by omega
  have hu10 : A.units + 3 + 10 < cLine := by omega
  have hdp : (A.deeper (envOfC "Bench.runs_of_reads" (defScope (mtd 24 16)) s.heap.objs.size f cdv)).depth < recursionLimit := by have := hr.dp; omega
  have hu64 : A.units + 3 + 64 < cLine := by omega
  exact (pss_one (ps_expr (pe_fn F__wall (hr.mono (by decide)) rfl (passes_call (takes_of rfl rfl rfl rfl) (fun _ _ _ _ h => h)) (pa_cons pe_int pa_nil))))
theorem sc_Bench__net : FnScope ["self"] ["self"] (defScope (mtd 24 17)) := ⟨rfl, rfl, rfl, by decide +kernel, rfl, by decide +kernel, by decide +kernel⟩
theorem lk_Bench__net {P : Program} {w : World} {k : Kx} {mg : Str → Option Value} {base : Heap} {f : Addr} {fd : FuncData} (B : Blt mg) (F__wall : FnIs P w k.K mg base 1 "_wall" ["k"] (spM k m__wall)) (F : FunD k.K "net" "Bench.net" (defArgs (mtd 24 17)) (defBody (mtd 24 17)) (defScope (mtd 24 17)) [] [] f fd) : FnOk P w k.K mg base (L2.CX P w) 2 f fd ["self"] (spM k m_Bench__net) := by
  refine F.ok sc_Bench__net (fun vs H Q E h => (body_ok (N := ["self"]) (ar := 1) (t := t_Bench__net k) (b := b_Bench__net) (fun E => s_Bench__net  E) h (by decide)).1) (fun cdv A outer s H vs Q E hr h => ⟨t_Bench__net k E, ?_, (body_ok (N := ["self"]) (ar := 1) (t := t_Bench__net k) (b := b_Bench__net) (fun E => s_Bench__net  E) h (by decide)).2⟩)
  have nd := sc_Bench__net.nd
  have hu : A.units + 3 + 100 < cLine := by have := hr.un; have e : (A.deeper (envOfC "Bench.net" (defScope (mtd 24 17)) s.heap.objs.size f cdv)).units = A.units + 3 := rfl; omega
  have hu1 : A.units + 3 + 1 < cLine := by omega
  have hu10 : A.units + 3 + 10 < cLine := by omega
  have hdp : (A.deeper (envOfC "Bench.net" (defScope (mtd 24 17)) s.heap.objs.size f cdv)).depth < recursionLimit := by have := hr.dp; omega
  have hu64 : A.units + 3 + 64 < cLine := by omega
  exact (pss_one (ps_expr (pe_fn F__wall (hr.mono (by decide)) rfl (passes_call (takes_of rfl rfl rfl rfl) (fun _ _ _ _ h => h)) (pa_cons pe_int pa_nil))))
theorem sc_Bench__web : FnScope ["self"] ["self"] (defScope (mtd 24 18)) := ⟨rfl, rfl, rfl, by decide +kernel, rfl, by decide +kernel, by decide +kernel⟩
theorem lk_Bench__web {P : Program} {w : World} {k : Kx} {mg : Str → Option Value} {base : Heap} {f : Addr} {fd : FuncData} (B : Blt mg) (F__wall : FnIs P w k.K mg base 1 "_wall" ["k"] (spM k m__wall)) (F : FunD k.K "web" "Bench.web" (defArgs (mtd 24 18)) (defBody (mtd 24 18)) (defScope (mtd 24 18)) [] [] f fd) : FnOk P w k.K mg base (L2.CX P w) 2 f fd ["self"] (spM k m_Bench__web) := by
  refine F.ok sc_Bench__web (fun vs H Q E h => (body_ok (N := ["self"]) (ar := 1) (t := t_Bench__web k) (b := b_Bench__web) (fun E => s_Bench__web  E) h (by decide)).1) (fun cdv A outer s H vs Q E hr h => ⟨t_Bench__web k E, ?_, (body_ok (N := ["self"]) (ar := 1) (t := t_Bench__web k) (b := b_Bench__web) (fun E => s_Bench__web  E) h (by decide)).2⟩)
  have nd := sc_Bench__web.nd
  have hu : A.units + 3 + 100 < cLine := by have := hr.un; have e : (A.deeper (envOfC "Bench.web" (defScope (mtd 24 18)) s.heap.objs.size f cdv)).units = A.units + 3 := rfl; omega
  have hu1 : A.units + 3 + 1 < cLine := by omega
  have hu10 : A.units + 3 + 10 < cLine := by omega
  have hdp : (A.deeper (envOfC "Bench.web" (defScope (mtd 24 18)) s.heap.objs.size f cdv)).depth < recursionLimit := by have := hr.dp; omega
  have hu64 : A.units + 3 + 64 < cLine := by omega
  exact (pss_one (ps_expr (pe_fn F__wall (hr.mono (by decide)) rfl (passes_call (takes_of rfl rfl rfl rfl) (fun _ _ _ _ h => h)) (pa_cons pe_int pa_nil))))
theorem sc_Bench__line_count : FnScope ["self"] ["self"] (defScope (mtd 24 19)) := ⟨rfl, rfl, rfl, by decide +kernel, rfl, by decide +kernel, by decide +kernel⟩
theorem lk_Bench__line_count {P : Program} {w : World} {k : Kx} {mg : Str → Option Value} {base : Heap} {f : Addr} {fd : FuncData} (B : Blt mg) (F__wall : FnIs P w k.K mg base 1 "_wall" ["k"] (spM k m__wall)) (F : FunD k.K "line_count" "Bench.line_count" (defArgs (mtd 24 19)) (defBody (mtd 24 19)) (defScope (mtd 24 19)) [] [] f fd) : FnOk P w k.K mg base (L2.CX P w) 2 f fd ["self"] (spM k m_Bench__line_count) := by
  refine F.ok sc_Bench__line_count (fun vs H Q E h => (body_ok (N := ["self"]) (ar := 1) (t := t_Bench__line_count k) (b := b_Bench__line_count) (fun E => s_Bench__line_count  E) h (by decide)).1) (fun cdv A outer s H vs Q E hr h => ⟨t_Bench__line_count k E, ?_, (body_ok (N := ["self"]) (ar := 1) (t := t_Bench__line_count k) (b := b_Bench__line_count) (fun E => s_Bench__line_count  E) h (by decide)).2⟩)
  have nd := sc_Bench__line_count.nd
  have hu : A.units + 3 + 100 < cLine := by have := hr.un; have e : (A.deeper (envOfC "Bench.line_count" (defScope (mtd 24 19)) s.heap.objs.size f cdv)).units = A.units + 3 := rfl; omega
  have hu1 : A.units + 3 + 1 < cLine := by omega
  have hu10 : A.units + 3 + 10 < cLine := by omega
  have hdp : (A.deeper (envOfC "Bench.line_count" (defScope (mtd 24 19)) s.heap.objs.size f cdv)).depth < recursionLimit := by have := hr.dp; omega
  have hu64 : A.units + 3 + 64 < cLine := by omega
  exact (pss_one (ps_expr (pe_fn F__wall (hr.mono (by decide)) rfl (passes_call (takes_of rfl rfl rfl rfl) (fun _ _ _ _ h => h)) (pa_cons pe_int pa_nil))))
theorem sc_Bench__circuit_count : FnScope ["self"] ["self"] (defScope (mtd 24 20)) := ⟨rfl, rfl, rfl, by decide +kernel, rfl, by decide +kernel, by decide +kernel⟩
theorem lk_Bench__circuit_count {P : Program} {w : World} {k : Kx} {mg : Str → Option Value} {base : Heap} {f : Addr} {fd : FuncData} (B : Blt mg) (F__wall : FnIs P w k.K mg base 1 "_wall" ["k"] (spM k m__wall)) (F : FunD k.K "circuit_count" "Bench.circuit_count" (defArgs (mtd 24 20)) (defBody (mtd 24 20)) (defScope (mtd 24 20)) [] [] f fd) : FnOk P w k.K mg base (L2.CX P w) 2 f fd ["self"] (spM k m_Bench__circuit_count) := by
  refine F.ok sc_Bench__circuit_count (fun vs H Q E h => (body_ok (N := ["self"]) (ar := 1) (t := t_Bench__circuit_count k) (b := b_Bench__circuit_count) (fun E => s_Bench__circuit_count  E) h (by decide)).1) (fun cdv A outer s H vs Q E hr h => ⟨t_Bench__circuit_count k E, ?_, (body_ok (N := ["self"]) (ar := 1) (t := t_Bench__circuit_count k) (b := b_Bench__circuit_count) (fun E => s_Bench__circuit_count  E) h (by decide)).2⟩)
  have nd := sc_Bench__circuit_count.nd
  have hu : A.units + 3 + 100 < cLine := by have := hr.un; have e : (A.deeper (envOfC "Bench.circuit_count" (defScope (mtd 24 20)) s.heap.objs.size f cdv)).units = A.units + 3 := rfl; omega
  have hu1 : A.units + 3 + 1 < cLine := by omega
  have hu10 : A.units + 3 + 10 < cLine := by omega
  have hdp : (A.deeper (envOfC "Bench.circuit_count" (defScope (mtd 24 20)) s.heap.objs.size f cdv)).depth < recursionLimit := by have := hr.dp; omega
  have hu64 : A.units + 3 + 64 < cLine := by omega
  exact (pss_one (ps_expr (pe_fn F__wall (hr.mono (by decide)) rfl (passes_call (takes_of rfl rfl rfl rfl) (fun _ _ _ _ h => h)) (pa_cons pe_int pa_nil))))
theorem sc_Bench__least_word : FnScope ["self"] ["self"] (defScope (mtd 24 21)) := ⟨rfl, rfl, rfl, by decide +kernel, rfl, by decide +kernel, by decide +kernel⟩
theorem lk_Bench__least_word {P : Program} {w : World} {k : Kx} {mg : Str → Option Value} {base : Heap} {f : Addr} {fd : FuncData} (B : Blt mg) (F__wall : FnIs P w k.K mg base 1 "_wall" ["k"] (spM k m__wall)) (F : FunD k.K "least_word" "Bench.least_word" (defArgs (mtd 24 21)) (defBody (mtd 24 21)) (defScope (mtd 24 21)) [] [] f fd) : FnOk P w k.K mg base (L2.CX P w) 2 f fd ["self"] (spM k m_Bench__least_word) := by
  refine F.ok sc_Bench__least_word (fun vs H Q E h => (body_ok (N := ["self"]) (ar := 1) (t := t_Bench__least_word k) (b := b_Bench__least_word) (fun E => s_Bench__least_word  E) h (by decide)).1) (fun cdv A outer s H vs Q E hr h => ⟨t_Bench__least_word k E, ?_, (body_ok (N := ["self"]) (ar := 1) (t := t_Bench__least_word k) (b := b_Bench__least_word) (fun E => s_Bench__least_word  E) h (by decide)).2⟩)
  have nd := sc_Bench__least_word.nd
  have hu : A.units + 3 + 100 < cLine := by have := hr.un; have e : (A.deeper (envOfC "Bench.least_word" (defScope (mtd 24 21)) s.heap.objs.size f cdv)).units = A.units + 3 := rfl; omega
  have hu1 : A.units + 3 + 1 < cLine := by omega
  have hu10 : A.units + 3 + 10 < cLine := by omega
  have hdp : (A.deeper (envOfC "Bench.least_word" (defScope (mtd 24 21)) s.heap.objs.size f cdv)).depth < recursionLimit := by have := hr.dp; omega
  have hu64 : A.units + 3 + 64 < cLine := by omega
  exact (pss_one (ps_expr (pe_fn F__wall (hr.mono (by decide)) rfl (passes_call (takes_of rfl rfl rfl rfl) (fun _ _ _ _ h => h)) (pa_cons pe_int pa_nil))))
theorem sc_Bench__some_web : FnScope ["self"] ["self"] (defScope (mtd 24 22)) := ⟨rfl, rfl, rfl, by decide +kernel, rfl, by decide +kernel, by decide +kernel⟩
theorem lk_Bench__some_web {P : Program} {w : World} {k : Kx} {mg : Str → Option Value} {base : Heap} {f : Addr} {fd : FuncData} (B : Blt mg) (F__wall : FnIs P w k.K mg base 1 "_wall" ["k"] (spM k m__wall)) (F : FunD k.K "some_web" "Bench.some_web" (defArgs (mtd 24 22)) (defBody (mtd 24 22)) (defScope (mtd 24 22)) [] [] f fd) : FnOk P w k.K mg base (L2.CX P w) 2 f fd ["self"] (spM k m_Bench__some_web) := by
  refine F.ok sc_Bench__some_web (fun vs H Q E h => (body_ok (N := ["self"]) (ar := 1) (t := t_Bench__some_web k) (b := b_Bench__some_web) (fun E => s_Bench__some_web  E) h (by decide)).1) (fun cdv A outer s H vs Q E hr h => ⟨t_Bench__some_web k E, ?_, (body_ok (N := ["self"]) (ar := 1) (t := t_Bench__some_web k) (b := b_Bench__some_web) (fun E => s_Bench__some_web  E) h (by decide)).2⟩)
  have nd := sc_Bench__some_web.nd
  have hu : A.units + 3 + 100 < cLine := by have := hr.un; have e : (A.deeper (envOfC "Bench.some_web" (defScope (mtd 24 22)) s.heap.objs.size f cdv)).units = A.units + 3 := rfl; omega
  have hu1 : A.units + 3 + 1 < cLine := by omega
  have hu10 : A.units + 3 + 10 < cLine := by omega
  have hdp : (A.deeper (envOfC "Bench.some_web" (defScope (mtd 24 22)) s.heap.objs.size f cdv)).depth < recursionLimit := by have := hr.dp; omega
  have hu64 : A.units + 3 + 64 < cLine := by omega
  exact (pss_one (ps_expr (pe_fn F__wall (hr.mono (by decide)) rfl (passes_call (takes_of rfl rfl rfl rfl) (fun _ _ _ _ h => h)) (pa_cons pe_int pa_nil))))
theorem sc_Bench__sure : FnScope ["self", "word"] ["self", "word"] (defScope (mtd 24 23)) := ⟨rfl, rfl, rfl, by decide +kernel, rfl, by decide +kernel, by decide +kernel⟩
theorem lk_Bench__sure {P : Program} {w : World} {k : Kx} {mg : Str → Option Value} {base : Heap} {f : Addr} {fd : FuncData} (B : Blt mg) (F__wall : FnIs P w k.K mg base 1 "_wall" ["k"] (spM k m__wall)) (F : FunD k.K "sure" "Bench.sure" (defArgs (mtd 24 23)) (defBody (mtd 24 23)) (defScope (mtd 24 23)) [] [] f fd) : FnOk P w k.K mg base (L2.CX P w) 2 f fd ["self", "word"] (spM k m_Bench__sure) := by
  refine F.ok sc_Bench__sure (fun vs H Q E h => (body_ok (N := ["self", "word"]) (ar := 2) (t := t_Bench__sure k) (b := b_Bench__sure) (fun E => s_Bench__sure  E) h (by decide)).1) (fun cdv A outer s H vs Q E hr h => ⟨t_Bench__sure k E, ?_, (body_ok (N := ["self", "word"]) (ar := 2) (t := t_Bench__sure k) (b := b_Bench__sure) (fun E => s_Bench__sure  E) h (by decide)).2⟩)
  have nd := sc_Bench__sure.nd
  have hu : A.units + 3 + 100 < cLine := by have := hr.un; have e : (A.deeper (envOfC "Bench.sure" (defScope (mtd 24 23)) s.heap.objs.size f cdv)).units = A.units + 3 := rfl; omega
  have hu1 : A.units + 3 + 1 < cLine := by omega
  have hu10 : A.units + 3 + 10 < cLine := by omega
  have hdp : (A.deeper (envOfC "Bench.sure" (defScope (mtd 24 23)) s.heap.objs.size f cdv)).depth < recursionLimit := by have := hr.dp; omega
  have hu64 : A.units + 3 + 64 < cLine := by omega
  exact (pss_one (ps_expr (pe_fn F__wall (hr.mono (by decide)) rfl (passes_call (takes_of rfl rfl rfl rfl) (fun _ _ _ _ h => h)) (pa_cons pe_int pa_nil))))
theorem sc_Bench__evasion : FnScope ["self", "word"] ["self", "word"] (defScope (mtd 24 24)) := ⟨rfl, rfl, rfl, by decide +kernel, rfl, by decide +kernel, by decide +kernel⟩
theorem lk_Bench__evasion {P : Program} {w : World} {k : Kx} {mg : Str → Option Value} {base : Heap} {f : Addr} {fd : FuncData} (B : Blt mg) (F__wall : FnIs P w k.K mg base 1 "_wall" ["k"] (spM k m__wall)) (F : FunD k.K "evasion" "Bench.evasion" (defArgs (mtd 24 24)) (defBody (mtd 24 24)) (defScope (mtd 24 24)) [] [] f fd) : FnOk P w k.K mg base (L2.CX P w) 2 f fd ["self", "word"] (spM k m_Bench__evasion) := by
  refine F.ok sc_Bench__evasion (fun vs H Q E h => (body_ok (N := ["self", "word"]) (ar := 2) (t := t_Bench__evasion k) (b := b_Bench__evasion) (fun E => s_Bench__evasion  E) h (by decide)).1) (fun cdv A outer s H vs Q E hr h => ⟨t_Bench__evasion k E, ?_, (body_ok (N := ["self", "word"]) (ar := 2) (t := t_Bench__evasion k) (b := b_Bench__evasion) (fun E => s_Bench__evasion  E) h (by decide)).2⟩)
  have nd := sc_Bench__evasion.nd
  have hu : A.units + 3 + 100 < cLine := by have := hr.un; have e : (A.deeper (envOfC "Bench.evasion" (defScope (mtd 24 24)) s.heap.objs.size f cdv)).units = A.units + 3 := rfl; omega
  have hu1 : A.units + 3 + 1 < cLine := by omega
  have hu10 : A.units + 3 + 10 < cLine := by omega
  have hdp : (A.deeper (envOfC "Bench.evasion" (defScope (mtd 24 24)) s.heap.objs.size f cdv)).depth < recursionLimit := by have := hr.dp; omega
  have hu64 : A.units + 3 + 64 < cLine := by omega
  exact (pss_one (ps_expr (pe_fn F__wall (hr.mono (by decide)) rfl (passes_call (takes_of rfl rfl rfl rfl) (fun _ _ _ _ h => h)) (pa_cons pe_int pa_nil))))
theorem sc_Bench__longest_sure : FnScope ["self"] ["self"] (defScope (mtd 24 25)) := ⟨rfl, rfl, rfl, by decide +kernel, rfl, by decide +kernel, by decide +kernel⟩
theorem lk_Bench__longest_sure {P : Program} {w : World} {k : Kx} {mg : Str → Option Value} {base : Heap} {f : Addr} {fd : FuncData} (B : Blt mg) (F__wall : FnIs P w k.K mg base 1 "_wall" ["k"] (spM k m__wall)) (F : FunD k.K "longest_sure" "Bench.longest_sure" (defArgs (mtd 24 25)) (defBody (mtd 24 25)) (defScope (mtd 24 25)) [] [] f fd) : FnOk P w k.K mg base (L2.CX P w) 2 f fd ["self"] (spM k m_Bench__longest_sure) := by
  refine F.ok sc_Bench__longest_sure (fun vs H Q E h => (body_ok (N := ["self"]) (ar := 1) (t := t_Bench__longest_sure k) (b := b_Bench__longest_sure) (fun E => s_Bench__longest_sure  E) h (by decide)).1) (fun cdv A outer s H vs Q E hr h => ⟨t_Bench__longest_sure k E, ?_, (body_ok (N := ["self"]) (ar := 1) (t := t_Bench__longest_sure k) (b := b_Bench__longest_sure) (fun E => s_Bench__longest_sure  E) h (by decide)).2⟩)
  have nd := sc_Bench__longest_sure.nd
  have hu : A.units + 3 + 100 < cLine := by have := hr.un; have e : (A.deeper (envOfC "Bench.longest_sure" (defScope (mtd 24 25)) s.heap.objs.size f cdv)).units = A.units + 3 := rfl; omega
  have hu1 : A.units + 3 + 1 < cLine := by omega
  have hu10 : A.units + 3 + 10 < cLine := by omega
  have hdp : (A.deeper (envOfC "Bench.longest_sure" (defScope (mtd 24 25)) s.heap.objs.size f cdv)).depth < recursionLimit := by have := hr.dp; omega
  have hu64 : A.units + 3 + 64 < cLine := by omega
  exact (pss_one (ps_expr (pe_fn F__wall (hr.mono (by decide)) rfl (passes_call (takes_of rfl rfl rfl rfl) (fun _ _ _ _ h => h)) (pa_cons pe_int pa_nil))))
theorem sc_Bench__held : FnScope ["self"] ["self"] (defScope (mtd 24 26)) := ⟨rfl, rfl, rfl, by decide +kernel, rfl, by decide +kernel, by decide +kernel⟩
theorem lk_Bench__held {P : Program} {w : World} {k : Kx} {mg : Str → Option Value} {base : Heap} {f : Addr} {fd : FuncData} (B : Blt mg) (F__wall : FnIs P w k.K mg base 1 "_wall" ["k"] (spM k m__wall)) (F : FunD k.K "held" "Bench.held" (defArgs (mtd 24 26)) (defBody (mtd 24 26)) (defScope (mtd 24 26)) [] [] f fd) : FnOk P w k.K mg base (L2.CX P w) 2 f fd ["self"] (spM k m_Bench__held) := by
  refine F.ok sc_Bench__held (fun vs H Q E h => (body_ok (N := ["self"]) (ar := 1) (t := t_Bench__held k) (b := b_Bench__held) (fun E => s_Bench__held  E) h (by decide)).1) (fun cdv A outer s H vs Q E hr h => ⟨t_Bench__held k E, ?_, (body_ok (N := ["self"]) (ar := 1) (t := t_Bench__held k) (b := b_Bench__held) (fun E => s_Bench__held  E) h (by decide)).2⟩)
  have nd := sc_Bench__held.nd
  have hu : A.units + 3 + 100 < cLine := by have := hr.un; have e : (A.deeper (envOfC "Bench.held" (defScope (mtd 24 26)) s.heap.objs.size f cdv)).units = A.units + 3 := rfl; omega
  have hu1 : A.units + 3 + 1 < cLine := by omega
  have hu10 : A.units + 3 + 10 < cLine := by omega
  have hdp : (A.deeper (envOfC "Bench.held" (defScope (mtd 24 26)) s.heap.objs.size f cdv)).depth < recursionLimit := by have := hr.dp; omega
  have hu64 : A.units + 3 + 64 < cLine := by omega
  exact (pss_one (ps_expr (pe_fn F__wall (hr.mono (by decide)) rfl (passes_call (takes_of rfl rfl rfl rfl) (fun _ _ _ _ h => h)) (pa_cons pe_int pa_nil))))
theorem sc_Bench__near : FnScope ["self", "word", "edits"] ["self", "word", "edits"] (defScope (mtd 24 27)) := ⟨rfl, rfl, rfl, by decide +kernel, rfl, by decide +kernel, by decide +kernel⟩
theorem lk_Bench__near {P : Program} {w : World} {k : Kx} {mg : Str → Option Value} {base : Heap} {f : Addr} {fd : FuncData} (B : Blt mg) (F__wall : FnIs P w k.K mg base 1 "_wall" ["k"] (spM k m__wall)) (F : FunD k.K "near" "Bench.near" (defArgs (mtd 24 27)) (defBody (mtd 24 27)) (defScope (mtd 24 27)) [] [] f fd) : FnOk P w k.K mg base (L2.CX P w) 2 f fd ["self", "word", "edits"] (spM k m_Bench__near) := by
  refine F.ok sc_Bench__near (fun vs H Q E h => (body_ok (N := ["self", "word", "edits"]) (ar := 3) (t := t_Bench__near k) (b := b_Bench__near) (fun E => s_Bench__near  E) h (by decide)).1) (fun cdv A outer s H vs Q E hr h => ⟨t_Bench__near k E, ?_, (body_ok (N := ["self", "word", "edits"]) (ar := 3) (t := t_Bench__near k) (b := b_Bench__near) (fun E => s_Bench__near  E) h (by decide)).2⟩)
  have nd := sc_Bench__near.nd
  have hu : A.units + 3 + 100 < cLine := by have := hr.un; have e : (A.deeper (envOfC "Bench.near" (defScope (mtd 24 27)) s.heap.objs.size f cdv)).units = A.units + 3 := rfl; omega
  have hu1 : A.units + 3 + 1 < cLine := by omega
  have hu10 : A.units + 3 + 10 < cLine := by omega
  have hdp : (A.deeper (envOfC "Bench.near" (defScope (mtd 24 27)) s.heap.objs.size f cdv)).depth < recursionLimit := by have := hr.dp; omega
  have hu64 : A.units + 3 + 64 < cLine := by omega
  exact (pss_one (ps_expr (pe_fn F__wall (hr.mono (by decide)) rfl (passes_call (takes_of rfl rfl rfl rfl) (fun _ _ _ _ h => h)) (pa_cons pe_int pa_nil))))
theorem sc_need_word : FnScope ["word"] ["word"] (defScope (top 15)) := ⟨rfl, rfl, rfl, by decide +kernel, rfl, by decide +kernel, by decide +kernel⟩
theorem lk_need_word {P : Program} {w : World} {k : Kx} {mg : Str → Option Value} {base : Heap} {f : Addr} {fd : FuncData} (B : Blt mg) (F_is_word : FnIs P w k.K mg base 2 "is_word" ["value"] (spM k m_is_word)) (x_BadWord : ExcIs k.K mg "BadWord" (k.ca "BadWord")) (F : FunD k.K "need_word" "need_word" (defArgs (top 15)) (defBody (top 15)) (defScope (top 15)) [] [] f fd) : FnOk P w k.K mg base (L2.CX P w) 3 f fd ["word"] (spM k m_need_word) := by
  refine F.ok sc_need_word (fun vs H Q E h => (body_ok (N := ["word"]) (ar := 1) (t := t_need_word k) (b := b_need_word) (fun E => s_need_word  E) h (by decide)).1) (fun cdv A outer s H vs Q E hr h => ⟨t_need_word k E, ?_, (body_ok (N := ["word"]) (ar := 1) (t := t_need_word k) (b := b_need_word) (fun E => s_need_word  E) h (by decide)).2⟩)
  have nd := sc_need_word.nd
  have hu : A.units + 3 + 100 < cLine := by have := hr.un; have e : (A.deeper (envOfC "need_word" (defScope (top 15)) s.heap.objs.size f cdv)).units = A.units + 3 := rfl; omega
  have hu1 : A.units + 3 + 1 < cLine := by omega
  have hu10 : A.units + 3 + 10 < cLine := by omega
  have hdp : (A.deeper (envOfC "need_word" (defScope (top 15)) s.heap.objs.size f cdv)).depth < recursionLimit := by have := hr.dp; omega
  have hu64 : A.units + 3 + 64 < cLine := by omega
  exact (pss_one (ps_if (pt_not (pt_val (pe_fn F_is_word (hr.mono (by decide)) rfl (passes_call (takes_of rfl rfl rfl rfl) (fun _ _ _ _ h => h)) (pa_cons (pv 0) pa_nil)))) (pss_one (ps_raise rfl (takes_of rfl rfl rfl rfl) (pmk_exc x_BadWord (by rfl)))) pss_nil))
theorem sc_need_length : FnScope ["length"] ["length"] (defScope (top 16)) := ⟨rfl, rfl, rfl, by decide +kernel, rfl, by decide +kernel, by decide +kernel⟩
theorem lk_need_length {P : Program} {w : World} {k : Kx} {mg : Str → Option Value} {base : Heap} {f : Addr} {fd : FuncData} (B : Blt mg) (F_is_between : FnIs P w k.K mg base 2 "is_between" ["value", "least", "most"] (spM k m_is_between)) (x_BadLength : ExcIs k.K mg "BadLength" (k.ca "BadLength")) (g_MOST_LETTERS : ∃ t, mg "MOST_LETTERS" = some (.int 120 t)) (F : FunD k.K "need_length" "need_length" (defArgs (top 16)) (defBody (top 16)) (defScope (top 16)) [] [] f fd) : FnOk P w k.K mg base (L2.CX P w) 3 f fd ["length"] (spM k m_need_length) := by
  refine F.ok sc_need_length (fun vs H Q E h => (body_ok (N := ["length"]) (ar := 1) (t := t_need_length k) (b := b_need_length) (fun E => s_need_length  E) h (by decide)).1) (fun cdv A outer s H vs Q E hr h => ⟨t_need_length k E, ?_, (body_ok (N := ["length"]) (ar := 1) (t := t_need_length k) (b := b_need_length) (fun E => s_need_length  E) h (by decide)).2⟩)
  have nd := sc_need_length.nd
  have hu : A.units + 3 + 100 < cLine := by have := hr.un; have e : (A.deeper (envOfC "need_length" (defScope (top 16)) s.heap.objs.size f cdv)).units = A.units + 3 := rfl; omega
  have hu1 : A.units + 3 + 1 < cLine := by omega
  have hu10 : A.units + 3 + 10 < cLine := by omega
  have hdp : (A.deeper (envOfC "need_length" (defScope (top 16)) s.heap.objs.size f cdv)).depth < recursionLimit := by have := hr.dp; omega
  have hu64 : A.units + 3 + 64 < cLine := by omega
  exact (pss_one (ps_if (pt_not (pt_val (pe_fn F_is_between (hr.mono (by decide)) rfl (passes_call (takes_of rfl rfl rfl rfl) (fun _ _ _ _ h => h)) (pa_cons (pv 0) (pa_cons pe_int (pa_cons (pe_gint rfl g_MOST_LETTERS) pa_nil)))))) (pss_one (ps_raise rfl (takes_of rfl rfl rfl rfl) (pmk_exc x_BadLength (by rfl)))) pss_nil))
theorem sc__law_pick : FnScope ["_law_draw", "_law_some"] ["_law_draw", "_law_some"] (defScope (top 29)) := ⟨rfl, rfl, rfl, by decide +kernel, rfl, by decide +kernel, by decide +kernel⟩
theorem lk__law_pick {P : Program} {w : World} {k : Kx} {mg : Str → Option Value} {base : Heap} {f : Addr} {fd : FuncData} (B : Blt mg) (F__law_take : FnIs P w k.K mg base 2 "_law_take" ["_law_draw", "_law_total"] (spM k m_take)) (F : FunD k.K "_law_pick" "_law_pick" (defArgs (top 29)) (defBody (top 29)) (defScope (top 29)) [] [] f fd) : FnOk P w k.K mg base (L2.CX P w) 3 f fd ["_law_draw", "_law_some"] (spM k m__law_pick) := by
  refine F.ok sc__law_pick (fun vs H Q E h => (body_ok (N := ["_law_draw", "_law_some"]) (ar := 2) (t := t__law_pick k) (b := b__law_pick) (fun E => s__law_pick  E) h (by decide)).1) (fun cdv A outer s H vs Q E hr h => ⟨t__law_pick k E, ?_, (body_ok (N := ["_law_draw", "_law_some"]) (ar := 2) (t := t__law_pick k) (b := b__law_pick) (fun E => s__law_pick  E) h (by decide)).2⟩)
  have nd := sc__law_pick.nd
  have hu : A.units + 3 + 100 < cLine := by have := hr.un; have e : (A.deeper (envOfC "_law_pick" (defScope (top 29)) s.heap.objs.size f cdv)).units = A.units + 3 := rfl; omega
  have hu1 : A.units + 3 + 1 < cLine := by omega
  have hu10 : A.units + 3 + 10 < cLine := by omega
  have hdp : (A.deeper (envOfC "_law_pick" (defScope (top 29)) s.heap.objs.size f cdv)).depth < recursionLimit := by have := hr.dp; omega
  have hu64 : A.units + 3 + 64 < cLine := by omega
  exact (pss_one (ps_ret (pe_ix (ix_any hu) (pv 1) (pe_fn F__law_take (hr.mono (by decide)) rfl (passes_call (takes_of rfl rfl rfl rfl) (fun _ _ _ _ h => h)) (pa_cons (pv 0) (pa_cons (pe_callB cr_len rfl B.z_len (by decide +kernel) (pa_cons (pv 1) pa_nil)) pa_nil))) (fun _ _ => rfl))))
theorem sc__law_is_as : FnScope ["_law_bench", "_law_account", "_law_told"] ["_law_bench", "_law_account"] (defScope (top 43)) := ⟨rfl, rfl, rfl, by decide +kernel, rfl, by decide +kernel, by decide +kernel⟩
theorem lk__law_is_as {P : Program} {w : World} {k : Kx} {mg : Str → Option Value} {base : Heap} {f : Addr} {fd : FuncData} (B : Blt mg) (P_Bench__log : PrIs P w k.K mg base 1 (k.ca "Bench") "log" (spM k m_Bench__log)) (P_Bench__reads : PrIs P w k.K mg base 1 (k.ca "Bench") "reads" (spM k m_Bench__reads)) (P_Bench__length : PrIs P w k.K mg base 1 (k.ca "Bench") "length" (spM k m_Bench__length)) (hSys : SysD k.K) (F : FunD k.K "_law_is_as" "_law_is_as" (defArgs (top 43)) (defBody (top 43)) (defScope (top 43)) [] [] f fd) : FnG P w k.K mg base (L2.CX P w) 3 f fd ["_law_bench", "_law_account"] (spM k m__law_is_as) := by
  refine okG F sc__law_is_as (fun vs H Q E h => (body_ok (N := ["_law_bench", "_law_account", "_law_told"]) (ar := 2) (t := t__law_is_as k) (b := b__law_is_as) (fun E => s__law_is_as hSys E) h (by decide)).1) (fun cdv A outer s H vs Q E hcv hgd hr h => ⟨t__law_is_as k E, ?_, (body_ok (N := ["_law_bench", "_law_account", "_law_told"]) (ar := 2) (t := t__law_is_as k) (b := b__law_is_as) (fun E => s__law_is_as hSys E) h (by decide)).2⟩)
  have nd := sc__law_is_as.nd
  have hu : A.units + 3 + 100 < cLine := by have := hr.un; have e : (A.deeper (envOfC "_law_is_as" (defScope (top 43)) s.heap.objs.size f cdv)).units = A.units + 3 := rfl; omega
  have hu1 : A.units + 3 + 1 < cLine := by omega
  have hu10 : A.units + 3 + 10 < cLine := by omega
  have hdp : (A.deeper (envOfC "_law_is_as" (defScope (top 43)) s.heap.objs.size f cdv)).depth < recursionLimit := by have := hr.dp; omega
  have hu64 : A.units + 3 + 64 < cLine := by omega
  exact (pss_cons (ps_set (i := 2) nd rfl (by first | exact Or.inl rfl | exact Or.inr rfl) (pe_lst (pa_cons (pe_pr P_Bench__length (hr.mono (by decide)) passL (pv 0) rfl rfl) (pa_cons (pe_pr P_Bench__reads (hr.mono (by decide)) passL (pv 0) rfl rfl) (pa_cons (pe_pr P_Bench__log (hr.mono (by decide)) passL (pv 0) rfl rfl) pa_nil))))) (pss_one (ps_ret (pe_cmpR (or_eq hu) (pe_callB (cr_reprX hgd hu64) rfl B.z_repr (by decide +kernel) (pa_cons (pv 2) pa_nil)) (pe_callB (cr_reprX hgd hu64) rfl B.z_repr (by decide +kernel) (pa_cons (pe_lst (pa_cons (pe_ix (ix_any hu) (pv 1) pe_str (fun _ _ => rfl)) (pa_cons (pe_ix (ix_any hu) (pv 1) pe_str (fun _ _ => rfl)) (pa_cons (pe_ix (ix_any hu) (pv 1) pe_str (fun _ _ => rfl)) pa_nil)))) pa_nil)) (nomark _)))))
theorem sc_Bench__strike : FnScope ["self", "number"] ["self", "number"] (defScope (mtd 24 13)) := ⟨rfl, rfl, rfl, by decide +kernel, rfl, by decide +kernel, by decide +kernel⟩
theorem lk_Bench__strike {P : Program} {w : World} {k : Kx} {mg : Str → Option Value} {base : Heap} {f : Addr} {fd : FuncData} (B : Blt mg) (M_Bench__need_number : MtIs P w k.K mg base 2 (k.ca "Bench") "need_number" ["self", "number"] (spM k m_Bench__need_number)) (M_Bench__do : MtIs P w k.K mg base 2 (k.ca "Bench") "do" ["self", "deed"] (spM k m_Bench__do)) (g_STRIKE : ∃ t, mg "STRIKE" = some (.str "strike" t)) (F : FunD k.K "strike" "Bench.strike" (defArgs (mtd 24 13)) (defBody (mtd 24 13)) (defScope (mtd 24 13)) [] [] f fd) : FnOk P w k.K mg base (L2.CX P w) 3 f fd ["self", "number"] (spM k m_Bench__strike) := by
  refine F.ok sc_Bench__strike (fun vs H Q E h => (body_ok (N := ["self", "number"]) (ar := 2) (t := t_Bench__strike k) (b := b_Bench__strike) (fun E => s_Bench__strike  E) h (by decide)).1) (fun cdv A outer s H vs Q E hr h => ⟨t_Bench__strike k E, ?_, (body_ok (N := ["self", "number"]) (ar := 2) (t := t_Bench__strike k) (b := b_Bench__strike) (fun E => s_Bench__strike  E) h (by decide)).2⟩)
  have nd := sc_Bench__strike.nd
  have hu : A.units + 3 + 100 < cLine := by have := hr.un; have e : (A.deeper (envOfC "Bench.strike" (defScope (mtd 24 13)) s.heap.objs.size f cdv)).units = A.units + 3 := rfl; omega
  have hu1 : A.units + 3 + 1 < cLine := by omega
  have hu10 : A.units + 3 + 10 < cLine := by omega
  have hdp : (A.deeper (envOfC "Bench.strike" (defScope (mtd 24 13)) s.heap.objs.size f cdv)).depth < recursionLimit := by have := hr.dp; omega
  have hu64 : A.units + 3 + 64 < cLine := by omega
  exact (pss_cons (ps_expr (pe_mt M_Bench__need_number (hr.mono (by decide)) (passes_call (takes_of rfl rfl rfl rfl) (fun _ _ _ _ h => h)) (pv 0) (pa_cons (pv 1) pa_nil))) (pss_one (ps_expr (pe_mt M_Bench__do (hr.mono (by decide)) (passes_call (takes_of rfl rfl rfl rfl) (fun _ _ _ _ h => h)) (pv 0) (pa_cons (pe_tup (pa_cons (pe_gstr rfl g_STRIKE) (pa_cons (pv 1) pa_nil))) pa_nil)))))
theorem sc__law_signs : FnScope ["_law_draw"] ["_law_draw"] (defScope (top 31)) := ⟨rfl, rfl, rfl, by decide +kernel, rfl, by decide +kernel, by decide +kernel⟩
theorem lk__law_signs {P : Program} {w : World} {k : Kx} {mg : Str → Option Value} {base : Heap} {f : Addr} {fd : FuncData} (B : Blt mg) (F__law_pick : FnIs P w k.K mg base 3 "_law_pick" ["_law_draw", "_law_some"] (spM k m__law_pick)) (F : FunD k.K "_law_signs" "_law_signs" (defArgs (top 31)) (defBody (top 31)) (defScope (top 31)) [] [] f fd) : FnOk P w k.K mg base (L2.CX P w) 4 f fd ["_law_draw"] (spM k m__law_signs) := by
  refine F.ok sc__law_signs (fun vs H Q E h => (body_ok (N := ["_law_draw"]) (ar := 1) (t := t__law_signs k) (b := b__law_signs) (fun E => s__law_signs  E) h (by decide)).1) (fun cdv A outer s H vs Q E hr h => ⟨t__law_signs k E, ?_, (body_ok (N := ["_law_draw"]) (ar := 1) (t := t__law_signs k) (b := b__law_signs) (fun E => s__law_signs  E) h (by decide)).2⟩)
  have nd := sc__law_signs.nd
  have hu : A.units + 3 + 100 < cLine := by have := hr.un; have e : (A.deeper (envOfC "_law_signs" (defScope (top 31)) s.heap.objs.size f cdv)).units = A.units + 3 := rfl; omega
  have hu1 : A.units + 3 + 1 < cLine := by omega
  have hu10 : A.units + 3 + 10 < cLine := by omega
  have hdp : (A.deeper (envOfC "_law_signs" (defScope (top 31)) s.heap.objs.size f cdv)).depth < recursionLimit := by have := hr.dp; omega
  have hu64 : A.units + 3 + 64 < cLine := by omega
  exact (pss_one (ps_ret (pe_fn F__law_pick (hr.mono (by decide)) rfl (passes_call (takes_of rfl rfl rfl rfl) (fun _ _ _ _ h => h)) (pa_cons (pv 0) (pa_cons (pe_lst (pa_cons pe_str (pa_cons pe_str (pa_cons pe_str (pa_cons pe_str (pa_cons pe_str (pa_cons pe_str (pa_cons pe_str (pa_cons pe_str (pa_cons pe_str (pa_cons pe_str pa_nil))))))))))) pa_nil)))))
theorem sc__law_letters : FnScope ["_law_draw", "_law_signs_here", "_law_many", "_law_lap"] ["_law_draw", "_law_signs_here", "_law_many"] (defScope (top 32)) := ⟨rfl, rfl, rfl, by decide +kernel, rfl, by decide +kernel, by decide +kernel⟩
theorem lk__law_letters {P : Program} {w : World} {k : Kx} {mg : Str → Option Value} {base : Heap} {f : Addr} {fd : FuncData} (B : Blt mg) (F__law_pick : FnIs P w k.K mg base 3 "_law_pick" ["_law_draw", "_law_some"] (spM k m__law_pick)) (F : FunD k.K "_law_letters" "_law_letters" (defArgs (top 32)) (defBody (top 32)) (defScope (top 32)) [] [] f fd) : FnOk P w k.K mg base (L2.CX P w) 4 f fd ["_law_draw", "_law_signs_here", "_law_many"] (spM k m__law_letters) := by
  refine F.ok sc__law_letters (fun vs H Q E h => (body_ok (N := ["_law_draw", "_law_signs_here", "_law_many", "_law_lap"]) (ar := 3) (t := t__law_letters k) (b := b__law_letters) (fun E => s__law_letters  E) h (by decide)).1) (fun cdv A outer s H vs Q E hr h => ⟨t__law_letters k E, ?_, (body_ok (N := ["_law_draw", "_law_signs_here", "_law_many", "_law_lap"]) (ar := 3) (t := t__law_letters k) (b := b__law_letters) (fun E => s__law_letters  E) h (by decide)).2⟩)
  have nd := sc__law_letters.nd
  have hu : A.units + 3 + 100 < cLine := by have := hr.un; have e : (A.deeper (envOfC "_law_letters" (defScope (top 32)) s.heap.objs.size f cdv)).units = A.units + 3 := rfl; omega
  have hu1 : A.units + 3 + 1 < cLine := by omega
  have hu10 : A.units + 3 + 10 < cLine := by omega
  have hdp : (A.deeper (envOfC "_law_letters" (defScope (top 32)) s.heap.objs.size f cdv)).depth < recursionLimit := by have := hr.dp; omega
  have hu64 : A.units + 3 + 64 < cLine := by omega
  exact (pss_one (ps_ret (pe_join pe_str (pe_lc (own := [("_law_lap", 3)]) rfl nd (pi_range1 rfl B.z_range (pa_cons (pv 2) pa_nil)) (blkOk_by rfl) (fun _ _ _ _ _ => (pg_name (i := 3) nd rfl (by first | exact Or.inl rfl | exact Or.inr rfl))) (fun _ _ _ _ _ => pts_nil) (fun _ _ _ _ _ => (pe_fn F__law_pick (hr.mono (by decide)) rfl passL (pa_cons (pv 0) (pa_cons (pv 1) pa_nil))))))))
theorem sc__law_odd : FnScope ["_law_draw", "_law_some"] ["_law_draw"] (defScope (top 34)) := ⟨rfl, rfl, rfl, by decide +kernel, rfl, by decide +kernel, by decide +kernel⟩
theorem lk__law_odd {P : Program} {w : World} {k : Kx} {mg : Str → Option Value} {base : Heap} {f : Addr} {fd : FuncData} (B : Blt mg) (F__law_pick : FnIs P w k.K mg base 3 "_law_pick" ["_law_draw", "_law_some"] (spM k m__law_pick)) (F : FunD k.K "_law_odd" "_law_odd" (defArgs (top 34)) (defBody (top 34)) (defScope (top 34)) [] [] f fd) : FnOk P w k.K mg base (L2.CX P w) 4 f fd ["_law_draw"] (spM k m__law_odd) := by
  refine F.ok sc__law_odd (fun vs H Q E h => (body_ok (N := ["_law_draw", "_law_some"]) (ar := 1) (t := t__law_odd k) (b := b__law_odd) (fun E => s__law_odd  E) h (by decide)).1) (fun cdv A outer s H vs Q E hr h => ⟨t__law_odd k E, ?_, (body_ok (N := ["_law_draw", "_law_some"]) (ar := 1) (t := t__law_odd k) (b := b__law_odd) (fun E => s__law_odd  E) h (by decide)).2⟩)
  have nd := sc__law_odd.nd
  have hu : A.units + 3 + 100 < cLine := by have := hr.un; have e : (A.deeper (envOfC "_law_odd" (defScope (top 34)) s.heap.objs.size f cdv)).units = A.units + 3 := rfl; omega
  have hu1 : A.units + 3 + 1 < cLine := by omega
  have hu10 : A.units + 3 + 10 < cLine := by omega
  have hdp : (A.deeper (envOfC "_law_odd" (defScope (top 34)) s.heap.objs.size f cdv)).depth < recursionLimit := by have := hr.dp; omega
  have hu64 : A.units + 3 + 64 < cLine := by omega
  exact (pss_cons (ps_set (i := 1) nd rfl (by first | exact Or.inl rfl | exact Or.inr rfl) (pe_lst (pa_cons pe_non (pa_cons pe_bl (pa_cons pe_bl (pa_cons (pe_un un_neg pe_int) (pa_cons (pe_op op_sub (pe_op op_pow pe_int pe_int) pe_int) (pa_cons pe_str (pa_cons pe_str (pa_cons pe_str (pa_cons pe_str (pa_cons pe_str (pa_cons pe_str (pa_cons (pe_tup pa_nil) (pa_cons (pe_lst pa_nil) (pa_cons pe_dnewK (pa_cons (pe_tup (pa_cons pe_str pa_nil)) (pa_cons (pe_lst (pa_cons pe_str pa_nil)) pa_nil)))))))))))))))))) (pss_one (ps_ret (pe_fn F__law_pick (hr.mono (by decide)) rfl (passes_call (takes_of rfl rfl rfl rfl) (fun _ _ _ _ h => h)) (pa_cons (pv 0) (pa_cons (pe_op or_add (pv 1) (pe_lst (pa_cons (pe_disp (pps_cons pe_str pe_int pps_nil) (by rfl) (by rfl) (fun z => by cases z) (by decide)) (pa_cons (pe_tup (pa_cons pe_non pa_nil)) (pa_cons pe_str (pa_cons (pe_tup (pa_cons pe_str (pa_cons pe_str pa_nil))) (pa_cons (pe_lst (pa_cons (pe_lst (pa_cons pe_str pa_nil)) pa_nil)) (pa_cons pe_str pa_nil)))))))) pa_nil))))))
theorem sc_Bench__init : FnScope ["self", "length"] ["self", "length"] (defScope (mtd 24 0)) := ⟨rfl, rfl, rfl, by decide +kernel, rfl, by decide +kernel, by decide +kernel⟩
theorem lk_Bench__init {P : Program} {w : World} {k : Kx} {mg : Str → Option Value} {base : Heap} {f : Addr} {fd : FuncData} (B : Blt mg) (F_need_length : FnIs P w k.K mg base 3 "need_length" ["length"] (spM k m_need_length)) (hCT : CTab k CTB) (F : FunD k.K "__init__" "Bench.__init__" (defArgs (mtd 24 0)) (defBody (mtd 24 0)) (defScope (mtd 24 0)) [] [] f fd) : FnOk P w k.K mg base (L2.CX P w) 4 f fd ["self", "length"] (spM k m_Bench__init) := by
  refine F.ok sc_Bench__init (fun vs H Q E h => (body_ok (N := ["self", "length"]) (ar := 2) (t := t_Bench__init k) (b := b_Bench__init) (fun E => s_Bench__init hCT E) h (by decide)).1) (fun cdv A outer s H vs Q E hr h => ⟨t_Bench__init k E, ?_, (body_ok (N := ["self", "length"]) (ar := 2) (t := t_Bench__init k) (b := b_Bench__init) (fun E => s_Bench__init hCT E) h (by decide)).2⟩)
  have nd := sc_Bench__init.nd
  have hu : A.units + 3 + 100 < cLine := by have := hr.un; have e : (A.deeper (envOfC "Bench.__init__" (defScope (mtd 24 0)) s.heap.objs.size f cdv)).units = A.units + 3 := rfl; omega
  have hu1 : A.units + 3 + 1 < cLine := by omega
  have hu10 : A.units + 3 + 10 < cLine := by omega
  have hdp : (A.deeper (envOfC "Bench.__init__" (defScope (mtd 24 0)) s.heap.objs.size f cdv)).depth < recursionLimit := by have := hr.dp; omega
  have hu64 : A.units + 3 + 64 < cLine := by omega
  exact (pss_cons (ps_expr (pe_fn F_need_length (hr.mono (by decide)) rfl (passes_call (takes_of rfl rfl rfl rfl) (fun _ _ _ _ h => h)) (pa_cons (pv 1) pa_nil))) (pss_cons (ps_fld (pv 0) (pv 1) rfl) (pss_cons (ps_fld (pv 0) (pe_tup pa_nil) rfl) (pss_cons (ps_fld (pv 0) pe_dnewK rfl) (pss_one (ps_fld (pv 0) pe_non rfl))))))
theorem sc_Bench__need_read : FnScope ["self", "word"] ["self", "word"] (defScope (mtd 24 10)) := ⟨rfl, rfl, rfl, by decide +kernel, rfl, by decide +kernel, by decide +kernel⟩
theorem lk_Bench__need_read {P : Program} {w : World} {k : Kx} {mg : Str → Option Value} {base : Heap} {f : Addr} {fd : FuncData} (B : Blt mg) (F_need_word : FnIs P w k.K mg base 3 "need_word" ["word"] (spM k m_need_word)) (x_BadWord : ExcIs k.K mg "BadWord" (k.ca "BadWord")) (hCT : CTab k CTB) (F : FunD k.K "need_read" "Bench.need_read" (defArgs (mtd 24 10)) (defBody (mtd 24 10)) (defScope (mtd 24 10)) [] [] f fd) : FnOk P w k.K mg base (L2.CX P w) 4 f fd ["self", "word"] (spM k m_Bench__need_read) := by
  refine F.ok sc_Bench__need_read (fun vs H Q E h => (body_ok (N := ["self", "word"]) (ar := 2) (t := t_Bench__need_read k) (b := b_Bench__need_read) (fun E => s_Bench__need_read hCT E) h (by decide)).1) (fun cdv A outer s H vs Q E hr h => ⟨t_Bench__need_read k E, ?_, (body_ok (N := ["self", "word"]) (ar := 2) (t := t_Bench__need_read k) (b := b_Bench__need_read) (fun E => s_Bench__need_read hCT E) h (by decide)).2⟩)
  have nd := sc_Bench__need_read.nd
  have hu : A.units + 3 + 100 < cLine := by have := hr.un; have e : (A.deeper (envOfC "Bench.need_read" (defScope (mtd 24 10)) s.heap.objs.size f cdv)).units = A.units + 3 := rfl; omega
  have hu1 : A.units + 3 + 1 < cLine := by omega
  have hu10 : A.units + 3 + 10 < cLine := by omega
  have hdp : (A.deeper (envOfC "Bench.need_read" (defScope (mtd 24 10)) s.heap.objs.size f cdv)).depth < recursionLimit := by have := hr.dp; omega
  have hu64 : A.units + 3 + 64 < cLine := by omega
  exact (pss_cons (ps_expr (pe_fn F_need_word (hr.mono (by decide)) rfl (passes_call (takes_of rfl rfl rfl rfl) (fun _ _ _ _ h => h)) (pa_cons (pv 1) pa_nil))) (pss_one (ps_if (pt_cmpR op_le (pe_callB cr_len rfl B.z_len (by decide +kernel) (pa_cons (pv 1) pa_nil)) (pe_fld (pv 0) rfl) (nomark _)) (pss_one (ps_raise rfl (takes_of rfl rfl rfl rfl) (pmk_exc x_BadWord (by rfl)))) pss_nil)))
theorem sc__law_fresh_read : FnScope ["_law_draw", "_law_length"] ["_law_draw", "_law_length"] (defScope (top 35)) := ⟨rfl, rfl, rfl, by decide +kernel, rfl, by decide +kernel, by decide +kernel⟩
theorem lk__law_fresh_read {P : Program} {w : World} {k : Kx} {mg : Str → Option Value} {base : Heap} {f : Addr} {fd : FuncData} (B : Blt mg) (F__law_letters : FnIs P w k.K mg base 4 "_law_letters" ["_law_draw", "_law_signs_here", "_law_many"] (spM k m__law_letters)) (F__law_take : FnIs P w k.K mg base 2 "_law_take" ["_law_draw", "_law_total"] (spM k m_take)) (F__law_signs : FnIs P w k.K mg base 4 "_law_signs" ["_law_draw"] (spM k m__law_signs)) (F : FunD k.K "_law_fresh_read" "_law_fresh_read" (defArgs (top 35)) (defBody (top 35)) (defScope (top 35)) [] [] f fd) : FnOk P w k.K mg base (L2.CX P w) 5 f fd ["_law_draw", "_law_length"] (spM k m__law_fresh_read) := by
  refine F.ok sc__law_fresh_read (fun vs H Q E h => (body_ok (N := ["_law_draw", "_law_length"]) (ar := 2) (t := t__law_fresh_read k) (b := b__law_fresh_read) (fun E => s__law_fresh_read  E) h (by decide)).1) (fun cdv A outer s H vs Q E hr h => ⟨t__law_fresh_read k E, ?_, (body_ok (N := ["_law_draw", "_law_length"]) (ar := 2) (t := t__law_fresh_read k) (b := b__law_fresh_read) (fun E => s__law_fresh_read  E) h (by decide)).2⟩)
  have nd := sc__law_fresh_read.nd
  have hu : A.units + 3 + 100 < cLine := by have := hr.un; have e : (A.deeper (envOfC "_law_fresh_read" (defScope (top 35)) s.heap.objs.size f cdv)).units = A.units + 3 := rfl; omega
  have hu1 : A.units + 3 + 1 < cLine := by omega
  have hu10 : A.units + 3 + 10 < cLine := by omega
  have hdp : (A.deeper (envOfC "_law_fresh_read" (defScope (top 35)) s.heap.objs.size f cdv)).depth < recursionLimit := by have := hr.dp; omega
  have hu64 : A.units + 3 + 64 < cLine := by omega
  exact (pss_one (ps_ret (pe_fn F__law_letters (hr.mono (by decide)) rfl (passes_call (takes_of rfl rfl rfl rfl) (fun _ _ _ _ h => h)) (pa_cons (pv 0) (pa_cons (pe_fn F__law_signs (hr.mono (by decide)) rfl (passes_call (takes_of rfl rfl rfl rfl) (fun _ _ _ _ h => h)) (pa_cons (pv 0) pa_nil)) (pa_cons (pe_op or_add (pe_op or_add (pv 1) pe_int) (pe_fn F__law_take (hr.mono (by decide)) rfl (passes_call (takes_of rfl rfl rfl rfl) (fun _ _ _ _ h => h)) (pa_cons (pv 0) (pa_cons pe_int pa_nil)))) pa_nil))))))
theorem sc__law_bent : FnScope ["_law_draw", "_law_account", "_law_deed", "_law_odd_here", "_law_short", "_law_number", "_law_wrong"] ["_law_draw", "_law_account", "_law_deed"] (defScope (top 45)) := ⟨rfl, rfl, rfl, by decide +kernel, rfl, by decide +kernel, by decide +kernel⟩
theorem lk__law_bent {P : Program} {w : World} {k : Kx} {mg : Str → Option Value} {base : Heap} {f : Addr} {fd : FuncData} (B : Blt mg) (F__law_letters : FnIs P w k.K mg base 4 "_law_letters" ["_law_draw", "_law_signs_here", "_law_many"] (spM k m__law_letters)) (F__law_odd : FnIs P w k.K mg base 4 "_law_odd" ["_law_draw"] (spM k m__law_odd)) (F__law_pick : FnIs P w k.K mg base 3 "_law_pick" ["_law_draw", "_law_some"] (spM k m__law_pick)) (F : FunD k.K "_law_bent" "_law_bent" (defArgs (top 45)) (defBody (top 45)) (defScope (top 45)) [] [] f fd) : FnOk P w k.K mg base (L2.CX P w) 5 f fd ["_law_draw", "_law_account", "_law_deed"] (spM k m__law_bent) := by
  refine F.ok sc__law_bent (fun vs H Q E h => (body_ok (N := ["_law_draw", "_law_account", "_law_deed", "_law_odd_here", "_law_short", "_law_number", "_law_wrong"]) (ar := 3) (t := t__law_bent k) (b := b__law_bent) (fun E => s__law_bent  E) h (by decide)).1) (fun cdv A outer s H vs Q E hr h => ⟨t__law_bent k E, ?_, (body_ok (N := ["_law_draw", "_law_account", "_law_deed", "_law_odd_here", "_law_short", "_law_number", "_law_wrong"]) (ar := 3) (t := t__law_bent k) (b := b__law_bent) (fun E => s__law_bent  E) h (by decide)).2⟩)
  have nd := sc__law_bent.nd
  have hu : A.units + 3 + 100 < cLine := by have := hr.un; have e : (A.deeper (envOfC "_law_bent" (defScope (top 45)) s.heap.objs.size f cdv)).units = A.units + 3 := rfl; omega
  have hu1 : A.units + 3 + 1 < cLine := by omega
  have hu10 : A.units + 3 + 10 < cLine := by omega
  have hdp : (A.deeper (envOfC "_law_bent" (defScope (top 45)) s.heap.objs.size f cdv)).depth < recursionLimit := by have := hr.dp; omega
  have hu64 : A.units + 3 + 64 < cLine := by omega
  exact (pss_cons (ps_if (pt_cmpR or_lt (pe_callB cr_len rfl B.z_len (by decide +kernel) (pa_cons (pv 2) pa_nil)) pe_int (nomark _)) (pss_one (ps_ret (pv 2))) pss_nil) (pss_cons (ps_par rfl nd rfl rfl (by decide) rfl rfl (pa_cons (pe_fn F__law_odd (hr.mono (by decide)) rfl (passes_call (takes_of rfl rfl rfl rfl) (fun _ _ _ _ h => h)) (pa_cons (pv 0) pa_nil)) (pa_cons (pe_fn F__law_letters (hr.mono (by decide)) rfl (passes_call (takes_of rfl rfl rfl rfl) (fun _ _ _ _ h => h)) (pa_cons (pv 0) (pa_cons pe_str (pa_cons (pe_ix (ix_any hu) (pv 1) pe_str (fun _ _ => rfl)) pa_nil)))) pa_nil)) rfl) (pss_cons (ps_if (pt_cmpR (or_eq hu) (pe_ix (ix_any hu) (pv 2) pe_int (fun _ _ => rfl)) pe_str (nomark _)) (pss_one (ps_ret (pe_tup (pa_cons pe_str (pa_cons (pe_fn F__law_pick (hr.mono (by decide)) rfl (passes_call (takes_of rfl rfl rfl rfl) (fun _ _ _ _ h => h)) (pa_cons (pv 0) (pa_cons (pe_lst (pa_cons (pv 3) (pa_cons (pv 4) (pa_cons pe_str (pa_cons pe_str pa_nil))))) pa_nil))) pa_nil))))) pss_nil) (pss_cons (ps_set (i := 5) nd rfl (by first | exact Or.inl rfl | exact Or.inr rfl) (pe_fn F__law_pick (hr.mono (by decide)) rfl (passes_call (takes_of rfl rfl rfl rfl) (fun _ _ _ _ h => h)) (pa_cons (pv 0) (pa_cons (pe_lst (pa_cons (pv 3) (pa_cons pe_bl (pa_cons pe_bl (pa_cons pe_int (pa_cons (pe_un un_neg pe_int) (pa_cons (pe_callTy cr_strI rfl B.z_str (by decide +kernel) (pa_cons (pe_ix (ix_any hu) (pv 2) pe_int (fun _ _ => rfl)) pa_nil)) pa_nil))))))) pa_nil)))) (pss_cons (ps_if (pt_cmpR (or_eq hu) (pe_ix (ix_any hu) (pv 2) pe_int (fun _ _ => rfl)) pe_str (nomark _)) (pss_one (ps_ret (pe_tup (pa_cons pe_str (pa_cons (pv 5) pa_nil))))) pss_nil) (pss_cons (ps_set (i := 6) nd rfl (by first | exact Or.inl rfl | exact Or.inr rfl) (pe_fn F__law_pick (hr.mono (by decide)) rfl (passes_call (takes_of rfl rfl rfl rfl) (fun _ _ _ _ h => h)) (pa_cons (pv 0) (pa_cons (pe_lst (pa_cons (pv 3) (pa_cons (pv 4) pa_nil))) pa_nil)))) (pss_one (ps_ret (pe_fn F__law_pick (hr.mono (by decide)) rfl (passes_call (takes_of rfl rfl rfl rfl) (fun _ _ _ _ h => h)) (pa_cons (pv 0) (pa_cons (pe_lst (pa_cons (pe_tup (pa_cons pe_str (pa_cons (pv 5) (pa_cons (pe_ix (ix_any hu) (pv 2) pe_int (fun _ _ => rfl)) pa_nil)))) (pa_cons (pe_tup (pa_cons pe_str (pa_cons (pe_ix (ix_any hu) (pv 2) pe_int (fun _ _ => rfl)) (pa_cons (pv 6) pa_nil)))) (pa_cons (pe_tup (pa_cons pe_str (pa_cons (pv 5) (pa_cons (pv 3) pa_nil)))) pa_nil)))) pa_nil)))))))))))
theorem sc_Bench__add : FnScope ["self", "word", "number", "deed"] ["self", "word"] (defScope (mtd 24 12)) := ⟨rfl, rfl, rfl, by decide +kernel, rfl, by decide +kernel, by decide +kernel⟩
theorem lk_Bench__add {P : Program} {w : World} {k : Kx} {mg : Str → Option Value} {base : Heap} {f : Addr} {fd : FuncData} (B : Blt mg) (M_Bench__need_read : MtIs P w k.K mg base 4 (k.ca "Bench") "need_read" ["self", "word"] (spM k m_Bench__need_read)) (M_Bench__do : MtIs P w k.K mg base 2 (k.ca "Bench") "do" ["self", "deed"] (spM k m_Bench__do)) (XI_TooMany : ExI P w k mg base "TooMany" "limit") (g_MOST_READS : ∃ t, mg "MOST_READS" = some (.int 20 t)) (g_ADD : ∃ t, mg "ADD" = some (.str "add" t)) (hCT : CTab k CTB) (F : FunD k.K "add" "Bench.add" (defArgs (mtd 24 12)) (defBody (mtd 24 12)) (defScope (mtd 24 12)) [] [] f fd) : FnOk P w k.K mg base (L2.CX P w) 5 f fd ["self", "word"] (spM k m_Bench__add) := by
  refine F.ok sc_Bench__add (fun vs H Q E h => (body_ok (N := ["self", "word", "number", "deed"]) (ar := 2) (t := t_Bench__add k) (b := b_Bench__add) (fun E => s_Bench__add hCT E) h (by decide)).1) (fun cdv A outer s H vs Q E hr h => ⟨t_Bench__add k E, ?_, (body_ok (N := ["self", "word", "number", "deed"]) (ar := 2) (t := t_Bench__add k) (b := b_Bench__add) (fun E => s_Bench__add hCT E) h (by decide)).2⟩)
  have nd := sc_Bench__add.nd
  have hu : A.units + 3 + 100 < cLine := by have := hr.un; have e : (A.deeper (envOfC "Bench.add" (defScope (mtd 24 12)) s.heap.objs.size f cdv)).units = A.units + 3 := rfl; omega
  have hu1 : A.units + 3 + 1 < cLine := by omega
  have hu10 : A.units + 3 + 10 < cLine := by omega
  have hdp : (A.deeper (envOfC "Bench.add" (defScope (mtd 24 12)) s.heap.objs.size f cdv)).depth < recursionLimit := by have := hr.dp; omega
  have hu64 : A.units + 3 + 64 < cLine := by omega
  exact (pss_cons (ps_expr (pe_mt M_Bench__need_read (hr.mono (by decide)) (passes_call (takes_of rfl rfl rfl rfl) (fun _ _ _ _ h => h)) (pv 0) (pa_cons (pv 1) pa_nil))) (pss_cons (ps_if (pt_cmpR op_ge (pe_callB cr_len rfl B.z_len (by decide +kernel) (pa_cons (pe_fld (pv 0) rfl) pa_nil)) (pe_gint rfl g_MOST_READS) (nomark _)) (pss_one (ps_raise rfl (takes_of rfl rfl rfl rfl) (pmk_exi rfl XI_TooMany (hr.mono (by decide)) (passes_call (takes_of rfl rfl rfl rfl) (fun _ _ _ _ h => h.elim)) rfl (pa_cons (pe_gint rfl g_MOST_READS) pa_nil)))) pss_nil) (pss_cons (ps_set (i := 2) nd rfl (by first | exact Or.inl rfl | exact Or.inr rfl) (pe_callB cr_len rfl B.z_len (by decide +kernel) (pa_cons (pe_lc (own := [("deed", 3)]) rfl nd (pi_anyD (pe_fld (pv 0) rfl)) (blkOk_by rfl) (fun _ _ _ _ _ => (pg_name (i := 3) nd rfl (by first | exact Or.inl rfl | exact Or.inr rfl))) (fun _ _ _ _ _ => (pts_one (pt_cmpR (or_eq hu) (pe_ix (ix_any hu) (pv 3) pe_int (fun _ _ => rfl)) (pe_gstr rfl g_ADD) (nomark _)))) (fun _ _ _ _ _ => (pv 3))) pa_nil))) (pss_cons (ps_expr (pe_mt M_Bench__do (hr.mono (by decide)) (passes_call (takes_of rfl rfl rfl rfl) (fun _ _ _ _ h => h)) (pv 0) (pa_cons (pe_tup (pa_cons (pe_gstr rfl g_ADD) (pa_cons (pv 1) pa_nil))) pa_nil))) (pss_one (ps_ret (pv 2)))))))
theorem sc_Bench__mend : FnScope ["self", "number", "word"] ["self", "number", "word"] (defScope (mtd 24 14)) := ⟨rfl, rfl, rfl, by decide +kernel, rfl, by decide +kernel, by decide +kernel⟩
theorem lk_Bench__mend {P : Program} {w : World} {k : Kx} {mg : Str → Option Value} {base : Heap} {f : Addr} {fd : FuncData} (B : Blt mg) (M_Bench__need_number : MtIs P w k.K mg base 2 (k.ca "Bench") "need_number" ["self", "number"] (spM k m_Bench__need_number)) (M_Bench__need_read : MtIs P w k.K mg base 4 (k.ca "Bench") "need_read" ["self", "word"] (spM k m_Bench__need_read)) (M_Bench__do : MtIs P w k.K mg base 2 (k.ca "Bench") "do" ["self", "deed"] (spM k m_Bench__do)) (g_MEND : ∃ t, mg "MEND" = some (.str "mend" t)) (F : FunD k.K "mend" "Bench.mend" (defArgs (mtd 24 14)) (defBody (mtd 24 14)) (defScope (mtd 24 14)) [] [] f fd) : FnOk P w k.K mg base (L2.CX P w) 5 f fd ["self", "number", "word"] (spM k m_Bench__mend) := by
  refine F.ok sc_Bench__mend (fun vs H Q E h => (body_ok (N := ["self", "number", "word"]) (ar := 3) (t := t_Bench__mend k) (b := b_Bench__mend) (fun E => s_Bench__mend  E) h (by decide)).1) (fun cdv A outer s H vs Q E hr h => ⟨t_Bench__mend k E, ?_, (body_ok (N := ["self", "number", "word"]) (ar := 3) (t := t_Bench__mend k) (b := b_Bench__mend) (fun E => s_Bench__mend  E) h (by decide)).2⟩)
  have nd := sc_Bench__mend.nd
  have hu : A.units + 3 + 100 < cLine := by have := hr.un; have e : (A.deeper (envOfC "Bench.mend" (defScope (mtd 24 14)) s.heap.objs.size f cdv)).units = A.units + 3 := rfl; omega
  have hu1 : A.units + 3 + 1 < cLine := by omega
  have hu10 : A.units + 3 + 10 < cLine := by omega
  have hdp : (A.deeper (envOfC "Bench.mend" (defScope (mtd 24 14)) s.heap.objs.size f cdv)).depth < recursionLimit := by have := hr.dp; omega
  have hu64 : A.units + 3 + 64 < cLine := by omega
  exact (pss_cons (ps_expr (pe_mt M_Bench__need_number (hr.mono (by decide)) (passes_call (takes_of rfl rfl rfl rfl) (fun _ _ _ _ h => h)) (pv 0) (pa_cons (pv 1) pa_nil))) (pss_cons (ps_expr (pe_mt M_Bench__need_read (hr.mono (by decide)) (passes_call (takes_of rfl rfl rfl rfl) (fun _ _ _ _ h => h)) (pv 0) (pa_cons (pv 2) pa_nil))) (pss_one (ps_expr (pe_mt M_Bench__do (hr.mono (by decide)) (passes_call (takes_of rfl rfl rfl rfl) (fun _ _ _ _ h => h)) (pv 0) (pa_cons (pe_tup (pa_cons (pe_gstr rfl g_MEND) (pa_cons (pv 1) (pa_cons (pv 2) pa_nil)))) pa_nil))))))
theorem sc__law_do : FnScope ["_law_bench", "_law_deed"] ["_law_bench", "_law_deed"] (defScope (top 41)) := ⟨rfl, rfl, rfl, by decide +kernel, rfl, by decide +kernel, by decide +kernel⟩
theorem lk__law_do {P : Program} {w : World} {k : Kx} {mg : Str → Option Value} {base : Heap} {f : Addr} {fd : FuncData} (B : Blt mg) (M_Bench__add : MtIs P w k.K mg base 5 (k.ca "Bench") "add" ["self", "word"] (spM k m_Bench__add)) (M_Bench__strike : MtIs P w k.K mg base 3 (k.ca "Bench") "strike" ["self", "number"] (spM k m_Bench__strike)) (M_Bench__undo : MtIs P w k.K mg base 2 (k.ca "Bench") "undo" ["self"] (spM k m_Bench__undo)) (M_Bench__mend : MtIs P w k.K mg base 5 (k.ca "Bench") "mend" ["self", "number", "word"] (spM k m_Bench__mend)) (F : FunD k.K "_law_do" "_law_do" (defArgs (top 41)) (defBody (top 41)) (defScope (top 41)) [] [] f fd) : FnOk P w k.K mg base (L2.CX P w) 6 f fd ["_law_bench", "_law_deed"] (spM k m__law_do) := by
  refine F.ok sc__law_do (fun vs H Q E h => (body_ok (N := ["_law_bench", "_law_deed"]) (ar := 2) (t := t__law_do k) (b := b__law_do) (fun E => s__law_do  E) h (by decide)).1) (fun cdv A outer s H vs Q E hr h => ⟨t__law_do k E, ?_, (body_ok (N := ["_law_bench", "_law_deed"]) (ar := 2) (t := t__law_do k) (b := b__law_do) (fun E => s__law_do  E) h (by decide)).2⟩)
  have nd := sc__law_do.nd
  have hu : A.units + 3 + 100 < cLine := by have := hr.un; have e : (A.deeper (envOfC "_law_do" (defScope (top 41)) s.heap.objs.size f cdv)).units = A.units + 3 := rfl; omega
  have hu1 : A.units + 3 + 1 < cLine := by omega
  have hu10 : A.units + 3 + 10 < cLine := by omega
  have hdp : (A.deeper (envOfC "_law_do" (defScope (top 41)) s.heap.objs.size f cdv)).depth < recursionLimit := by have := hr.dp; omega
  have hu64 : A.units + 3 + 64 < cLine := by omega
  exact (pss_cons (ps_if (pt_cmpR (or_eq hu) (pe_ix (ix_any hu) (pv 1) pe_int (fun _ _ => rfl)) pe_str (nomark _)) (pss_one (ps_ret (pe_mt M_Bench__add (hr.mono (by decide)) (passes_call (takes_of rfl rfl rfl rfl) (fun _ _ _ _ h => h)) (pv 0) (pa_cons (pe_ix (ix_any hu) (pv 1) pe_int (fun _ _ => rfl)) pa_nil)))) pss_nil) (pss_cons (ps_if (pt_cmpR (or_eq hu) (pe_ix (ix_any hu) (pv 1) pe_int (fun _ _ => rfl)) pe_str (nomark _)) (pss_one (ps_ret (pe_mt M_Bench__strike (hr.mono (by decide)) (passes_call (takes_of rfl rfl rfl rfl) (fun _ _ _ _ h => h)) (pv 0) (pa_cons (pe_ix (ix_any hu) (pv 1) pe_int (fun _ _ => rfl)) pa_nil)))) pss_nil) (pss_one (ps_ret (pe_ifExp (pt_cmpR (or_eq hu) (pe_ix (ix_any hu) (pv 1) pe_int (fun _ _ => rfl)) pe_str (nomark _)) (pe_mt0 M_Bench__undo (hr.mono (by decide)) (passes_call (takes_of rfl rfl rfl rfl) (fun _ _ _ _ h => h)) (pv 0)) (pe_mt M_Bench__mend (hr.mono (by decide)) (passes_call (takes_of rfl rfl rfl rfl) (fun _ _ _ _ h => h)) (pv 0) (pa_cons (pe_ix (ix_any hu) (pv 1) pe_int (fun _ _ => rfl)) (pa_cons (pe_ix (ix_any hu) (pv 1) pe_int (fun _ _ => rfl)) pa_nil))))))))
theorem sc__law_drawn_deed : FnScope ["_law_draw", "_law_account", "_law_word", "_law_some", "_law_number"] ["_law_draw", "_law_account"] (defScope (top 42)) := ⟨rfl, rfl, rfl, by decide +kernel, rfl, by decide +kernel, by decide +kernel⟩
theorem lk__law_drawn_deed {P : Program} {w : World} {k : Kx} {mg : Str → Option Value} {base : Heap} {f : Addr} {fd : FuncData} (B : Blt mg) (F__law_pick : FnIs P w k.K mg base 3 "_law_pick" ["_law_draw", "_law_some"] (spM k m__law_pick)) (F__law_take : FnIs P w k.K mg base 2 "_law_take" ["_law_draw", "_law_total"] (spM k m_take)) (F__law_fresh_read : FnIs P w k.K mg base 5 "_law_fresh_read" ["_law_draw", "_law_length"] (spM k m__law_fresh_read)) (F : FunD k.K "_law_drawn_deed" "_law_drawn_deed" (defArgs (top 42)) (defBody (top 42)) (defScope (top 42)) [] [] f fd) : FnOk P w k.K mg base (L2.CX P w) 6 f fd ["_law_draw", "_law_account"] (spM k m__law_drawn_deed) := by
  refine F.ok sc__law_drawn_deed (fun vs H Q E h => (body_ok (N := ["_law_draw", "_law_account", "_law_word", "_law_some", "_law_number"]) (ar := 2) (t := t__law_drawn_deed k) (b := b__law_drawn_deed) (fun E => s__law_drawn_deed  E) h (by decide)).1) (fun cdv A outer s H vs Q E hr h => ⟨t__law_drawn_deed k E, ?_, (body_ok (N := ["_law_draw", "_law_account", "_law_word", "_law_some", "_law_number"]) (ar := 2) (t := t__law_drawn_deed k) (b := b__law_drawn_deed) (fun E => s__law_drawn_deed  E) h (by decide)).2⟩)
  have nd := sc__law_drawn_deed.nd
  have hu : A.units + 3 + 100 < cLine := by have := hr.un; have e : (A.deeper (envOfC "_law_drawn_deed" (defScope (top 42)) s.heap.objs.size f cdv)).units = A.units + 3 := rfl; omega
  have hu1 : A.units + 3 + 1 < cLine := by omega
  have hu10 : A.units + 3 + 10 < cLine := by omega
  have hdp : (A.deeper (envOfC "_law_drawn_deed" (defScope (top 42)) s.heap.objs.size f cdv)).depth < recursionLimit := by have := hr.dp; omega
  have hu64 : A.units + 3 + 64 < cLine := by omega
  exact (pss_cons (ps_set (i := 2) nd rfl (by first | exact Or.inl rfl | exact Or.inr rfl) (pe_fn F__law_pick (hr.mono (by decide)) rfl (passes_call (takes_of rfl rfl rfl rfl) (fun _ _ _ _ h => h)) (pa_cons (pv 0) (pa_cons (pe_lst (pa_cons pe_str (pa_cons pe_str (pa_cons pe_str (pa_cons pe_str (pa_cons pe_str (pa_cons pe_str pa_nil))))))) pa_nil)))) (pss_cons (ps_set (i := 3) nd rfl (by first | exact Or.inl rfl | exact Or.inr rfl) (pe_op or_add (pe_callB (cr_sortDI rfl) rfl B.z_sorted (by decide +kernel) (pa_cons (pe_ix (ix_any hu) (pv 1) pe_str (fun _ _ => rfl)) pa_nil)) (pe_lst (pa_cons (pe_fn F__law_take (hr.mono (by decide)) rfl (passes_call (takes_of rfl rfl rfl rfl) (fun _ _ _ _ h => h)) (pa_cons (pv 0) (pa_cons pe_int pa_nil))) pa_nil)))) (pss_cons (ps_if (pt_cmpR (or_eq hu) (pv 2) pe_str (nomark _)) (pss_one (ps_ret (pe_tup (pa_cons (pv 2) (pa_cons (pe_fn F__law_fresh_read (hr.mono (by decide)) rfl (passes_call (takes_of rfl rfl rfl rfl) (fun _ _ _ _ h => h)) (pa_cons (pv 0) (pa_cons (pe_ix (ix_any hu) (pv 1) pe_str (fun _ _ => rfl)) pa_nil))) pa_nil))))) pss_nil) (pss_cons (ps_if (pt_cmpR (or_eq hu) (pv 2) pe_str (nomark _)) (pss_one (ps_ret (pe_tup (pa_cons (pv 2) pa_nil)))) pss_nil) (pss_cons (ps_set (i := 4) nd rfl (by first | exact Or.inl rfl | exact Or.inr rfl) (pe_fn F__law_pick (hr.mono (by decide)) rfl (passes_call (takes_of rfl rfl rfl rfl) (fun _ _ _ _ h => h)) (pa_cons (pv 0) (pa_cons (pe_op or_add (pv 3) (pe_slice or_sl (pv 3) po_none (po_some (pe_un un_neg pe_int)))) pa_nil)))) (pss_one (ps_ret (pe_ifExp (pt_cmpR (or_eq hu) (pv 2) pe_str (nomark _)) (pe_tup (pa_cons (pv 2) (pa_cons (pv 4) pa_nil))) (pe_tup (pa_cons (pv 2) (pa_cons (pv 4) (pa_cons (pe_fn F__law_fresh_read (hr.mono (by decide)) rfl (passes_call (takes_of rfl rfl rfl rfl) (fun _ _ _ _ h => h)) (pa_cons (pv 0) (pa_cons (pe_ix (ix_any hu) (pv 1) pe_str (fun _ _ => rfl)) pa_nil))) pa_nil))))))))))))
theorem sc__law_step_right : FnScope ["_law_draw", "_law_bench", "_law_account", "_law_deed", "_law_found", "_law_word", "_law_error", "_law_due", "_law_fresh"] ["_law_draw", "_law_bench", "_law_account", "_law_deed"] (defScope (top 46)) := ⟨rfl, rfl, rfl, by decide +kernel, rfl, by decide +kernel, by decide +kernel⟩
theorem lam__law_step_right_0 : LamX.lamSB (defScope (top 46)) { kind := .function, names := [("_law_bench", .free), ("_law_deed", .free), ("_law_do", .globalImplicit), ("_law_found", .free)], isGenerator := false, isCoroutine := false } = true := by decide +kernel
theorem lk__law_step_right {P : Program} {w : World} {k : Kx} {mg : Str → Option Value} {base : Heap} {f : Addr} {fd : FuncData} (B : Blt mg) (F__law_refusal : FnIs P w k.K mg base 2 "_law_refusal" ["_law_account", "_law_deed"] (spM k m__law_refusal)) (F__law_do : FnIs P w k.K mg base 6 "_law_do" ["_law_bench", "_law_deed"] (spM k m__law_do)) (F__law_word_of : FnIs P w k.K mg base 1 "_law_word_of" ["_law_error"] (spM k m__law_word_of)) (F__law_is_as : FnGs P w k.K mg base 3 "_law_is_as" ["_law_bench", "_law_account"] (spM k m__law_is_as)) (F__law_number_of : FnIs P w k.K mg base 1 "_law_number_of" ["_law_account"] (spM k m__law_number_of)) (F__law_behind : FnIs P w k.K mg base 2 "_law_behind" ["_law_account", "_law_deed"] (spM k m__law_behind)) (hCAT : ∀ C ∈ CAT, PySem.W.exmOne k.K (.ref (k.ca C)) (.ref (k.ca "ReadError")) = some true) (hXF : XFTab k XF) (hSys : SysD k.K) (gR : mg "ReadError" = some (.ref (k.ca "ReadError"))) {fC : Addr} {fdC : FuncData} (gC : mg "_law_caught" = some (.ref fC)) (D_caught : FunD k.K "_law_caught" "_law_caught" (defArgs (top 30)) (defBody (top 30)) (defScope (top 30)) [] [] fC fdC) {c Pt : Addr} (hc : fd.code = .ref c) (TB : LamX.TabB base mg c Pt) (hmT : (Pt, lq "_law_step_right") ∈ k.T) (hut : ∀ p ∈ k.T, p.1 = Pt → p.2 = lq "_law_step_right") (F : FunD k.K "_law_step_right" "_law_step_right" (defArgs (top 46)) (defBody (top 46)) (defScope (top 46)) [] [] f fd) : FnG P w k.K mg base (L2.CX P w) 9 f fd ["_law_draw", "_law_bench", "_law_account", "_law_deed"] (spM k m__law_step_right) := by
  refine okG F sc__law_step_right (fun vs H Q E h => (body_ok (N := ["_law_draw", "_law_bench", "_law_account", "_law_deed", "_law_found", "_law_word", "_law_error", "_law_due", "_law_fresh"]) (ar := 4) (t := t__law_step_right k) (b := b__law_step_right) (fun E => s__law_step_right hCAT hXF hSys E) h (by decide)).1) (fun cdv A outer s H vs Q E hcv hgd hr h => ⟨t__law_step_right k E, ?_, (body_ok (N := ["_law_draw", "_law_bench", "_law_account", "_law_deed", "_law_found", "_law_word", "_law_error", "_law_due", "_law_fresh"]) (ar := 4) (t := t__law_step_right k) (b := b__law_step_right) (fun E => s__law_step_right hCAT hXF hSys E) h (by decide)).2⟩)
  have hcv : cdv = .ref c := hcv.symm.trans hc
  subst hcv
  have nd := sc__law_step_right.nd
  have hu : A.units + 3 + 100 < cLine := by have := hr.un; have e : (A.deeper (envOfC "_law_step_right" (defScope (top 46)) s.heap.objs.size f (.ref c))).units = A.units + 3 := rfl; omega
  have hu1 : A.units + 3 + 1 < cLine := by omega
  have hu10 : A.units + 3 + 10 < cLine := by omega
  have hdp : (A.deeper (envOfC "_law_step_right" (defScope (top 46)) s.heap.objs.size f (.ref c))).depth < recursionLimit := by have := hr.dp; omega
  have hu64 : A.units + 3 + 64 < cLine := by omega
  obtain ⟨ocC, odC, dVC, kVC, docC, pmC, anC, cdvC, ctC, oslC, rfl, lkC, hcdC, hDC, _⟩ := D_caught.ex
  have bC : L2.Binds k.K (PySem.W.fnOf "_law_caught" "_law_caught" (defArgs (top 30)) (defBody (top 30)) (defScope (top 30)) dVC kVC docC pmC anC cdvC ctC) ["_law_job"] [] := D_caught.bindsN fun _ _ _ _ _ _ us hl => match us, hl with | [_], _ => rfl
  exact (pss_cons (ps_asg (pe_tup (pa_cons (pe_lst pa_nil) (pa_cons (pe_fn F__law_refusal (hr.mono (by decide)) rfl (passes_call (takes_of rfl rfl rfl rfl) (fun _ _ _ _ h => h)) (pa_cons (pv 2) (pa_cons (pv 3) pa_nil))) pa_nil))) (pg_tl (pg_tup rfl (pgs_cons (pg_name (i := 4) nd rfl (by first | exact Or.inl rfl | exact Or.inr rfl)) (pgs_cons (pg_name (i := 5) nd rfl (by first | exact Or.inl rfl | exact Or.inr rfl)) pgs_nil))) (pg_unl rfl (pgs_cons (pg_name (i := 4) nd rfl (by first | exact Or.inl rfl | exact Or.inr rfl)) (pgs_cons (pg_name (i := 5) nd rfl (by first | exact Or.inl rfl | exact Or.inr rfl)) pgs_nil))))) (pss_cons (ps_set (i := 6) nd rfl (by first | exact Or.inl rfl | exact Or.inr rfl) (LamX.pe_lamcall (T := k.T) (TT := TCaught k.K (k.ca "ReadError")) (t := fun E' => (tBM k.K "list" rAppend (tVar 4) (tCons ((tCall (spM k m__law_do) [] E' ((tCons (tVar 1) ((tCons (tVar 3) (tNil))))))) tNil))) (k := 6) (Ng := ["_law_job", "_law_found", "_law_error"]) rfl gC D_caught.kp lkC hcdC bC sc_caught rfl (.inl rfl) (caught_gives rfl gR (by decide +kernel) (by decide +kernel) rfl rfl (by decide +kernel) (by decide +kernel) (by decide +kernel) (by decide +kernel)) TB rfl hmT hut hr (LamX.lamS_by lam__law_step_right_0) rfl (fun _ _ _ _ _ => rfl) (fun A' o' s' H' E' f' c' hr' => (pe_bm PySem.F.plainAttrs_list PySem.F.slot_list_append PySem.F.type_list_append mt_append (pv 4) (pa_cons (pe_fn F__law_do (hr'.mono (by decide)) rfl (passes_call (takes_of rfl rfl rfl rfl) (fun _ _ _ _ h => h)) (pa_cons (pv 1) (pa_cons (pv 3) pa_nil))) pa_nil))))) (pss_cons (ps_if (PW.pt (pw_or (pt_cmpR (or_ne hu) (pe_fn F__law_word_of (hr.mono (by decide)) rfl (passes_call (takes_of rfl rfl rfl rfl) (fun _ _ _ _ h => h)) (pa_cons (pv 6) pa_nil)) (pv 5) (nomark _)) (pw_or1 (PW.pt (pw_and (pt_cmpR (or_eq hu) (pv 5) pe_str (nomark _)) (pw_and1 (pt_cmpR (or_ne hu) (pe_exf (pv 6)) pe_int (nomark _)))))))) (pss_one (ps_ret (pe_lst pa_nil))) pss_nil) (pss_cons (ps_if (pt_cmpR (or_ne hu) (pv 5) pe_str (nomark _)) (pss_one (ps_ret (pe_ifExp (pt_val (pe_fnG F__law_is_as hgd (hr.mono (by decide)) rfl (passes_call (takes_of rfl rfl rfl rfl) (fun _ _ _ _ h => h)) (pa_cons (pv 1) (pa_cons (pv 2) pa_nil)))) (pe_lst (pa_cons (pv 2) pa_nil)) (pe_lst pa_nil)))) pss_nil) (pss_cons (ps_set (i := 7) nd rfl (by first | exact Or.inl rfl | exact Or.inr rfl) (pe_ifExp (pt_cmpR (or_eq hu) (pe_ix (ix_any hu) (pv 3) pe_int (fun _ _ => rfl)) pe_str (nomark _)) (pe_fn F__law_number_of (hr.mono (by decide)) rfl (passes_call (takes_of rfl rfl rfl rfl) (fun _ _ _ _ h => h)) (pa_cons (pv 2) pa_nil)) pe_non)) (pss_cons (ps_set (i := 8) nd rfl (by first | exact Or.inl rfl | exact Or.inr rfl) (pe_fn F__law_behind (hr.mono (by decide)) rfl (passes_call (takes_of rfl rfl rfl rfl) (fun _ _ _ _ h => h)) (pa_cons (pv 2) (pa_cons (pv 3) pa_nil)))) (pss_one (ps_ret (pe_ifExp (PW.pt (pw_and (pt_cmpR (or_eq hu) (pe_callB (cr_reprX hgd hu64) rfl B.z_repr (by decide +kernel) (pa_cons (pv 4) pa_nil)) (pe_callB (cr_reprX hgd hu64) rfl B.z_repr (by decide +kernel) (pa_cons (pe_lst (pa_cons (pv 7) pa_nil)) pa_nil)) (nomark _)) (pw_and1 (pt_val (pe_fnG F__law_is_as hgd (hr.mono (by decide)) rfl (passes_call (takes_of rfl rfl rfl rfl) (fun _ _ _ _ h => h)) (pa_cons (pv 1) (pa_cons (pv 8) pa_nil))))))) (pe_lst (pa_cons (pv 8) pa_nil)) (pe_lst pa_nil))))))))))
theorem sc__law_full_right : FnScope ["_law_draw", "_law_bench", "_law_account", "_law_number", "_law_word", "_law_some", "_law_deed", "_law_line"] ["_law_draw"] (defScope (top 47)) := ⟨rfl, rfl, rfl, by decide +kernel, rfl, by decide +kernel, by decide +kernel⟩
theorem lk__law_full_right {P : Program} {w : World} {k : Kx} {mg : Str → Option Value} {base : Heap} {f : Addr} {fd : FuncData} (B : Blt mg) (F__law_begun_bench : FnIs P w k.K mg base 1 "_law_begun_bench" ["_law_length"] (spM k m__law_begun_bench)) (I_Bench : MkIs P w k.K mg base 4 "Bench" (k.ca "Bench") ["self", "length"] (spM k m_Bench__init)) (F__law_letters : FnIs P w k.K mg base 4 "_law_letters" ["_law_draw", "_law_signs_here", "_law_many"] (spM k m__law_letters)) (M_Bench__add : MtIs P w k.K mg base 5 (k.ca "Bench") "add" ["self", "word"] (spM k m_Bench__add)) (F__law_behind : FnIs P w k.K mg base 2 "_law_behind" ["_law_account", "_law_deed"] (spM k m__law_behind)) (F__law_take : FnIs P w k.K mg base 2 "_law_take" ["_law_draw", "_law_total"] (spM k m_take)) (F__law_step_right : FnGs P w k.K mg base 9 "_law_step_right" ["_law_draw", "_law_bench", "_law_account", "_law_deed"] (spM k m__law_step_right)) (M_Bench__mend : MtIs P w k.K mg base 5 (k.ca "Bench") "mend" ["self", "number", "word"] (spM k m_Bench__mend)) (P_Bench__reads : PrIs P w k.K mg base 1 (k.ca "Bench") "reads" (spM k m_Bench__reads)) (M_Bench__strike : MtIs P w k.K mg base 3 (k.ca "Bench") "strike" ["self", "number"] (spM k m_Bench__strike)) (MK_Bench__add_word : MtKw P w k.K mg base 5 (k.ca "Bench") "add" ["self", "word"] (spM k m_Bench__add) ["word"] [0, 1]) (MK_Bench__mend_number_word : MtKw P w k.K mg base 5 (k.ca "Bench") "mend" ["self", "number", "word"] (spM k m_Bench__mend) ["number", "word"] [0, 1, 2]) (MK_Bench__strike_number : MtKw P w k.K mg base 3 (k.ca "Bench") "strike" ["self", "number"] (spM k m_Bench__strike) ["number"] [0, 1]) (F : FunD k.K "_law_full_right" "_law_full_right" (defArgs (top 47)) (defBody (top 47)) (defScope (top 47)) [] [] f fd) : FnG P w k.K mg base (L2.CX P w) 10 f fd ["_law_draw"] (spM k m__law_full_right) := by
  refine okG F sc__law_full_right (fun vs H Q E h => (body_ok (N := ["_law_draw", "_law_bench", "_law_account", "_law_number", "_law_word", "_law_some", "_law_deed", "_law_line"]) (ar := 1) (t := t__law_full_right k) (b := b__law_full_right) (fun E => s__law_full_right  E) h (by decide)).1) (fun cdv A outer s H vs Q E hcv hgd hr h => ⟨t__law_full_right k E, ?_, (body_ok (N := ["_law_draw", "_law_bench", "_law_account", "_law_number", "_law_word", "_law_some", "_law_deed", "_law_line"]) (ar := 1) (t := t__law_full_right k) (b := b__law_full_right) (fun E => s__law_full_right  E) h (by decide)).2⟩)
  have nd := sc__law_full_right.nd
  have hu : A.units + 3 + 100 < cLine := by have := hr.un; have e : (A.deeper (envOfC "_law_full_right" (defScope (top 47)) s.heap.objs.size f cdv)).units = A.units + 3 := rfl; omega
  have hu1 : A.units + 3 + 1 < cLine := by omega
  have hu10 : A.units + 3 + 10 < cLine := by omega
  have hdp : (A.deeper (envOfC "_law_full_right" (defScope (top 47)) s.heap.objs.size f cdv)).depth < recursionLimit := by have := hr.dp; omega
  have hu64 : A.units + 3 + 64 < cLine := by omega
  exact (pss_cons (ps_par rfl nd rfl rfl (by decide) rfl rfl (pa_cons (pe_mk I_Bench (hr.mono (by decide)) rfl (passes_call (takes_of rfl rfl rfl rfl) (fun _ _ _ _ h => h)) (pa_cons pe_int pa_nil)) (pa_cons (pe_fn F__law_begun_bench (hr.mono (by decide)) rfl (passes_call (takes_of rfl rfl rfl rfl) (fun _ _ _ _ h => h)) (pa_cons pe_int pa_nil)) pa_nil)) rfl) (pss_cons (ps_for (passes_of rfl) rfl (pi_range1 rfl B.z_range (pa_cons pe_int pa_nil)) (pg_name (i := 3) nd rfl (by first | exact Or.inl rfl | exact Or.inr rfl)) (pss_cons (ps_set (i := 4) nd rfl (by first | exact Or.inl rfl | exact Or.inr rfl) (pe_fn F__law_letters (hr.mono (by decide)) rfl (passes_call (takes_of rfl rfl rfl rfl) (fun _ _ _ _ h => h)) (pa_cons (pv 0) (pa_cons pe_str (pa_cons pe_int pa_nil))))) (pss_cons (ps_if (pt_cmpR (or_ne hu) (pe_mtK (ks := ["word"]) (is := [0, 1]) MK_Bench__add_word (hr.mono (by decide)) (passes_call (takes_of rfl rfl rfl rfl) (fun _ _ _ _ h => h)) (pv 1) (pk_cons (pv 4) pk_nil)) (pv 3) (nomark _)) (pss_one (ps_ret pe_bl)) pss_nil) (pss_one (ps_set (i := 2) nd rfl (by first | exact Or.inl rfl | exact Or.inr rfl) (pe_fn F__law_behind (hr.mono (by decide)) rfl (passes_call (takes_of rfl rfl rfl rfl) (fun _ _ _ _ h => h)) (pa_cons (pv 2) (pa_cons (pe_tup (pa_cons pe_str (pa_cons (pv 4) pa_nil))) pa_nil)))))))) (pss_cons (ps_set (i := 5) nd rfl (by first | exact Or.inl rfl | exact Or.inr rfl) (pe_lst (pa_cons (pe_tup (pa_cons pe_str (pa_cons pe_str pa_nil))) (pa_cons (pe_tup (pa_cons pe_str (pa_cons pe_str pa_nil))) (pa_cons (pe_tup (pa_cons pe_str (pa_cons (pe_fn F__law_take (hr.mono (by decide)) rfl (passes_call (takes_of rfl rfl rfl rfl) (fun _ _ _ _ h => h)) (pa_cons (pv 0) (pa_cons pe_int pa_nil))) pa_nil))) (pa_cons (pe_tup (pa_cons pe_str (pa_cons pe_str pa_nil))) (pa_cons (pe_tup (pa_cons pe_str (pa_cons pe_str pa_nil))) pa_nil))))))) (pss_cons (ps_for (passes_of rfl) rfl (pi_anyD (pe_op or_add (pv 5) (pe_lst (pa_cons (pe_tup (pa_cons pe_str pa_nil)) (pa_cons (pe_tup (pa_cons pe_str pa_nil)) pa_nil))))) (pg_name (i := 6) nd rfl (by first | exact Or.inl rfl | exact Or.inr rfl)) (pss_cons (ps_set (i := 7) nd rfl (by first | exact Or.inl rfl | exact Or.inr rfl) (pe_fnG F__law_step_right hgd (hr.mono (by decide)) rfl (passes_call (takes_of rfl rfl rfl rfl) (fun _ _ _ _ h => h)) (pa_cons (pv 0) (pa_cons (pv 1) (pa_cons (pv 2) (pa_cons (pv 6) pa_nil)))))) (pss_cons (ps_if (pt_cmpR (or_eq2 hu) (pv 7) (pe_lst pa_nil) (nomark _)) (pss_one (ps_ret pe_bl)) pss_nil) (pss_one (ps_set (i := 2) nd rfl (by first | exact Or.inl rfl | exact Or.inr rfl) (pe_ix (ix_any hu) (pv 7) pe_int (fun _ _ => rfl))))))) (pss_cons (ps_if (PW.pt (pw_or (pt_cmpR (or_ne hu) (pe_callB cr_len rfl B.z_len (by decide +kernel) (pa_cons (pe_ix (ix_any hu) (pv 2) pe_str (fun _ _ => rfl)) pa_nil)) pe_int (nomark _)) (pw_or (pt_cmp (pc_notN (pe_mtK (ks := ["number", "word"]) (is := [0, 1, 2]) MK_Bench__mend_number_word (hr.mono (by decide)) (passes_call (takes_of rfl rfl rfl rfl) (fun _ _ _ _ h => h)) (pv 1) (pk_cons pe_int (pk_cons pe_str pk_nil)))) rfl) (pw_or1 (pt_cmpR (or_ne hu) (pe_ix (ix_any hu) (pe_pr P_Bench__reads (hr.mono (by decide)) passL (pv 1) rfl rfl) pe_int (fun _ _ => rfl)) pe_str (nomark _)))))) (pss_one (ps_ret pe_bl)) pss_nil) (pss_one (ps_ret (L2.pe_and (pe_cmp (pc_isN (pe_mtK (ks := ["number"]) (is := [0, 1]) MK_Bench__strike_number (hr.mono (by decide)) (passes_call (takes_of rfl rfl rfl rfl) (fun _ _ _ _ h => h)) (pv 1) (pk_cons pe_int pk_nil))) rfl) (pe_one (pe_cmpR (or_notinA hu) pe_int (pe_pr P_Bench__reads (hr.mono (by decide)) passL (pv 1) rfl rfl) rfl))))))))))
theorem sc_law : FnScope ["_law_script", "_law_draw", "_law_turn", "_law_length", "_law_step", "_law_odd_here", "_law_bench", "_law_account", "_law_deed", "_law_line"] ["_law_script"] (defScope (top 48)) := ⟨rfl, rfl, rfl, by decide +kernel, rfl, by decide +kernel, by decide +kernel⟩
theorem lam_law_0 : LamX.lamSB (defScope (top 48)) { kind := .function, names := [("Bench", .globalImplicit), ("_law_odd_here", .free)], isGenerator := false, isCoroutine := false } = true := by decide +kernel
theorem lk_law {P : Program} {w : World} {k : Kx} {mg : Str → Option Value} {base : Heap} {f : Addr} {fd : FuncData} (B : Blt mg) (F__law_begun : FnIs P w k.K mg base 1 "_law_begun" ["_law_script"] (spM k m_begun)) (F__law_take : FnIs P w k.K mg base 2 "_law_take" ["_law_draw", "_law_total"] (spM k m_take)) (F__law_begun_bench : FnIs P w k.K mg base 1 "_law_begun_bench" ["_law_length"] (spM k m__law_begun_bench)) (I_Bench : MkIs P w k.K mg base 4 "Bench" (k.ca "Bench") ["self", "length"] (spM k m_Bench__init)) (F__law_drawn_deed : FnIs P w k.K mg base 6 "_law_drawn_deed" ["_law_draw", "_law_account"] (spM k m__law_drawn_deed)) (F__law_bent : FnIs P w k.K mg base 5 "_law_bent" ["_law_draw", "_law_account", "_law_deed"] (spM k m__law_bent)) (F__law_step_right : FnGs P w k.K mg base 9 "_law_step_right" ["_law_draw", "_law_bench", "_law_account", "_law_deed"] (spM k m__law_step_right)) (P_Bench__reads : PrIs P w k.K mg base 1 (k.ca "Bench") "reads" (spM k m_Bench__reads)) (P_Bench__log : PrIs P w k.K mg base 1 (k.ca "Bench") "log" (spM k m_Bench__log)) (F__law_is_as : FnGs P w k.K mg base 3 "_law_is_as" ["_law_bench", "_law_account"] (spM k m__law_is_as)) (F__law_pick : FnIs P w k.K mg base 3 "_law_pick" ["_law_draw", "_law_some"] (spM k m__law_pick)) (F__law_full_right : FnGs P w k.K mg base 10 "_law_full_right" ["_law_draw"] (spM k m__law_full_right)) (MK_Bench__init_length : MkKw P w k.K mg base 4 "Bench" (k.ca "Bench") ["self", "length"] (spM k m_Bench__init) ["length"] [0, 1]) (G_BadLength : mg "BadLength" = some (.ref (k.ca "BadLength"))) (hXT : XTab k XT) (hCAT : ∀ C ∈ CAT, PySem.W.exmOne k.K (.ref (k.ca C)) (.ref (k.ca "ReadError")) = some true) (gR : mg "ReadError" = some (.ref (k.ca "ReadError"))) {fC : Addr} {fdC : FuncData} (gC : mg "_law_caught" = some (.ref fC)) (D_caught : FunD k.K "_law_caught" "_law_caught" (defArgs (top 30)) (defBody (top 30)) (defScope (top 30)) [] [] fC fdC) {c Pt : Addr} (hc : fd.code = .ref c) (TB : LamX.TabB base mg c Pt) (hmT : (Pt, lq "law") ∈ k.T) (hut : ∀ p ∈ k.T, p.1 = Pt → p.2 = lq "law") (F : FunD k.K "law" "law" (defArgs (top 48)) (defBody (top 48)) (defScope (top 48)) [] [] f fd) : FnG P w k.K mg base (L2.CX P w) 13 f fd ["_law_script"] (spM k m_law) := by
  refine okG F sc_law (fun vs H Q E h => (body_ok (N := ["_law_script", "_law_draw", "_law_turn", "_law_length", "_law_step", "_law_odd_here", "_law_bench", "_law_account", "_law_deed", "_law_line"]) (ar := 1) (t := t_law k) (b := b_law) (fun E => s_law hXT hCAT E) h (by decide)).1) (fun cdv A outer s H vs Q E hcv hgd hr h => ⟨t_law k E, ?_, (body_ok (N := ["_law_script", "_law_draw", "_law_turn", "_law_length", "_law_step", "_law_odd_here", "_law_bench", "_law_account", "_law_deed", "_law_line"]) (ar := 1) (t := t_law k) (b := b_law) (fun E => s_law hXT hCAT E) h (by decide)).2⟩)
  have hcv : cdv = .ref c := hcv.symm.trans hc
  subst hcv
  have nd := sc_law.nd
  have hu : A.units + 3 + 100 < cLine := by have := hr.un; have e : (A.deeper (envOfC "law" (defScope (top 48)) s.heap.objs.size f (.ref c))).units = A.units + 3 := rfl; omega
  have hu1 : A.units + 3 + 1 < cLine := by omega
  have hu10 : A.units + 3 + 10 < cLine := by omega
  have hdp : (A.deeper (envOfC "law" (defScope (top 48)) s.heap.objs.size f (.ref c))).depth < recursionLimit := by have := hr.dp; omega
  have hu64 : A.units + 3 + 64 < cLine := by omega
  obtain ⟨ocC, odC, dVC, kVC, docC, pmC, anC, cdvC, ctC, oslC, rfl, lkC, hcdC, hDC, _⟩ := D_caught.ex
  have bC : L2.Binds k.K (PySem.W.fnOf "_law_caught" "_law_caught" (defArgs (top 30)) (defBody (top 30)) (defScope (top 30)) dVC kVC docC pmC anC cdvC ctC) ["_law_job"] [] := D_caught.bindsN fun _ _ _ _ _ _ us hl => match us, hl with | [_], _ => rfl
  exact (pss_cons (ps_set (i := 1) nd rfl (by first | exact Or.inl rfl | exact Or.inr rfl) (pe_fn F__law_begun (hr.mono (by decide)) rfl (passes_call (takes_of rfl rfl rfl rfl) (fun _ _ _ _ h => h)) (pa_cons (pv 0) pa_nil))) (pss_cons (ps_for (passes_of rfl) rfl (pi_range1 rfl B.z_range (pa_cons (pe_op or_add pe_int (pe_callB (call_min2 rfl) rfl B.z_min (by decide +kernel) (pa_cons (pe_callB cr_len rfl B.z_len (by decide +kernel) (pa_cons (pv 0) pa_nil)) (pa_cons pe_int pa_nil)))) pa_nil)) (pg_name (i := 2) nd rfl (by first | exact Or.inl rfl | exact Or.inr rfl)) (pss_cons (ps_set (i := 3) nd rfl (by first | exact Or.inl rfl | exact Or.inr rfl) (pe_op or_add pe_int (pe_fn F__law_take (hr.mono (by decide)) rfl (passes_call (takes_of rfl rfl rfl rfl) (fun _ _ _ _ h => h)) (pa_cons (pv 1) (pa_cons pe_int pa_nil))))) (pss_cons (ps_par rfl nd rfl rfl (by decide) rfl rfl (pa_cons (pe_mkK (ks := ["length"]) (is := [0, 1]) MK_Bench__init_length (hr.mono (by decide)) rfl (passes_call (takes_of rfl rfl rfl rfl) (fun _ _ _ _ h => h)) (pk_cons (pv 3) pk_nil)) (pa_cons (pe_fn F__law_begun_bench (hr.mono (by decide)) rfl (passes_call (takes_of rfl rfl rfl rfl) (fun _ _ _ _ h => h)) (pa_cons (pv 3) pa_nil)) pa_nil)) rfl) (pss_cons (ps_for (passes_of rfl) rfl (pi_range1 rfl B.z_range (pa_cons (pe_op or_add pe_int (pe_callB (call_min2 rfl) rfl B.z_min (by decide +kernel) (pa_cons (pe_callB cr_len rfl B.z_len (by decide +kernel) (pa_cons (pv 0) pa_nil)) (pa_cons pe_int pa_nil)))) pa_nil)) (pg_name (i := 4) nd rfl (by first | exact Or.inl rfl | exact Or.inr rfl)) (pss_cons (ps_set (i := 8) nd rfl (by first | exact Or.inl rfl | exact Or.inr rfl) (pe_fn F__law_drawn_deed (hr.mono (by decide)) rfl (passes_call (takes_of rfl rfl rfl rfl) (fun _ _ _ _ h => h)) (pa_cons (pv 1) (pa_cons (pv 7) pa_nil)))) (pss_cons (ps_set (i := 8) nd rfl (by first | exact Or.inl rfl | exact Or.inr rfl) (pe_ifExp (pt_cmpR (or_eq hu) (pe_fn F__law_take (hr.mono (by decide)) rfl (passes_call (takes_of rfl rfl rfl rfl) (fun _ _ _ _ h => h)) (pa_cons (pv 1) (pa_cons pe_int pa_nil))) pe_int (nomark _)) (pe_fn F__law_bent (hr.mono (by decide)) rfl (passes_call (takes_of rfl rfl rfl rfl) (fun _ _ _ _ h => h)) (pa_cons (pv 1) (pa_cons (pv 7) (pa_cons (pv 8) pa_nil)))) (pv 8))) (pss_cons (ps_set (i := 9) nd rfl (by first | exact Or.inl rfl | exact Or.inr rfl) (pe_fnG F__law_step_right hgd (hr.mono (by decide)) rfl (passes_call (takes_of rfl rfl rfl rfl) (fun _ _ _ _ h => h)) (pa_cons (pv 1) (pa_cons (pv 6) (pa_cons (pv 7) (pa_cons (pv 8) pa_nil)))))) (pss_cons (ps_if (pt_cmpR (or_eq2 hu) (pv 9) (pe_lst pa_nil) (nomark _)) (pss_one (ps_ret pe_bl)) pss_nil) (pss_one (ps_set (i := 7) nd rfl (by first | exact Or.inl rfl | exact Or.inr rfl) (pe_ix (ix_any hu) (pv 9) pe_int (fun _ _ => rfl))))))))) (pss_cons (ps_expr (pe_dclear (pe_pr P_Bench__reads (hr.mono (by decide)) passL (pv 6) rfl rfl))) (pss_cons (ps_expr (pe_bm PySem.F.plainAttrs_list PySem.F.slot_list_append PySem.F.type_list_append mt_append (pe_pr P_Bench__log (hr.mono (by decide)) passL (pv 6) rfl rfl) (pa_cons pe_non pa_nil))) (pss_cons (ps_if (pt_not (pt_val (pe_fnG F__law_is_as hgd (hr.mono (by decide)) rfl (passes_call (takes_of rfl rfl rfl rfl) (fun _ _ _ _ h => h)) (pa_cons (pv 6) (pa_cons (pv 7) pa_nil))))) (pss_one (ps_ret pe_bl)) pss_nil) (pss_cons (ps_set (i := 5) nd rfl (by first | exact Or.inl rfl | exact Or.inr rfl) (pe_fn F__law_pick (hr.mono (by decide)) rfl (passes_call (takes_of rfl rfl rfl rfl) (fun _ _ _ _ h => h)) (pa_cons (pv 1) (pa_cons (pe_lst (pa_cons pe_int (pa_cons pe_int (pa_cons (pe_un un_neg pe_int) (pa_cons pe_bl (pa_cons pe_non (pa_cons pe_str (pa_cons (pe_lst (pa_cons pe_int pa_nil)) pa_nil)))))))) pa_nil)))) (pss_one (ps_if (pt_not (pt_val (pe_callB call_isA rfl B.z_isinstance (by decide +kernel) (pa_cons (LamX.pe_lamcall (T := k.T) (TT := TCaught k.K (k.ca "ReadError")) (t := fun E' => (tMake (k.ca "Bench") (spM k m_Bench__init) [] E' ((tCons (tVar 5) (tNil))))) (k := 10) (Ng := ["_law_job", "_law_found", "_law_error"]) rfl gC D_caught.kp lkC hcdC bC sc_caught rfl (.inl rfl) (caught_gives rfl gR (by decide +kernel) (by decide +kernel) rfl rfl (by decide +kernel) (by decide +kernel) (by decide +kernel) (by decide +kernel)) TB rfl hmT hut hr (LamX.lamS_by lam_law_0) rfl (fun _ _ _ _ _ => rfl) (fun A' o' s' H' E' f' c' hr' => (pe_mk I_Bench (hr'.mono (by decide)) rfl (passes_call (takes_of rfl rfl rfl rfl) (fun _ _ _ _ h => h)) (pa_cons (pv 5) pa_nil)))) (pa_cons (pe_glob rfl G_BadLength rfl) pa_nil))))) (pss_one (ps_ret pe_bl)) pss_nil)))))))))) (pss_one (ps_ret (pe_fnG F__law_full_right hgd (hr.mono (by decide)) rfl (passes_call (takes_of rfl rfl rfl rfl) (fun _ _ _ _ h => h)) (pa_cons (pv 1) pa_nil))))))
def d__wall : He.DefD := ⟨("_wall", none), "_wall", "_wall", defArgs (top 0), defBody (top 0), defScope (top 0), [], []⟩
def d_is_integer : He.DefD := ⟨("is_integer", none), "is_integer", "is_integer", defArgs (top 11), defBody (top 11), defScope (top 11), [], []⟩
def d_is_between : He.DefD := ⟨("is_between", none), "is_between", "is_between", defArgs (top 12), defBody (top 12), defScope (top 12), [], []⟩
def d_is_line : He.DefD := ⟨("is_line", none), "is_line", "is_line", defArgs (top 13), defBody (top 13), defScope (top 13), [], []⟩
def d_is_word : He.DefD := ⟨("is_word", none), "is_word", "is_word", defArgs (top 14), defBody (top 14), defScope (top 14), [], []⟩
def d_need_word : He.DefD := ⟨("need_word", none), "need_word", "need_word", defArgs (top 15), defBody (top 15), defScope (top 15), [], []⟩
def d_need_length : He.DefD := ⟨("need_length", none), "need_length", "need_length", defArgs (top 16), defBody (top 16), defScope (top 16), [], []⟩
def d_standing_behind : He.DefD := ⟨("standing_behind", none), "standing_behind", "standing_behind", defArgs (top 22), defBody (top 22), defScope (top 22), [], []⟩
def d__law_begun : He.DefD := ⟨("_law_begun", none), "_law_begun", "_law_begun", defArgs (top 26), defBody (top 26), defScope (top 26), [], []⟩
def d__law_mixed : He.DefD := ⟨("_law_mixed", none), "_law_mixed", "_law_mixed", defArgs (top 27), defBody (top 27), defScope (top 27), [], []⟩
def d__law_take : He.DefD := ⟨("_law_take", none), "_law_take", "_law_take", defArgs (top 28), defBody (top 28), defScope (top 28), [], []⟩
def d__law_pick : He.DefD := ⟨("_law_pick", none), "_law_pick", "_law_pick", defArgs (top 29), defBody (top 29), defScope (top 29), [], []⟩
def d__law_caught : He.DefD := ⟨("_law_caught", none), "_law_caught", "_law_caught", defArgs (top 30), defBody (top 30), defScope (top 30), [], []⟩
def d__law_signs : He.DefD := ⟨("_law_signs", none), "_law_signs", "_law_signs", defArgs (top 31), defBody (top 31), defScope (top 31), [], []⟩
def d__law_letters : He.DefD := ⟨("_law_letters", none), "_law_letters", "_law_letters", defArgs (top 32), defBody (top 32), defScope (top 32), [], []⟩
def d__law_is_int : He.DefD := ⟨("_law_is_int", none), "_law_is_int", "_law_is_int", defArgs (top 33), defBody (top 33), defScope (top 33), [], []⟩
def d__law_odd : He.DefD := ⟨("_law_odd", none), "_law_odd", "_law_odd", defArgs (top 34), defBody (top 34), defScope (top 34), [], []⟩
def d__law_fresh_read : He.DefD := ⟨("_law_fresh_read", none), "_law_fresh_read", "_law_fresh_read", defArgs (top 35), defBody (top 35), defScope (top 35), [], []⟩
def d__law_begun_bench : He.DefD := ⟨("_law_begun_bench", none), "_law_begun_bench", "_law_begun_bench", defArgs (top 36), defBody (top 36), defScope (top 36), [], []⟩
def d__law_is_read : He.DefD := ⟨("_law_is_read", none), "_law_is_read", "_law_is_read", defArgs (top 37), defBody (top 37), defScope (top 37), [], []⟩
def d__law_refusal : He.DefD := ⟨("_law_refusal", none), "_law_refusal", "_law_refusal", defArgs (top 38), defBody (top 38), defScope (top 38), [], []⟩
def d__law_number_of : He.DefD := ⟨("_law_number_of", none), "_law_number_of", "_law_number_of", defArgs (top 39), defBody (top 39), defScope (top 39), [], []⟩
def d__law_behind : He.DefD := ⟨("_law_behind", none), "_law_behind", "_law_behind", defArgs (top 40), defBody (top 40), defScope (top 40), [], []⟩
def d__law_do : He.DefD := ⟨("_law_do", none), "_law_do", "_law_do", defArgs (top 41), defBody (top 41), defScope (top 41), [], []⟩
def d__law_drawn_deed : He.DefD := ⟨("_law_drawn_deed", none), "_law_drawn_deed", "_law_drawn_deed", defArgs (top 42), defBody (top 42), defScope (top 42), [], []⟩
def d__law_is_as : He.DefD := ⟨("_law_is_as", none), "_law_is_as", "_law_is_as", defArgs (top 43), defBody (top 43), defScope (top 43), [], []⟩
def d__law_word_of : He.DefD := ⟨("_law_word_of", none), "_law_word_of", "_law_word_of", defArgs (top 44), defBody (top 44), defScope (top 44), [], []⟩
def d__law_bent : He.DefD := ⟨("_law_bent", none), "_law_bent", "_law_bent", defArgs (top 45), defBody (top 45), defScope (top 45), [], []⟩
def d__law_step_right : He.DefD := ⟨("_law_step_right", none), "_law_step_right", "_law_step_right", defArgs (top 46), defBody (top 46), defScope (top 46), [], []⟩
def d__law_full_right : He.DefD := ⟨("_law_full_right", none), "_law_full_right", "_law_full_right", defArgs (top 47), defBody (top 47), defScope (top 47), [], []⟩
def d_law : He.DefD := ⟨("law", none), "law", "law", defArgs (top 48), defBody (top 48), defScope (top 48), [], []⟩
def d_Mark__init : He.DefD := ⟨("Mark", some "__init__"), "__init__", "Mark.__init__", defArgs (mtd 23 0), defBody (mtd 23 0), defScope (mtd 23 0), [], []⟩
def d_Bench__init : He.DefD := ⟨("Bench", some "__init__"), "__init__", "Bench.__init__", defArgs (mtd 24 0), defBody (mtd 24 0), defScope (mtd 24 0), [], []⟩
def d_Bench__eq : He.DefD := ⟨("Bench", some "__eq__"), "__eq__", "Bench.__eq__", defArgs (mtd 24 4), defBody (mtd 24 4), defScope (mtd 24 4), [], []⟩
def d_Bench__tried : He.DefD := ⟨("Bench", some "tried"), "tried", "Bench.tried", defArgs (mtd 24 7), defBody (mtd 24 7), defScope (mtd 24 7), [], []⟩
def d_Bench__copy : He.DefD := ⟨("Bench", some "copy"), "copy", "Bench.copy", defArgs (mtd 24 8), defBody (mtd 24 8), defScope (mtd 24 8), [], []⟩
def d_Bench__do : He.DefD := ⟨("Bench", some "do"), "do", "Bench.do", defArgs (mtd 24 9), defBody (mtd 24 9), defScope (mtd 24 9), [], []⟩
def d_Bench__need_read : He.DefD := ⟨("Bench", some "need_read"), "need_read", "Bench.need_read", defArgs (mtd 24 10), defBody (mtd 24 10), defScope (mtd 24 10), [], []⟩
def d_Bench__need_number : He.DefD := ⟨("Bench", some "need_number"), "need_number", "Bench.need_number", defArgs (mtd 24 11), defBody (mtd 24 11), defScope (mtd 24 11), [], []⟩
def d_Bench__add : He.DefD := ⟨("Bench", some "add"), "add", "Bench.add", defArgs (mtd 24 12), defBody (mtd 24 12), defScope (mtd 24 12), [], []⟩
def d_Bench__strike : He.DefD := ⟨("Bench", some "strike"), "strike", "Bench.strike", defArgs (mtd 24 13), defBody (mtd 24 13), defScope (mtd 24 13), [], []⟩
def d_Bench__mend : He.DefD := ⟨("Bench", some "mend"), "mend", "Bench.mend", defArgs (mtd 24 14), defBody (mtd 24 14), defScope (mtd 24 14), [], []⟩
def d_Bench__undo : He.DefD := ⟨("Bench", some "undo"), "undo", "Bench.undo", defArgs (mtd 24 15), defBody (mtd 24 15), defScope (mtd 24 15), [], []⟩
def d_Bench__runs_of_reads : He.DefD := ⟨("Bench", some "runs_of_reads"), "runs_of_reads", "Bench.runs_of_reads", defArgs (mtd 24 16), defBody (mtd 24 16), defScope (mtd 24 16), [], []⟩
def d_Bench__net : He.DefD := ⟨("Bench", some "net"), "net", "Bench.net", defArgs (mtd 24 17), defBody (mtd 24 17), defScope (mtd 24 17), [], []⟩
def d_Bench__web : He.DefD := ⟨("Bench", some "web"), "web", "Bench.web", defArgs (mtd 24 18), defBody (mtd 24 18), defScope (mtd 24 18), [], []⟩
def d_Bench__line_count : He.DefD := ⟨("Bench", some "line_count"), "line_count", "Bench.line_count", defArgs (mtd 24 19), defBody (mtd 24 19), defScope (mtd 24 19), [], []⟩
def d_Bench__circuit_count : He.DefD := ⟨("Bench", some "circuit_count"), "circuit_count", "Bench.circuit_count", defArgs (mtd 24 20), defBody (mtd 24 20), defScope (mtd 24 20), [], []⟩
def d_Bench__least_word : He.DefD := ⟨("Bench", some "least_word"), "least_word", "Bench.least_word", defArgs (mtd 24 21), defBody (mtd 24 21), defScope (mtd 24 21), [], []⟩
def d_Bench__some_web : He.DefD := ⟨("Bench", some "some_web"), "some_web", "Bench.some_web", defArgs (mtd 24 22), defBody (mtd 24 22), defScope (mtd 24 22), [], []⟩
def d_Bench__sure : He.DefD := ⟨("Bench", some "sure"), "sure", "Bench.sure", defArgs (mtd 24 23), defBody (mtd 24 23), defScope (mtd 24 23), [], []⟩
def d_Bench__evasion : He.DefD := ⟨("Bench", some "evasion"), "evasion", "Bench.evasion", defArgs (mtd 24 24), defBody (mtd 24 24), defScope (mtd 24 24), [], []⟩
def d_Bench__longest_sure : He.DefD := ⟨("Bench", some "longest_sure"), "longest_sure", "Bench.longest_sure", defArgs (mtd 24 25), defBody (mtd 24 25), defScope (mtd 24 25), [], []⟩
def d_Bench__held : He.DefD := ⟨("Bench", some "held"), "held", "Bench.held", defArgs (mtd 24 26), defBody (mtd 24 26), defScope (mtd 24 26), [], []⟩
def d_Bench__near : He.DefD := ⟨("Bench", some "near"), "near", "Bench.near", defArgs (mtd 24 27), defBody (mtd 24 27), defScope (mtd 24 27), [], []⟩
def d_init_TooMany : He.DefD := ⟨("TooMany", some "__init__"), "__init__", "TooMany.__init__", defArgs (mtd 7 0), defBody (mtd 7 0), defScope (mtd 7 0), [], []⟩
def g_Bench__length : GtD := ⟨"Bench", "length", defArgs (mtd 24 1), defBody (mtd 24 1), defScope (mtd 24 1)⟩
def g_Bench__reads : GtD := ⟨"Bench", "reads", defArgs (mtd 24 2), defBody (mtd 24 2), defScope (mtd 24 2)⟩
def g_Bench__log : GtD := ⟨"Bench", "log", defArgs (mtd 24 3), defBody (mtd 24 3), defScope (mtd 24 3)⟩
def gs : List GtD := ([g_Bench__length, g_Bench__reads, g_Bench__log] : List GtD)
def fn : List He.DefD := ([d__wall, d_is_integer, d_is_between, d_is_line, d_is_word, d_need_word, d_need_length, d_standing_behind, d__law_begun, d__law_mixed, d__law_take, d__law_pick, d__law_caught, d__law_signs, d__law_letters, d__law_is_int, d__law_odd, d__law_fresh_read, d__law_begun_bench, d__law_is_read, d__law_refusal, d__law_number_of, d__law_behind, d__law_do] : List He.DefD) ++ ([d__law_drawn_deed, d__law_is_as, d__law_word_of, d__law_bent, d__law_step_right, d__law_full_right, d_law, d_Mark__init, d_Bench__init, d_Bench__eq, d_Bench__tried, d_Bench__copy, d_Bench__do, d_Bench__need_read, d_Bench__need_number, d_Bench__add, d_Bench__strike, d_Bench__mend, d_Bench__undo, d_Bench__runs_of_reads, d_Bench__net, d_Bench__web, d_Bench__line_count, d_Bench__circuit_count] : List He.DefD) ++ ([d_Bench__least_word, d_Bench__some_web, d_Bench__sure, d_Bench__evasion, d_Bench__longest_sure, d_Bench__held, d_Bench__near, d_init_TooMany] : List He.DefD)
def fa : List He.Fa := ([.glo "_wall", .glo "is_integer", .glo "is_between", .glo "is_line", .glo "is_word", .glo "need_word", .glo "need_length", .glo "standing_behind", .glo "_law_begun", .glo "_law_mixed", .glo "_law_take", .glo "_law_pick", .glo "_law_caught", .glo "_law_signs", .glo "_law_letters", .glo "_law_is_int", .glo "_law_odd", .glo "_law_fresh_read", .glo "_law_begun_bench", .glo "_law_is_read", .glo "_law_refusal", .glo "_law_number_of", .glo "_law_behind", .glo "_law_do"] : List He.Fa) ++ ([.glo "_law_drawn_deed", .glo "_law_is_as", .glo "_law_word_of", .glo "_law_bent", .glo "_law_step_right", .glo "_law_full_right", .glo "law", .glo "Mark", .glo "Bench", .cls "Mark", .cls "Bench", .noat "Mark" "outer", .noat "Mark" "deeds", .noat "Mark" "known", .noat "Bench" "own_length", .noat "Bench" "deeds", .noat "Bench" "known", .noat "Bench" "mark", .mkr "Mark", .mkr "Bench", .meth "Bench" "__eq__", .meth "Bench" "tried", .meth "Bench" "copy", .meth "Bench" "do"] : List He.Fa) ++ ([.meth "Bench" "need_read", .meth "Bench" "need_number", .meth "Bench" "add", .meth "Bench" "strike", .meth "Bench" "mend", .meth "Bench" "undo", .meth "Bench" "runs_of_reads", .meth "Bench" "net", .meth "Bench" "web", .meth "Bench" "line_count", .meth "Bench" "circuit_count", .meth "Bench" "least_word", .meth "Bench" "some_web", .meth "Bench" "sure", .meth "Bench" "evasion", .meth "Bench" "longest_sure", .meth "Bench" "held", .meth "Bench" "near", .free "abs", .free "all", .free "any", .free "bool", .free "dict", .free "enumerate"] : List He.Fa) ++ ([.free "int", .free "isinstance", .free "len", .free "list", .free "max", .free "min", .free "range", .free "repr", .free "set", .free "sorted", .free "str", .free "sum", .free "tuple", .free "zip", .glo "BadIndex", .glo "BadLength", .glo "BadWord", .glo "NothingDone", .glo "ReadError", .glo "TooMany", .exc "BadIndex", .exc "BadLength", .exc "BadWord", .exc "NothingDone"] : List He.Fa) ++ ([.str "ADD" "add", .str "LETTERS" "acgt", .str "MEND" "mend", .int "MOST_LETTERS" 120, .int "MOST_READS" 20, .str "STRIKE" "strike", .exm "BadWord" "ReadError" true, .exm "BadLength" "ReadError" true, .exm "BadIndex" "ReadError" true, .exm "NothingDone" "ReadError" true, .exm "TooMany" "ReadError" true, .meth "TooMany" "__init__", .noat "TooMany" "limit"] : List He.Fa)
def excCB (K : PySem.W.Frag) (D : Addr) : Bool := He.eqO (PySem.W.findIn K (.ref D) "__getattribute__") (some (some (.builtin "BaseException.__getattribute__"))) && (He.eqO (PySem.W.findIn K (.ref D) "__getattr__") (some none) && (decide (PySem.W.subIn K (.ref D) (.type "BaseException") = some true) && (PySem.W.hasDictIn K D && (He.eqO (PySem.W.findIn K (.ref D) "__class__") (some (some (.builtin "object.__class__"))) && (He.eqO (PySem.W.specialIn K (.builtin "object.__class__") "__get__") (some (some (.builtin "getset_descriptor.__get__"))) && (decide (PySem.W.takesIn K (.builtin "object.__class__") = some true) && decide (PySem.W.mroIn K D (.type "object") = some true)))))))
theorem and2 {a b : Bool} (h : (a && b) = true) : a = true ∧ b = true := by rwa [Bool.and_eq_true] at h
theorem excCB_ok {K : PySem.W.Frag} {D : Addr} (h : excCB K D = true) : ExcC K D := by
  obtain ⟨h1, h⟩ := and2 h
  obtain ⟨h2, h⟩ := and2 h
  obtain ⟨h3, h⟩ := and2 h
  obtain ⟨h4, h⟩ := and2 h
  obtain ⟨h5, h⟩ := and2 h
  obtain ⟨h6, h⟩ := and2 h
  obtain ⟨h7, h8⟩ := and2 h
  exact ⟨He.eqO_ok h1, He.eqO_ok h2, of_decide_eq_true h3, h4, He.eqO_ok h5, He.eqO_ok h6, of_decide_eq_true h7, of_decide_eq_true h8⟩
def xtB (K : PySem.W.Frag) (tab : List (Str × Str × Bool)) : Bool := tab.all fun p => excCB K (He.ga K p.1) && decide (PySem.W.kitOne K (.ref (He.ga K p.1)) (.ref (He.ga K p.2.1)) = some p.2.2)
theorem code_of {K : PySem.W.Frag} {x qual : Str} {params : Arguments} {body : List Stmt} {scope : Scope} {p : Str × Option Str} {fd : FuncData} (F : FunD K x qual params body scope [] [] (He.fAd K p) fd) : fd.code = .ref (He.cT K p).1 := by
  obtain ⟨oc, od, dV, kV, doc, pm, an, cdv, ct, osl, rfl, lk, hcd, _, _⟩ := F.ex
  obtain ⟨c, rfl⟩ := He.codeIn_ref hcd
  rw [show (He.cT K p).1 = c from He.codeOf_eq lk rfl]
def tf : List He.Defn := [("_law_step_right", none), ("law", none)]
def TT (K : PySem.W.Frag) : List (Addr × Str) := [((He.cT K ("_law_step_right", none)).2, lq "_law_step_right"), ((He.cT K ("law", none)).2, lq "law")]
def ex (K : PySem.W.Frag) : Bool := xtB K XT && (reiB K (He.ga K "ReadError") && (oexB K (He.ga K "TooMany") && (xfB K (He.ga K "TooMany") && (sysB K && (otB K (He.ga K) OCLS && (eqIsB K (He.ga K "Bench") && (decide ((He.cT K ("_law_step_right", none)).2 ≠ (He.cT K ("law", none)).2))))))))
def ts : List He.Tab := []
abbrev RR : PySem.W.OpenRow := PySem.W.OpenLaw.row PySem.Challenge.rw_readhouse_k71_deeds_of_a_bench
abbrev hk : PySem.W.Hook := hookP 6 fa fn ts tf gs ex
def ob (s : PySem.W.SharedT) : AlP := obP 6 fa fn ts tf gs ex (HandSHeadRun.getT s)
theorem ob_eq (s : PySem.W.SharedT) : ob s = hk.obs s.abs := obP_eq (HandSHeadRun.getT_eq s)
def loose : List Str := (["_wall", "ReadError", "BadWord", "BadLength", "BadIndex", "NothingDone", "TooMany", "LETTERS", "MOST_LETTERS", "is_integer", "is_between", "is_line", "is_word", "need_word", "need_length", "MOST_READS", "ADD", "STRIKE", "MEND", "standing_behind", "Mark", "Bench", "_law_begun", "_law_mixed"] : List Str) ++ (["_law_take", "_law_pick", "_law_caught", "_law_signs", "_law_letters", "_law_is_int", "_law_odd", "_law_fresh_read", "_law_begun_bench", "_law_is_read", "_law_refusal", "_law_number_of", "_law_behind", "_law_do", "_law_drawn_deed", "_law_is_as", "_law_word_of", "_law_bent", "_law_step_right", "_law_full_right"] : List Str)
theorem run0 (w : World) : HandSHeadRun.RunEq RR (PySem.W.view RR.prog [48]) hk ob 6000 loose (updW false w) := by
  intro os
  kernel_rfl
theorem run1 (w : World) : HandSHeadRun.RunEq RR (PySem.W.view RR.prog [48]) hk ob 6000 loose (updW true w) := by
  intro os
  kernel_rfl
theorem run (w : World) : HandSHeadRun.RunEq RR (PySem.W.view RR.prog [48]) hk ob 6000 loose w := run_updW run0 run1 w
theorem facts {P : Program} {w : World} {K : PySem.W.Frag} {h : Heap} {mg : Str → Option Value} {f : Addr} (X : K.In h) (G : h.Ns mainGlobals mg) (hfa : mg ("law" : Str) = some (.ref f)) (c : SaysP fa fn ts tf gs ex w h K) :
    ∃ fd : FuncData, (∀ (s : Shared) (v : Value), BindsTo s fd ⟨[v], []⟩ [("_law_script", v)]) ∧
      ∀ base : Heap, K.In base → base.Ns mainGlobals mg → (∀ p ∈ tf.map (He.cT K), LamX.TabB base mg p.1 p.2) → FnG P w K mg base (L2.CX P w) 13 f fd ["_law_script"] (spM ⟨K, He.ga K, TT K⟩ m_law) := by
  have more : (xtB K XT && (reiB K (He.ga K "ReadError") && (oexB K (He.ga K "TooMany") && (xfB K (He.ga K "TooMany") && (sysB K && (otB K (He.ga K) OCLS && (eqIsB K (He.ga K "Bench") && (decide ((He.cT K ("_law_step_right", none)).2 ≠ (He.cT K ("law", none)).2))))))))) = true := c.x.more
  obtain ⟨y0, more⟩ := and2 more
  obtain ⟨y1, more⟩ := and2 more
  obtain ⟨y2, more⟩ := and2 more
  obtain ⟨y3, more⟩ := and2 more
  obtain ⟨y4, more⟩ := and2 more
  obtain ⟨y5, more⟩ := and2 more
  obtain ⟨y6, more⟩ := and2 more
  have y7 := more
  have hXT : XTab ⟨K, He.ga K, TT K⟩ XT := fun p hp => by
    have := List.all_eq_true.mp y0 p hp
    rw [Bool.and_eq_true] at this
    exact ⟨excCB_ok this.1, of_decide_eq_true this.2⟩
  have B : Blt mg := ⟨He.free_ok X G (c.x.t.d.fact 66 (f := .free "abs") rfl), He.free_ok X G (c.x.t.d.fact 67 (f := .free "all") rfl), He.free_ok X G (c.x.t.d.fact 68 (f := .free "any") rfl), He.free_ok X G (c.x.t.d.fact 69 (f := .free "bool") rfl), He.free_ok X G (c.x.t.d.fact 70 (f := .free "dict") rfl), He.free_ok X G (c.x.t.d.fact 71 (f := .free "enumerate") rfl), He.free_ok X G (c.x.t.d.fact 72 (f := .free "int") rfl), He.free_ok X G (c.x.t.d.fact 73 (f := .free "isinstance") rfl), He.free_ok X G (c.x.t.d.fact 74 (f := .free "len") rfl), He.free_ok X G (c.x.t.d.fact 75 (f := .free "list") rfl), He.free_ok X G (c.x.t.d.fact 76 (f := .free "max") rfl), He.free_ok X G (c.x.t.d.fact 77 (f := .free "min") rfl), He.free_ok X G (c.x.t.d.fact 78 (f := .free "range") rfl), He.free_ok X G (c.x.t.d.fact 79 (f := .free "repr") rfl), He.free_ok X G (c.x.t.d.fact 80 (f := .free "set") rfl), He.free_ok X G (c.x.t.d.fact 81 (f := .free "sorted") rfl), He.free_ok X G (c.x.t.d.fact 82 (f := .free "str") rfl), He.free_ok X G (c.x.t.d.fact 83 (f := .free "sum") rfl), He.free_ok X G (c.x.t.d.fact 84 (f := .free "tuple") rfl), He.free_ok X G (c.x.t.d.fact 85 (f := .free "zip") rfl)⟩
  have G_BadIndex := He.glo_ok X G (c.x.t.d.fact 86 (f := .glo "BadIndex") rfl)
  have G_BadLength := He.glo_ok X G (c.x.t.d.fact 87 (f := .glo "BadLength") rfl)
  have G_BadWord := He.glo_ok X G (c.x.t.d.fact 88 (f := .glo "BadWord") rfl)
  have G_NothingDone := He.glo_ok X G (c.x.t.d.fact 89 (f := .glo "NothingDone") rfl)
  have G_ReadError := He.glo_ok X G (c.x.t.d.fact 90 (f := .glo "ReadError") rfl)
  have G_TooMany := He.glo_ok X G (c.x.t.d.fact 91 (f := .glo "TooMany") rfl)
  have x_BadIndex : ExcIs K mg "BadIndex" (He.ga K "BadIndex") := ⟨G_BadIndex, He.exc_ok (c.x.t.d.fact 92 (f := .exc "BadIndex") rfl)⟩
  have x_BadLength : ExcIs K mg "BadLength" (He.ga K "BadLength") := ⟨G_BadLength, He.exc_ok (c.x.t.d.fact 93 (f := .exc "BadLength") rfl)⟩
  have x_BadWord : ExcIs K mg "BadWord" (He.ga K "BadWord") := ⟨G_BadWord, He.exc_ok (c.x.t.d.fact 94 (f := .exc "BadWord") rfl)⟩
  have x_NothingDone : ExcIs K mg "NothingDone" (He.ga K "NothingDone") := ⟨G_NothingDone, He.exc_ok (c.x.t.d.fact 95 (f := .exc "NothingDone") rfl)⟩
  have g_ADD : ∃ t, mg "ADD" = some (.str "add" t) := He.str_ok X G (c.x.t.d.fact 96 (f := .str "ADD" "add") rfl)
  have g_LETTERS : ∃ t, mg "LETTERS" = some (.str "acgt" t) := He.str_ok X G (c.x.t.d.fact 97 (f := .str "LETTERS" "acgt") rfl)
  have g_MEND : ∃ t, mg "MEND" = some (.str "mend" t) := He.str_ok X G (c.x.t.d.fact 98 (f := .str "MEND" "mend") rfl)
  have g_MOST_LETTERS : ∃ t, mg "MOST_LETTERS" = some (.int 120 t) := He.int_ok X G (c.x.t.d.fact 99 (f := .int "MOST_LETTERS" 120) rfl)
  have g_MOST_READS : ∃ t, mg "MOST_READS" = some (.int 20 t) := He.int_ok X G (c.x.t.d.fact 100 (f := .int "MOST_READS" 20) rfl)
  have g_STRIKE : ∃ t, mg "STRIKE" = some (.str "strike" t) := He.str_ok X G (c.x.t.d.fact 101 (f := .str "STRIKE" "strike") rfl)
  have hCAT : ∀ C ∈ CAT, PySem.W.exmOne K (.ref (He.ga K C)) (.ref (He.ga K "ReadError")) = some true := fun C hC => by
    simp only [CAT, List.mem_cons, List.not_mem_nil, or_false] at hC
    rcases hC with rfl | rfl | rfl | rfl | rfl
    · exact He.exm_ok (c.x.t.d.fact 102 (f := .exm "BadWord" "ReadError" true) rfl)
    · exact He.exm_ok (c.x.t.d.fact 103 (f := .exm "BadLength" "ReadError" true) rfl)
    · exact He.exm_ok (c.x.t.d.fact 104 (f := .exm "BadIndex" "ReadError" true) rfl)
    · exact He.exm_ok (c.x.t.d.fact 105 (f := .exm "NothingDone" "ReadError" true) rfl)
    · exact He.exm_ok (c.x.t.d.fact 106 (f := .exm "TooMany" "ReadError" true) rfl)
  obtain ⟨fd__wall, D__wall⟩ := c.x.t.d.def_ 0 (d := d__wall) rfl
  obtain ⟨fd_is_integer, D_is_integer⟩ := c.x.t.d.def_ 1 (d := d_is_integer) rfl
  obtain ⟨fd_is_between, D_is_between⟩ := c.x.t.d.def_ 2 (d := d_is_between) rfl
  obtain ⟨fd_is_line, D_is_line⟩ := c.x.t.d.def_ 3 (d := d_is_line) rfl
  obtain ⟨fd_is_word, D_is_word⟩ := c.x.t.d.def_ 4 (d := d_is_word) rfl
  obtain ⟨fd_need_word, D_need_word⟩ := c.x.t.d.def_ 5 (d := d_need_word) rfl
  obtain ⟨fd_need_length, D_need_length⟩ := c.x.t.d.def_ 6 (d := d_need_length) rfl
  obtain ⟨fd_standing_behind, D_standing_behind⟩ := c.x.t.d.def_ 7 (d := d_standing_behind) rfl
  obtain ⟨fd__law_begun, D__law_begun⟩ := c.x.t.d.def_ 8 (d := d__law_begun) rfl
  obtain ⟨fd__law_mixed, D__law_mixed⟩ := c.x.t.d.def_ 9 (d := d__law_mixed) rfl
  obtain ⟨fd__law_take, D__law_take⟩ := c.x.t.d.def_ 10 (d := d__law_take) rfl
  obtain ⟨fd__law_pick, D__law_pick⟩ := c.x.t.d.def_ 11 (d := d__law_pick) rfl
  obtain ⟨fd__law_caught, D__law_caught⟩ := c.x.t.d.def_ 12 (d := d__law_caught) rfl
  obtain ⟨fd__law_signs, D__law_signs⟩ := c.x.t.d.def_ 13 (d := d__law_signs) rfl
  obtain ⟨fd__law_letters, D__law_letters⟩ := c.x.t.d.def_ 14 (d := d__law_letters) rfl
  obtain ⟨fd__law_is_int, D__law_is_int⟩ := c.x.t.d.def_ 15 (d := d__law_is_int) rfl
  obtain ⟨fd__law_odd, D__law_odd⟩ := c.x.t.d.def_ 16 (d := d__law_odd) rfl
  obtain ⟨fd__law_fresh_read, D__law_fresh_read⟩ := c.x.t.d.def_ 17 (d := d__law_fresh_read) rfl
  obtain ⟨fd__law_begun_bench, D__law_begun_bench⟩ := c.x.t.d.def_ 18 (d := d__law_begun_bench) rfl
  obtain ⟨fd__law_is_read, D__law_is_read⟩ := c.x.t.d.def_ 19 (d := d__law_is_read) rfl
  obtain ⟨fd__law_refusal, D__law_refusal⟩ := c.x.t.d.def_ 20 (d := d__law_refusal) rfl
  obtain ⟨fd__law_number_of, D__law_number_of⟩ := c.x.t.d.def_ 21 (d := d__law_number_of) rfl
  obtain ⟨fd__law_behind, D__law_behind⟩ := c.x.t.d.def_ 22 (d := d__law_behind) rfl
  obtain ⟨fd__law_do, D__law_do⟩ := c.x.t.d.def_ 23 (d := d__law_do) rfl
  obtain ⟨fd__law_drawn_deed, D__law_drawn_deed⟩ := c.x.t.d.def_ 24 (d := d__law_drawn_deed) rfl
  obtain ⟨fd__law_is_as, D__law_is_as⟩ := c.x.t.d.def_ 25 (d := d__law_is_as) rfl
  obtain ⟨fd__law_word_of, D__law_word_of⟩ := c.x.t.d.def_ 26 (d := d__law_word_of) rfl
  obtain ⟨fd__law_bent, D__law_bent⟩ := c.x.t.d.def_ 27 (d := d__law_bent) rfl
  obtain ⟨fd__law_step_right, D__law_step_right⟩ := c.x.t.d.def_ 28 (d := d__law_step_right) rfl
  obtain ⟨fd__law_full_right, D__law_full_right⟩ := c.x.t.d.def_ 29 (d := d__law_full_right) rfl
  obtain ⟨fd_law, D_law⟩ := c.x.t.d.def_ 30 (d := d_law) rfl
  obtain ⟨fd_Mark__init, D_Mark__init⟩ := c.x.t.d.def_ 31 (d := d_Mark__init) rfl
  obtain ⟨fd_Bench__init, D_Bench__init⟩ := c.x.t.d.def_ 32 (d := d_Bench__init) rfl
  obtain ⟨fd_Bench__eq, D_Bench__eq⟩ := c.x.t.d.def_ 33 (d := d_Bench__eq) rfl
  obtain ⟨fd_Bench__tried, D_Bench__tried⟩ := c.x.t.d.def_ 34 (d := d_Bench__tried) rfl
  obtain ⟨fd_Bench__copy, D_Bench__copy⟩ := c.x.t.d.def_ 35 (d := d_Bench__copy) rfl
  obtain ⟨fd_Bench__do, D_Bench__do⟩ := c.x.t.d.def_ 36 (d := d_Bench__do) rfl
  obtain ⟨fd_Bench__need_read, D_Bench__need_read⟩ := c.x.t.d.def_ 37 (d := d_Bench__need_read) rfl
  obtain ⟨fd_Bench__need_number, D_Bench__need_number⟩ := c.x.t.d.def_ 38 (d := d_Bench__need_number) rfl
  obtain ⟨fd_Bench__add, D_Bench__add⟩ := c.x.t.d.def_ 39 (d := d_Bench__add) rfl
  obtain ⟨fd_Bench__strike, D_Bench__strike⟩ := c.x.t.d.def_ 40 (d := d_Bench__strike) rfl
  obtain ⟨fd_Bench__mend, D_Bench__mend⟩ := c.x.t.d.def_ 41 (d := d_Bench__mend) rfl
  obtain ⟨fd_Bench__undo, D_Bench__undo⟩ := c.x.t.d.def_ 42 (d := d_Bench__undo) rfl
  obtain ⟨fd_Bench__runs_of_reads, D_Bench__runs_of_reads⟩ := c.x.t.d.def_ 43 (d := d_Bench__runs_of_reads) rfl
  obtain ⟨fd_Bench__net, D_Bench__net⟩ := c.x.t.d.def_ 44 (d := d_Bench__net) rfl
  obtain ⟨fd_Bench__web, D_Bench__web⟩ := c.x.t.d.def_ 45 (d := d_Bench__web) rfl
  obtain ⟨fd_Bench__line_count, D_Bench__line_count⟩ := c.x.t.d.def_ 46 (d := d_Bench__line_count) rfl
  obtain ⟨fd_Bench__circuit_count, D_Bench__circuit_count⟩ := c.x.t.d.def_ 47 (d := d_Bench__circuit_count) rfl
  obtain ⟨fd_Bench__least_word, D_Bench__least_word⟩ := c.x.t.d.def_ 48 (d := d_Bench__least_word) rfl
  obtain ⟨fd_Bench__some_web, D_Bench__some_web⟩ := c.x.t.d.def_ 49 (d := d_Bench__some_web) rfl
  obtain ⟨fd_Bench__sure, D_Bench__sure⟩ := c.x.t.d.def_ 50 (d := d_Bench__sure) rfl
  obtain ⟨fd_Bench__evasion, D_Bench__evasion⟩ := c.x.t.d.def_ 51 (d := d_Bench__evasion) rfl
  obtain ⟨fd_Bench__longest_sure, D_Bench__longest_sure⟩ := c.x.t.d.def_ 52 (d := d_Bench__longest_sure) rfl
  obtain ⟨fd_Bench__held, D_Bench__held⟩ := c.x.t.d.def_ 53 (d := d_Bench__held) rfl
  obtain ⟨fd_Bench__near, D_Bench__near⟩ := c.x.t.d.def_ 54 (d := d_Bench__near) rfl
  obtain ⟨PO_Bench__length, fd_Bench__length, D_Bench__length⟩ := c.get 0 (d := g_Bench__length) rfl
  obtain ⟨PO_Bench__reads, fd_Bench__reads, D_Bench__reads⟩ := c.get 1 (d := g_Bench__reads) rfl
  obtain ⟨PO_Bench__log, fd_Bench__log, D_Bench__log⟩ := c.get 2 (d := g_Bench__log) rfl
  obtain ⟨fd_init_TooMany, D_init_TooMany⟩ := c.x.t.d.def_ 55 (d := d_init_TooMany) rfl
  have RI := reiB_ok y1
  have OX_TooMany := oexB_ok y2
  have hXF : XFTab ⟨K, He.ga K, TT K⟩ XF := fun p hp => by
    simp only [XF, List.mem_cons, List.not_mem_nil, or_false] at hp
    rcases hp with rfl
    · exact ⟨xfB_ok y3, He.noat_ok (c.x.t.d.fact 108 (f := .noat "TooMany" "limit") rfl)⟩
  have G__wall := He.glo_ok X G (c.x.t.d.fact 0 (f := .glo "_wall") rfl)
  have G_is_integer := He.glo_ok X G (c.x.t.d.fact 1 (f := .glo "is_integer") rfl)
  have G_is_between := He.glo_ok X G (c.x.t.d.fact 2 (f := .glo "is_between") rfl)
  have G_is_line := He.glo_ok X G (c.x.t.d.fact 3 (f := .glo "is_line") rfl)
  have G_is_word := He.glo_ok X G (c.x.t.d.fact 4 (f := .glo "is_word") rfl)
  have G_need_word := He.glo_ok X G (c.x.t.d.fact 5 (f := .glo "need_word") rfl)
  have G_need_length := He.glo_ok X G (c.x.t.d.fact 6 (f := .glo "need_length") rfl)
  have G_standing_behind := He.glo_ok X G (c.x.t.d.fact 7 (f := .glo "standing_behind") rfl)
  have G__law_begun := He.glo_ok X G (c.x.t.d.fact 8 (f := .glo "_law_begun") rfl)
  have G__law_mixed := He.glo_ok X G (c.x.t.d.fact 9 (f := .glo "_law_mixed") rfl)
  have G__law_take := He.glo_ok X G (c.x.t.d.fact 10 (f := .glo "_law_take") rfl)
  have G__law_pick := He.glo_ok X G (c.x.t.d.fact 11 (f := .glo "_law_pick") rfl)
  have G__law_caught := He.glo_ok X G (c.x.t.d.fact 12 (f := .glo "_law_caught") rfl)
  have G__law_signs := He.glo_ok X G (c.x.t.d.fact 13 (f := .glo "_law_signs") rfl)
  have G__law_letters := He.glo_ok X G (c.x.t.d.fact 14 (f := .glo "_law_letters") rfl)
  have G__law_is_int := He.glo_ok X G (c.x.t.d.fact 15 (f := .glo "_law_is_int") rfl)
  have G__law_odd := He.glo_ok X G (c.x.t.d.fact 16 (f := .glo "_law_odd") rfl)
  have G__law_fresh_read := He.glo_ok X G (c.x.t.d.fact 17 (f := .glo "_law_fresh_read") rfl)
  have G__law_begun_bench := He.glo_ok X G (c.x.t.d.fact 18 (f := .glo "_law_begun_bench") rfl)
  have G__law_is_read := He.glo_ok X G (c.x.t.d.fact 19 (f := .glo "_law_is_read") rfl)
  have G__law_refusal := He.glo_ok X G (c.x.t.d.fact 20 (f := .glo "_law_refusal") rfl)
  have G__law_number_of := He.glo_ok X G (c.x.t.d.fact 21 (f := .glo "_law_number_of") rfl)
  have G__law_behind := He.glo_ok X G (c.x.t.d.fact 22 (f := .glo "_law_behind") rfl)
  have G__law_do := He.glo_ok X G (c.x.t.d.fact 23 (f := .glo "_law_do") rfl)
  have G__law_drawn_deed := He.glo_ok X G (c.x.t.d.fact 24 (f := .glo "_law_drawn_deed") rfl)
  have G__law_is_as := He.glo_ok X G (c.x.t.d.fact 25 (f := .glo "_law_is_as") rfl)
  have G__law_word_of := He.glo_ok X G (c.x.t.d.fact 26 (f := .glo "_law_word_of") rfl)
  have G__law_bent := He.glo_ok X G (c.x.t.d.fact 27 (f := .glo "_law_bent") rfl)
  have G__law_step_right := He.glo_ok X G (c.x.t.d.fact 28 (f := .glo "_law_step_right") rfl)
  have G__law_full_right := He.glo_ok X G (c.x.t.d.fact 29 (f := .glo "_law_full_right") rfl)
  have G_law := He.glo_ok X G (c.x.t.d.fact 30 (f := .glo "law") rfl)
  have G_Mark := He.glo_ok X G (c.x.t.d.fact 31 (f := .glo "Mark") rfl)
  have CL_Mark := He.cls_ok (c.x.t.d.fact 33 (f := .cls "Mark") rfl)
  have G_Bench := He.glo_ok X G (c.x.t.d.fact 32 (f := .glo "Bench") rfl)
  have CL_Bench := He.cls_ok (c.x.t.d.fact 34 (f := .cls "Bench") rfl)
  have hCT : CTab ⟨K, He.ga K, TT K⟩ CTB := fun p hp => by
    simp only [CTB, List.mem_cons, List.not_mem_nil, or_false] at hp
    rcases hp with rfl | rfl | rfl | rfl | rfl | rfl | rfl
    · exact ⟨CL_Mark, He.noat_ok (c.x.t.d.fact 35 (f := .noat "Mark" "outer") rfl)⟩
    · exact ⟨CL_Mark, He.noat_ok (c.x.t.d.fact 36 (f := .noat "Mark" "deeds") rfl)⟩
    · exact ⟨CL_Mark, He.noat_ok (c.x.t.d.fact 37 (f := .noat "Mark" "known") rfl)⟩
    · exact ⟨CL_Bench, He.noat_ok (c.x.t.d.fact 38 (f := .noat "Bench" "own_length") rfl)⟩
    · exact ⟨CL_Bench, He.noat_ok (c.x.t.d.fact 39 (f := .noat "Bench" "deeds") rfl)⟩
    · exact ⟨CL_Bench, He.noat_ok (c.x.t.d.fact 40 (f := .noat "Bench" "known") rfl)⟩
    · exact ⟨CL_Bench, He.noat_ok (c.x.t.d.fact 41 (f := .noat "Bench" "mark") rfl)⟩
  have e := hfa.symm.trans G_law
  cases e
  have b := FunD.bindsA (ps := ["_law_script"]) D_law fun _ _ _ _ _ _ us hl => match us, hl with | [_], _ => rfl
  refine ⟨fd_law, fun s v => b s [v] rfl, fun base _ _ TB => ?_⟩
  have M_TooMany := He.meth_ok (c.x.t.d.fact 107 (f := .meth "TooMany" "__init__") rfl)
  have XI_TooMany : ExI P w ⟨K, He.ga K, TT K⟩ mg base "TooMany" "limit" := ⟨⟨_, fd_init_TooMany, OX_TooMany, M_TooMany.at_, beq_iff_eq.mp M_TooMany.fn, lk_init_TooMany (k := ⟨K, He.ga K, TT K⟩) B G_ReadError RI OX_TooMany (He.noat_ok (c.x.t.d.fact 108 (f := .noat "TooMany" "limit") rfl)) D_init_TooMany, D_init_TooMany.bindsN fun _ _ _ _ _ _ us hl => match us, hl with | [_, _], _ => rfl, G_TooMany⟩⟩
  have hSys : SysD K := sysB_ok y4
  have hOT : OTab ⟨K, He.ga K, TT K⟩ OCLS := ⟨y5, fun C hC => by
    simp only [OCLS, List.mem_cons, List.not_mem_nil, or_false] at hC
    rcases hC with rfl | rfl
    · exact CL_Mark
    · exact CL_Bench⟩
  have EB_Bench := y6
  have z7 := of_decide_eq_true y7
  have TB__law_step_right := TB (He.cT K ("_law_step_right", none)) (List.mem_cons_self ..)
  have u__law_step_right : ∀ p ∈ TT K, p.1 = (He.cT K ("_law_step_right", none)).2 → p.2 = lq "_law_step_right" := fun p hp e => by
    simp only [TT, List.mem_cons, List.not_mem_nil, or_false] at hp
    rcases hp with rfl | rfl
    · rfl
    · exact absurd e (Ne.symm z7)
  have TB_law := TB (He.cT K ("law", none)) (List.mem_cons_of_mem _ (List.mem_cons_self ..))
  have u_law : ∀ p ∈ TT K, p.1 = (He.cT K ("law", none)).2 → p.2 = lq "law" := fun p hp e => by
    simp only [TT, List.mem_cons, List.not_mem_nil, or_false] at hp
    rcases hp with rfl | rfl
    · exact absurd e z7
    · rfl
  have F__wall : FnIs P w K mg base 1 "_wall" ["k"] (spM ⟨K, He.ga K, TT K⟩ m__wall) := ⟨_, fd__wall, lk__wall (k := ⟨K, He.ga K, TT K⟩) B D__wall, G__wall, D__wall.kp, D__wall.bindsN fun _ _ _ _ _ _ us hl => match us, hl with | [_], _ => rfl⟩
  have F_is_integer : FnIs P w K mg base 1 "is_integer" ["value"] (spM ⟨K, He.ga K, TT K⟩ m_is_integer) := ⟨_, fd_is_integer, lk_is_integer (k := ⟨K, He.ga K, TT K⟩) B hXT D_is_integer, G_is_integer, D_is_integer.kp, D_is_integer.bindsN fun _ _ _ _ _ _ us hl => match us, hl with | [_], _ => rfl⟩
  have F_is_line : FnIs P w K mg base 1 "is_line" ["value"] (spM ⟨K, He.ga K, TT K⟩ m_is_line) := ⟨_, fd_is_line, lk_is_line (k := ⟨K, He.ga K, TT K⟩) B g_LETTERS hXT D_is_line, G_is_line, D_is_line.kp, D_is_line.bindsN fun _ _ _ _ _ _ us hl => match us, hl with | [_], _ => rfl⟩
  have F_standing_behind : FnIs P w K mg base 1 "standing_behind" ["deeds"] (spM ⟨K, He.ga K, TT K⟩ m_standing_behind) := ⟨_, fd_standing_behind, lk_standing_behind (k := ⟨K, He.ga K, TT K⟩) B g_ADD g_STRIKE D_standing_behind, G_standing_behind, D_standing_behind.kp, D_standing_behind.bindsN fun _ _ _ _ _ _ us hl => match us, hl with | [_], _ => rfl⟩
  have F__law_begun : FnIs P w K mg base 1 "_law_begun" ["_law_script"] (spM ⟨K, He.ga K, TT K⟩ m_begun) := ⟨_, fd__law_begun, lk__law_begun (k := ⟨K, He.ga K, TT K⟩) B D__law_begun, G__law_begun, D__law_begun.kp, D__law_begun.bindsN fun _ _ _ _ _ _ us hl => match us, hl with | [_], _ => rfl⟩
  have F__law_mixed : FnIs P w K mg base 1 "_law_mixed" ["_law_draw"] (sp__law_mixed K (He.ga K)) := ⟨_, fd__law_mixed, lk__law_mixed (k := ⟨K, He.ga K, TT K⟩) B D__law_mixed, G__law_mixed, D__law_mixed.kp, D__law_mixed.bindsN fun _ _ _ _ _ _ us hl => match us, hl with | [_], _ => rfl⟩
  have F__law_is_int : FnIs P w K mg base 1 "_law_is_int" ["_law_value"] (spM ⟨K, He.ga K, TT K⟩ m__law_is_int) := ⟨_, fd__law_is_int, lk__law_is_int (k := ⟨K, He.ga K, TT K⟩) B hXT D__law_is_int, G__law_is_int, D__law_is_int.kp, D__law_is_int.bindsN fun _ _ _ _ _ _ us hl => match us, hl with | [_], _ => rfl⟩
  have F__law_begun_bench : FnIs P w K mg base 1 "_law_begun_bench" ["_law_length"] (spM ⟨K, He.ga K, TT K⟩ m__law_begun_bench) := ⟨_, fd__law_begun_bench, lk__law_begun_bench (k := ⟨K, He.ga K, TT K⟩) B D__law_begun_bench, G__law_begun_bench, D__law_begun_bench.kp, D__law_begun_bench.bindsN fun _ _ _ _ _ _ us hl => match us, hl with | [_], _ => rfl⟩
  have F__law_is_read : FnIs P w K mg base 1 "_law_is_read" ["_law_value", "_law_length"] (spM ⟨K, He.ga K, TT K⟩ m__law_is_read) := ⟨_, fd__law_is_read, lk__law_is_read (k := ⟨K, He.ga K, TT K⟩) B hXT D__law_is_read, G__law_is_read, D__law_is_read.kp, D__law_is_read.bindsN fun _ _ _ _ _ _ us hl => match us, hl with | [_, _], _ => rfl⟩
  have F__law_number_of : FnIs P w K mg base 1 "_law_number_of" ["_law_account"] (spM ⟨K, He.ga K, TT K⟩ m__law_number_of) := ⟨_, fd__law_number_of, lk__law_number_of (k := ⟨K, He.ga K, TT K⟩) B D__law_number_of, G__law_number_of, D__law_number_of.kp, D__law_number_of.bindsN fun _ _ _ _ _ _ us hl => match us, hl with | [_], _ => rfl⟩
  have F__law_word_of : FnIs P w K mg base 1 "_law_word_of" ["_law_error"] (spM ⟨K, He.ga K, TT K⟩ m__law_word_of) := ⟨_, fd__law_word_of, lk__law_word_of (k := ⟨K, He.ga K, TT K⟩) B G_TooMany G_BadWord G_BadIndex G_NothingDone hXT D__law_word_of, G__law_word_of, D__law_word_of.kp, D__law_word_of.bindsN fun _ _ _ _ _ _ us hl => match us, hl with | [_], _ => rfl⟩
  have I_Mark : MkIs P w K mg base 1 "Mark" (He.ga K "Mark") ["self", "outer", "deeds", "known"] (spM ⟨K, He.ga K, TT K⟩ m_Mark__init) := ⟨⟨_, fd_Mark__init, He.mkr_ok (c.x.t.d.fact 42 (f := .mkr "Mark") rfl), lk_Mark__init (k := ⟨K, He.ga K, TT K⟩) B hCT D_Mark__init, D_Mark__init.bindsN fun _ _ _ _ _ _ us hl => match us, hl with | [_, _, _, _], _ => rfl, G_Mark⟩⟩
  have P_Bench__length : PrIs P w K mg base 1 (He.ga K "Bench") "length" (spM ⟨K, He.ga K, TT K⟩ m_Bench__length) := ⟨⟨_, _, fd_Bench__length, CL_Bench, PO_Bench__length, lk_Bench__length (k := ⟨K, He.ga K, TT K⟩) B hCT D_Bench__length, D_Bench__length.bindsN fun _ _ _ _ _ _ us hl => match us, hl with | [_], _ => rfl⟩⟩
  have P_Bench__reads : PrIs P w K mg base 1 (He.ga K "Bench") "reads" (spM ⟨K, He.ga K, TT K⟩ m_Bench__reads) := ⟨⟨_, _, fd_Bench__reads, CL_Bench, PO_Bench__reads, lk_Bench__reads (k := ⟨K, He.ga K, TT K⟩) B hCT D_Bench__reads, D_Bench__reads.bindsN fun _ _ _ _ _ _ us hl => match us, hl with | [_], _ => rfl⟩⟩
  have P_Bench__log : PrIs P w K mg base 1 (He.ga K "Bench") "log" (spM ⟨K, He.ga K, TT K⟩ m_Bench__log) := ⟨⟨_, _, fd_Bench__log, CL_Bench, PO_Bench__log, lk_Bench__log (k := ⟨K, He.ga K, TT K⟩) B hCT D_Bench__log, D_Bench__log.bindsN fun _ _ _ _ _ _ us hl => match us, hl with | [_], _ => rfl⟩⟩
  have Q_Bench : EqIs P w K mg base 1 (He.ga K "Bench") (spM ⟨K, He.ga K, TT K⟩ m_Bench__eq) := ⟨⟨_, fd_Bench__eq, _, CL_Bench, He.meth_ok (c.x.t.d.fact 44 (f := .meth "Bench" "__eq__") rfl), lk_Bench__eq (k := ⟨K, He.ga K, TT K⟩) B G_Bench hCT hOT D_Bench__eq, D_Bench__eq.bindsN fun _ _ _ _ _ _ us hl => match us, hl with | [_, _], _ => rfl, rfl⟩, EB_Bench⟩
  have F_is_between : FnIs P w K mg base 2 "is_between" ["value", "least", "most"] (spM ⟨K, He.ga K, TT K⟩ m_is_between) := ⟨_, fd_is_between, lk_is_between (k := ⟨K, He.ga K, TT K⟩) B F_is_integer D_is_between, G_is_between, D_is_between.kp, D_is_between.bindsN fun _ _ _ _ _ _ us hl => match us, hl with | [_, _, _], _ => rfl⟩
  have F_is_word : FnIs P w K mg base 2 "is_word" ["value"] (spM ⟨K, He.ga K, TT K⟩ m_is_word) := ⟨_, fd_is_word, lk_is_word (k := ⟨K, He.ga K, TT K⟩) B F_is_line D_is_word, G_is_word, D_is_word.kp, D_is_word.bindsN fun _ _ _ _ _ _ us hl => match us, hl with | [_], _ => rfl⟩
  have F__law_take : FnIs P w K mg base 2 "_law_take" ["_law_draw", "_law_total"] (spM ⟨K, He.ga K, TT K⟩ m_take) := ⟨_, fd__law_take, lk__law_take (k := ⟨K, He.ga K, TT K⟩) B F__law_mixed D__law_take, G__law_take, D__law_take.kp, D__law_take.bindsN fun _ _ _ _ _ _ us hl => match us, hl with | [_, _], _ => rfl⟩
  have F__law_refusal : FnIs P w K mg base 2 "_law_refusal" ["_law_account", "_law_deed"] (spM ⟨K, He.ga K, TT K⟩ m__law_refusal) := ⟨_, fd__law_refusal, lk__law_refusal (k := ⟨K, He.ga K, TT K⟩) B F__law_is_int F__law_is_read D__law_refusal, G__law_refusal, D__law_refusal.kp, D__law_refusal.bindsN fun _ _ _ _ _ _ us hl => match us, hl with | [_, _], _ => rfl⟩
  have F__law_behind : FnIs P w K mg base 2 "_law_behind" ["_law_account", "_law_deed"] (spM ⟨K, He.ga K, TT K⟩ m__law_behind) := ⟨_, fd__law_behind, lk__law_behind (k := ⟨K, He.ga K, TT K⟩) B F__law_number_of D__law_behind, G__law_behind, D__law_behind.kp, D__law_behind.bindsN fun _ _ _ _ _ _ us hl => match us, hl with | [_, _], _ => rfl⟩
  have M_Bench__tried : MtIs P w K mg base 2 (He.ga K "Bench") "tried" ["self", "work"] (spM ⟨K, He.ga K, TT K⟩ m_Bench__tried) := ⟨⟨_, fd_Bench__tried, CL_Bench, He.meth_ok (c.x.t.d.fact 45 (f := .meth "Bench" "tried") rfl), lk_Bench__tried (k := ⟨K, He.ga K, TT K⟩) B F__wall D_Bench__tried, D_Bench__tried.bindsN fun _ _ _ _ _ _ us hl => match us, hl with | [_, _], _ => rfl⟩⟩
  have M_Bench__copy : MtIs P w K mg base 2 (He.ga K "Bench") "copy" ["self"] (spM ⟨K, He.ga K, TT K⟩ m_Bench__copy) := ⟨⟨_, fd_Bench__copy, CL_Bench, He.meth_ok (c.x.t.d.fact 46 (f := .meth "Bench" "copy") rfl), lk_Bench__copy (k := ⟨K, He.ga K, TT K⟩) B F__wall D_Bench__copy, D_Bench__copy.bindsN fun _ _ _ _ _ _ us hl => match us, hl with | [_], _ => rfl⟩⟩
  have M_Bench__do : MtIs P w K mg base 2 (He.ga K "Bench") "do" ["self", "deed"] (spM ⟨K, He.ga K, TT K⟩ m_Bench__do) := ⟨⟨_, fd_Bench__do, CL_Bench, He.meth_ok (c.x.t.d.fact 47 (f := .meth "Bench" "do") rfl), lk_Bench__do (k := ⟨K, He.ga K, TT K⟩) B F_standing_behind hCT D_Bench__do, D_Bench__do.bindsN fun _ _ _ _ _ _ us hl => match us, hl with | [_, _], _ => rfl⟩⟩
  have M_Bench__need_number : MtIs P w K mg base 2 (He.ga K "Bench") "need_number" ["self", "number"] (spM ⟨K, He.ga K, TT K⟩ m_Bench__need_number) := ⟨⟨_, fd_Bench__need_number, CL_Bench, He.meth_ok (c.x.t.d.fact 49 (f := .meth "Bench" "need_number") rfl), lk_Bench__need_number (k := ⟨K, He.ga K, TT K⟩) B F_is_integer x_BadIndex hCT D_Bench__need_number, D_Bench__need_number.bindsN fun _ _ _ _ _ _ us hl => match us, hl with | [_, _], _ => rfl⟩⟩
  have M_Bench__undo : MtIs P w K mg base 2 (He.ga K "Bench") "undo" ["self"] (spM ⟨K, He.ga K, TT K⟩ m_Bench__undo) := ⟨⟨_, fd_Bench__undo, CL_Bench, He.meth_ok (c.x.t.d.fact 53 (f := .meth "Bench" "undo") rfl), lk_Bench__undo (k := ⟨K, He.ga K, TT K⟩) B F_standing_behind x_NothingDone hCT D_Bench__undo, D_Bench__undo.bindsN fun _ _ _ _ _ _ us hl => match us, hl with | [_], _ => rfl⟩⟩
  have M_Bench__runs_of_reads : MtIs P w K mg base 2 (He.ga K "Bench") "runs_of_reads" ["self"] (spM ⟨K, He.ga K, TT K⟩ m_Bench__runs_of_reads) := ⟨⟨_, fd_Bench__runs_of_reads, CL_Bench, He.meth_ok (c.x.t.d.fact 54 (f := .meth "Bench" "runs_of_reads") rfl), lk_Bench__runs_of_reads (k := ⟨K, He.ga K, TT K⟩) B F__wall D_Bench__runs_of_reads, D_Bench__runs_of_reads.bindsN fun _ _ _ _ _ _ us hl => match us, hl with | [_], _ => rfl⟩⟩
  have M_Bench__net : MtIs P w K mg base 2 (He.ga K "Bench") "net" ["self"] (spM ⟨K, He.ga K, TT K⟩ m_Bench__net) := ⟨⟨_, fd_Bench__net, CL_Bench, He.meth_ok (c.x.t.d.fact 55 (f := .meth "Bench" "net") rfl), lk_Bench__net (k := ⟨K, He.ga K, TT K⟩) B F__wall D_Bench__net, D_Bench__net.bindsN fun _ _ _ _ _ _ us hl => match us, hl with | [_], _ => rfl⟩⟩
  have M_Bench__web : MtIs P w K mg base 2 (He.ga K "Bench") "web" ["self"] (spM ⟨K, He.ga K, TT K⟩ m_Bench__web) := ⟨⟨_, fd_Bench__web, CL_Bench, He.meth_ok (c.x.t.d.fact 56 (f := .meth "Bench" "web") rfl), lk_Bench__web (k := ⟨K, He.ga K, TT K⟩) B F__wall D_Bench__web, D_Bench__web.bindsN fun _ _ _ _ _ _ us hl => match us, hl with | [_], _ => rfl⟩⟩
  have M_Bench__line_count : MtIs P w K mg base 2 (He.ga K "Bench") "line_count" ["self"] (spM ⟨K, He.ga K, TT K⟩ m_Bench__line_count) := ⟨⟨_, fd_Bench__line_count, CL_Bench, He.meth_ok (c.x.t.d.fact 57 (f := .meth "Bench" "line_count") rfl), lk_Bench__line_count (k := ⟨K, He.ga K, TT K⟩) B F__wall D_Bench__line_count, D_Bench__line_count.bindsN fun _ _ _ _ _ _ us hl => match us, hl with | [_], _ => rfl⟩⟩
  have M_Bench__circuit_count : MtIs P w K mg base 2 (He.ga K "Bench") "circuit_count" ["self"] (spM ⟨K, He.ga K, TT K⟩ m_Bench__circuit_count) := ⟨⟨_, fd_Bench__circuit_count, CL_Bench, He.meth_ok (c.x.t.d.fact 58 (f := .meth "Bench" "circuit_count") rfl), lk_Bench__circuit_count (k := ⟨K, He.ga K, TT K⟩) B F__wall D_Bench__circuit_count, D_Bench__circuit_count.bindsN fun _ _ _ _ _ _ us hl => match us, hl with | [_], _ => rfl⟩⟩
  have M_Bench__least_word : MtIs P w K mg base 2 (He.ga K "Bench") "least_word" ["self"] (spM ⟨K, He.ga K, TT K⟩ m_Bench__least_word) := ⟨⟨_, fd_Bench__least_word, CL_Bench, He.meth_ok (c.x.t.d.fact 59 (f := .meth "Bench" "least_word") rfl), lk_Bench__least_word (k := ⟨K, He.ga K, TT K⟩) B F__wall D_Bench__least_word, D_Bench__least_word.bindsN fun _ _ _ _ _ _ us hl => match us, hl with | [_], _ => rfl⟩⟩
  have M_Bench__some_web : MtIs P w K mg base 2 (He.ga K "Bench") "some_web" ["self"] (spM ⟨K, He.ga K, TT K⟩ m_Bench__some_web) := ⟨⟨_, fd_Bench__some_web, CL_Bench, He.meth_ok (c.x.t.d.fact 60 (f := .meth "Bench" "some_web") rfl), lk_Bench__some_web (k := ⟨K, He.ga K, TT K⟩) B F__wall D_Bench__some_web, D_Bench__some_web.bindsN fun _ _ _ _ _ _ us hl => match us, hl with | [_], _ => rfl⟩⟩
  have M_Bench__sure : MtIs P w K mg base 2 (He.ga K "Bench") "sure" ["self", "word"] (spM ⟨K, He.ga K, TT K⟩ m_Bench__sure) := ⟨⟨_, fd_Bench__sure, CL_Bench, He.meth_ok (c.x.t.d.fact 61 (f := .meth "Bench" "sure") rfl), lk_Bench__sure (k := ⟨K, He.ga K, TT K⟩) B F__wall D_Bench__sure, D_Bench__sure.bindsN fun _ _ _ _ _ _ us hl => match us, hl with | [_, _], _ => rfl⟩⟩
  have M_Bench__evasion : MtIs P w K mg base 2 (He.ga K "Bench") "evasion" ["self", "word"] (spM ⟨K, He.ga K, TT K⟩ m_Bench__evasion) := ⟨⟨_, fd_Bench__evasion, CL_Bench, He.meth_ok (c.x.t.d.fact 62 (f := .meth "Bench" "evasion") rfl), lk_Bench__evasion (k := ⟨K, He.ga K, TT K⟩) B F__wall D_Bench__evasion, D_Bench__evasion.bindsN fun _ _ _ _ _ _ us hl => match us, hl with | [_, _], _ => rfl⟩⟩
  have M_Bench__longest_sure : MtIs P w K mg base 2 (He.ga K "Bench") "longest_sure" ["self"] (spM ⟨K, He.ga K, TT K⟩ m_Bench__longest_sure) := ⟨⟨_, fd_Bench__longest_sure, CL_Bench, He.meth_ok (c.x.t.d.fact 63 (f := .meth "Bench" "longest_sure") rfl), lk_Bench__longest_sure (k := ⟨K, He.ga K, TT K⟩) B F__wall D_Bench__longest_sure, D_Bench__longest_sure.bindsN fun _ _ _ _ _ _ us hl => match us, hl with | [_], _ => rfl⟩⟩
  have M_Bench__held : MtIs P w K mg base 2 (He.ga K "Bench") "held" ["self"] (spM ⟨K, He.ga K, TT K⟩ m_Bench__held) := ⟨⟨_, fd_Bench__held, CL_Bench, He.meth_ok (c.x.t.d.fact 64 (f := .meth "Bench" "held") rfl), lk_Bench__held (k := ⟨K, He.ga K, TT K⟩) B F__wall D_Bench__held, D_Bench__held.bindsN fun _ _ _ _ _ _ us hl => match us, hl with | [_], _ => rfl⟩⟩
  have M_Bench__near : MtIs P w K mg base 2 (He.ga K "Bench") "near" ["self", "word", "edits"] (spM ⟨K, He.ga K, TT K⟩ m_Bench__near) := ⟨⟨_, fd_Bench__near, CL_Bench, He.meth_ok (c.x.t.d.fact 65 (f := .meth "Bench" "near") rfl), lk_Bench__near (k := ⟨K, He.ga K, TT K⟩) B F__wall D_Bench__near, D_Bench__near.bindsN fun _ _ _ _ _ _ us hl => match us, hl with | [_, _, _], _ => rfl⟩⟩
  have F_need_word : FnIs P w K mg base 3 "need_word" ["word"] (spM ⟨K, He.ga K, TT K⟩ m_need_word) := ⟨_, fd_need_word, lk_need_word (k := ⟨K, He.ga K, TT K⟩) B F_is_word x_BadWord D_need_word, G_need_word, D_need_word.kp, D_need_word.bindsN fun _ _ _ _ _ _ us hl => match us, hl with | [_], _ => rfl⟩
  have F_need_length : FnIs P w K mg base 3 "need_length" ["length"] (spM ⟨K, He.ga K, TT K⟩ m_need_length) := ⟨_, fd_need_length, lk_need_length (k := ⟨K, He.ga K, TT K⟩) B F_is_between x_BadLength g_MOST_LETTERS D_need_length, G_need_length, D_need_length.kp, D_need_length.bindsN fun _ _ _ _ _ _ us hl => match us, hl with | [_], _ => rfl⟩
  have F__law_pick : FnIs P w K mg base 3 "_law_pick" ["_law_draw", "_law_some"] (spM ⟨K, He.ga K, TT K⟩ m__law_pick) := ⟨_, fd__law_pick, lk__law_pick (k := ⟨K, He.ga K, TT K⟩) B F__law_take D__law_pick, G__law_pick, D__law_pick.kp, D__law_pick.bindsN fun _ _ _ _ _ _ us hl => match us, hl with | [_, _], _ => rfl⟩
  have F__law_is_as : FnGs P w K mg base 3 "_law_is_as" ["_law_bench", "_law_account"] (spM ⟨K, He.ga K, TT K⟩ m__law_is_as) := ⟨_, fd__law_is_as, lk__law_is_as (k := ⟨K, He.ga K, TT K⟩) B P_Bench__log P_Bench__reads P_Bench__length hSys D__law_is_as, G__law_is_as, D__law_is_as.kp, D__law_is_as.bindsN fun _ _ _ _ _ _ us hl => match us, hl with | [_, _], _ => rfl⟩
  have M_Bench__strike : MtIs P w K mg base 3 (He.ga K "Bench") "strike" ["self", "number"] (spM ⟨K, He.ga K, TT K⟩ m_Bench__strike) := ⟨⟨_, fd_Bench__strike, CL_Bench, He.meth_ok (c.x.t.d.fact 51 (f := .meth "Bench" "strike") rfl), lk_Bench__strike (k := ⟨K, He.ga K, TT K⟩) B M_Bench__need_number M_Bench__do g_STRIKE D_Bench__strike, D_Bench__strike.bindsN fun _ _ _ _ _ _ us hl => match us, hl with | [_, _], _ => rfl⟩⟩
  have MK_Bench__strike_number : MtKw P w K mg base 3 (He.ga K "Bench") "strike" ["self", "number"] (spM ⟨K, He.ga K, TT K⟩ m_Bench__strike) ["number"] [0, 1] := ⟨⟨_, fd_Bench__strike, CL_Bench, He.meth_ok (c.x.t.d.fact 51 (f := .meth "Bench" "strike") rfl), lk_Bench__strike (k := ⟨K, He.ga K, TT K⟩) B M_Bench__need_number M_Bench__do g_STRIKE D_Bench__strike, kb_of D_Bench__strike 1 ["number"] [0, 1] fun _ _ _ _ _ _ us ws hl hw => match us, ws, hl, hw with | [_], [_], _, _ => rfl⟩⟩
  have F__law_signs : FnIs P w K mg base 4 "_law_signs" ["_law_draw"] (spM ⟨K, He.ga K, TT K⟩ m__law_signs) := ⟨_, fd__law_signs, lk__law_signs (k := ⟨K, He.ga K, TT K⟩) B F__law_pick D__law_signs, G__law_signs, D__law_signs.kp, D__law_signs.bindsN fun _ _ _ _ _ _ us hl => match us, hl with | [_], _ => rfl⟩
  have F__law_letters : FnIs P w K mg base 4 "_law_letters" ["_law_draw", "_law_signs_here", "_law_many"] (spM ⟨K, He.ga K, TT K⟩ m__law_letters) := ⟨_, fd__law_letters, lk__law_letters (k := ⟨K, He.ga K, TT K⟩) B F__law_pick D__law_letters, G__law_letters, D__law_letters.kp, D__law_letters.bindsN fun _ _ _ _ _ _ us hl => match us, hl with | [_, _, _], _ => rfl⟩
  have F__law_odd : FnIs P w K mg base 4 "_law_odd" ["_law_draw"] (spM ⟨K, He.ga K, TT K⟩ m__law_odd) := ⟨_, fd__law_odd, lk__law_odd (k := ⟨K, He.ga K, TT K⟩) B F__law_pick D__law_odd, G__law_odd, D__law_odd.kp, D__law_odd.bindsN fun _ _ _ _ _ _ us hl => match us, hl with | [_], _ => rfl⟩
  have I_Bench : MkIs P w K mg base 4 "Bench" (He.ga K "Bench") ["self", "length"] (spM ⟨K, He.ga K, TT K⟩ m_Bench__init) := ⟨⟨_, fd_Bench__init, He.mkr_ok (c.x.t.d.fact 43 (f := .mkr "Bench") rfl), lk_Bench__init (k := ⟨K, He.ga K, TT K⟩) B F_need_length hCT D_Bench__init, D_Bench__init.bindsN fun _ _ _ _ _ _ us hl => match us, hl with | [_, _], _ => rfl, G_Bench⟩⟩
  have MK_Bench__init_length : MkKw P w K mg base 4 "Bench" (He.ga K "Bench") ["self", "length"] (spM ⟨K, He.ga K, TT K⟩ m_Bench__init) ["length"] [0, 1] := ⟨⟨_, fd_Bench__init, He.mkr_ok (c.x.t.d.fact 43 (f := .mkr "Bench") rfl), lk_Bench__init (k := ⟨K, He.ga K, TT K⟩) B F_need_length hCT D_Bench__init, kb_of D_Bench__init 1 ["length"] [0, 1] fun _ _ _ _ _ _ us ws hl hw => match us, ws, hl, hw with | [_], [_], _, _ => rfl, G_Bench⟩⟩
  have M_Bench__need_read : MtIs P w K mg base 4 (He.ga K "Bench") "need_read" ["self", "word"] (spM ⟨K, He.ga K, TT K⟩ m_Bench__need_read) := ⟨⟨_, fd_Bench__need_read, CL_Bench, He.meth_ok (c.x.t.d.fact 48 (f := .meth "Bench" "need_read") rfl), lk_Bench__need_read (k := ⟨K, He.ga K, TT K⟩) B F_need_word x_BadWord hCT D_Bench__need_read, D_Bench__need_read.bindsN fun _ _ _ _ _ _ us hl => match us, hl with | [_, _], _ => rfl⟩⟩
  have F__law_fresh_read : FnIs P w K mg base 5 "_law_fresh_read" ["_law_draw", "_law_length"] (spM ⟨K, He.ga K, TT K⟩ m__law_fresh_read) := ⟨_, fd__law_fresh_read, lk__law_fresh_read (k := ⟨K, He.ga K, TT K⟩) B F__law_letters F__law_take F__law_signs D__law_fresh_read, G__law_fresh_read, D__law_fresh_read.kp, D__law_fresh_read.bindsN fun _ _ _ _ _ _ us hl => match us, hl with | [_, _], _ => rfl⟩
  have F__law_bent : FnIs P w K mg base 5 "_law_bent" ["_law_draw", "_law_account", "_law_deed"] (spM ⟨K, He.ga K, TT K⟩ m__law_bent) := ⟨_, fd__law_bent, lk__law_bent (k := ⟨K, He.ga K, TT K⟩) B F__law_letters F__law_odd F__law_pick D__law_bent, G__law_bent, D__law_bent.kp, D__law_bent.bindsN fun _ _ _ _ _ _ us hl => match us, hl with | [_, _, _], _ => rfl⟩
  have M_Bench__add : MtIs P w K mg base 5 (He.ga K "Bench") "add" ["self", "word"] (spM ⟨K, He.ga K, TT K⟩ m_Bench__add) := ⟨⟨_, fd_Bench__add, CL_Bench, He.meth_ok (c.x.t.d.fact 50 (f := .meth "Bench" "add") rfl), lk_Bench__add (k := ⟨K, He.ga K, TT K⟩) B M_Bench__need_read M_Bench__do XI_TooMany g_MOST_READS g_ADD hCT D_Bench__add, D_Bench__add.bindsN fun _ _ _ _ _ _ us hl => match us, hl with | [_, _], _ => rfl⟩⟩
  have MK_Bench__add_word : MtKw P w K mg base 5 (He.ga K "Bench") "add" ["self", "word"] (spM ⟨K, He.ga K, TT K⟩ m_Bench__add) ["word"] [0, 1] := ⟨⟨_, fd_Bench__add, CL_Bench, He.meth_ok (c.x.t.d.fact 50 (f := .meth "Bench" "add") rfl), lk_Bench__add (k := ⟨K, He.ga K, TT K⟩) B M_Bench__need_read M_Bench__do XI_TooMany g_MOST_READS g_ADD hCT D_Bench__add, kb_of D_Bench__add 1 ["word"] [0, 1] fun _ _ _ _ _ _ us ws hl hw => match us, ws, hl, hw with | [_], [_], _, _ => rfl⟩⟩
  have M_Bench__mend : MtIs P w K mg base 5 (He.ga K "Bench") "mend" ["self", "number", "word"] (spM ⟨K, He.ga K, TT K⟩ m_Bench__mend) := ⟨⟨_, fd_Bench__mend, CL_Bench, He.meth_ok (c.x.t.d.fact 52 (f := .meth "Bench" "mend") rfl), lk_Bench__mend (k := ⟨K, He.ga K, TT K⟩) B M_Bench__need_number M_Bench__need_read M_Bench__do g_MEND D_Bench__mend, D_Bench__mend.bindsN fun _ _ _ _ _ _ us hl => match us, hl with | [_, _, _], _ => rfl⟩⟩
  have MK_Bench__mend_number_word : MtKw P w K mg base 5 (He.ga K "Bench") "mend" ["self", "number", "word"] (spM ⟨K, He.ga K, TT K⟩ m_Bench__mend) ["number", "word"] [0, 1, 2] := ⟨⟨_, fd_Bench__mend, CL_Bench, He.meth_ok (c.x.t.d.fact 52 (f := .meth "Bench" "mend") rfl), lk_Bench__mend (k := ⟨K, He.ga K, TT K⟩) B M_Bench__need_number M_Bench__need_read M_Bench__do g_MEND D_Bench__mend, kb_of D_Bench__mend 1 ["number", "word"] [0, 1, 2] fun _ _ _ _ _ _ us ws hl hw => match us, ws, hl, hw with | [_], [_, _], _, _ => rfl⟩⟩
  have F__law_do : FnIs P w K mg base 6 "_law_do" ["_law_bench", "_law_deed"] (spM ⟨K, He.ga K, TT K⟩ m__law_do) := ⟨_, fd__law_do, lk__law_do (k := ⟨K, He.ga K, TT K⟩) B M_Bench__add M_Bench__strike M_Bench__undo M_Bench__mend D__law_do, G__law_do, D__law_do.kp, D__law_do.bindsN fun _ _ _ _ _ _ us hl => match us, hl with | [_, _], _ => rfl⟩
  have F__law_drawn_deed : FnIs P w K mg base 6 "_law_drawn_deed" ["_law_draw", "_law_account"] (spM ⟨K, He.ga K, TT K⟩ m__law_drawn_deed) := ⟨_, fd__law_drawn_deed, lk__law_drawn_deed (k := ⟨K, He.ga K, TT K⟩) B F__law_pick F__law_take F__law_fresh_read D__law_drawn_deed, G__law_drawn_deed, D__law_drawn_deed.kp, D__law_drawn_deed.bindsN fun _ _ _ _ _ _ us hl => match us, hl with | [_, _], _ => rfl⟩
  have F__law_step_right : FnGs P w K mg base 9 "_law_step_right" ["_law_draw", "_law_bench", "_law_account", "_law_deed"] (spM ⟨K, He.ga K, TT K⟩ m__law_step_right) := ⟨_, fd__law_step_right, lk__law_step_right (k := ⟨K, He.ga K, TT K⟩) B F__law_refusal F__law_do F__law_word_of F__law_is_as F__law_number_of F__law_behind hCAT hXF hSys G_ReadError G__law_caught D__law_caught (code_of (p := ("_law_step_right", none)) D__law_step_right) TB__law_step_right (List.mem_cons_self ..) u__law_step_right D__law_step_right, G__law_step_right, D__law_step_right.kp, D__law_step_right.bindsN fun _ _ _ _ _ _ us hl => match us, hl with | [_, _, _, _], _ => rfl⟩
  have F__law_full_right : FnGs P w K mg base 10 "_law_full_right" ["_law_draw"] (spM ⟨K, He.ga K, TT K⟩ m__law_full_right) := ⟨_, fd__law_full_right, lk__law_full_right (k := ⟨K, He.ga K, TT K⟩) B F__law_begun_bench I_Bench F__law_letters M_Bench__add F__law_behind F__law_take F__law_step_right M_Bench__mend P_Bench__reads M_Bench__strike MK_Bench__add_word MK_Bench__mend_number_word MK_Bench__strike_number D__law_full_right, G__law_full_right, D__law_full_right.kp, D__law_full_right.bindsN fun _ _ _ _ _ _ us hl => match us, hl with | [_], _ => rfl⟩
  exact lk_law (k := ⟨K, He.ga K, TT K⟩) B F__law_begun F__law_take F__law_begun_bench I_Bench F__law_drawn_deed F__law_bent F__law_step_right P_Bench__reads P_Bench__log F__law_is_as F__law_pick F__law_full_right MK_Bench__init_length G_BadLength hXT hCAT G_ReadError G__law_caught D__law_caught (code_of (p := ("law", none)) D_law) TB_law (List.mem_cons_of_mem _ (List.mem_cons_self ..)) u_law D_law
end Y
open PySem PySem.W PySem.Calls PyProof.Rows
theorem PySem.Challenge.cw_readhouse_k71_deeds_of_a_bench_holds : PySem.Challenge.rw_readhouse_k71_deeds_of_a_bench.Holds := by
  w_on; o_law
  refine HandSHeadRun.head_any (r := OpenLaw.row PySem.Challenge.rw_readhouse_k71_deeds_of_a_bench) (q := view (OpenLaw.row PySem.Challenge.rw_readhouse_k71_deeds_of_a_bench).prog [48]) (H := Y.hk) (ob := Y.ob) (M := 6000) (loose := Y.loose) (d := HandSHeadRun.topDef (OpenLaw.row PySem.Challenge.rw_readhouse_k71_deeds_of_a_bench).prog 48) (kwd := []) Y.ob_eq
    (by kernel_rfl) (fun s => by kernel_rfl) Y.run (by kernel_rfl) (by kernel_rfl) (by kernel_rfl) (by rfl) (by first | assumption | decide +kernel) (by decide +kernel) ⟨rfl, rfl, rfl, rfl, rfl, by decide +kernel⟩ ?hw ?hc
  case hw => w_witness2
  case hc =>
    refine Z.walkG (l := PySem.Challenge.rw_readhouse_k71_deeds_of_a_bench) (n := 63) (k := 13) (x := "_law_script") (C := fun w => L2.CX (PySem.Challenge.rw_readhouse_k71_deeds_of_a_bench).prog w) rfl (by decide) (by kernel_rfl) ⟨rfl, by decide, by decide⟩ ?F (fun _ _ _ _ _ ⟨_, _, _, _, _, _, _, _, _, _, _, _, z⟩ => z)
    intro w mg fa h Yy G hmg0
    obtain ⟨K, KX, c⟩ := Yy
    have hmg : mg ("law" : PySem.Str) = some (.ref fa) := by
      have e : (HandSHeadRun.topDef (OpenLaw.row PySem.Challenge.rw_readhouse_k71_deeds_of_a_bench).prog 48).name = ("law" : PySem.Str) := by kernel_rfl
      rw [← e]
      exact hmg0
    obtain ⟨fd, hb, hF⟩ := Y.facts (P := (PySem.Challenge.rw_readhouse_k71_deeds_of_a_bench).prog) (w := w) KX G hmg c
    refine ⟨K, fd, Y.tf.map (He.cT K), Y.spM ⟨K, He.ga K, Y.TT K⟩ Y.m_law, KX, fun p hp => ?_, fun p hp => ?_, fun p hp => ?_, hb, fun H a ns hl hT hS => Y.law_sp (k := ⟨K, He.ga K, Y.TT K⟩) (fun p hp => ?_) hS (Y.law_pure ns hl), hF⟩
    · obtain ⟨q, hq, rfl⟩ := List.mem_map.mp hp; exact c.x.empty q hq
    · obtain ⟨q, hq, rfl⟩ := List.mem_map.mp hp; exact c.x.out q hq
    · obtain ⟨q, hq, rfl⟩ := List.mem_map.mp hp; exact codeHd_of_K KX (c.x.hd q hq)
    · simp only [Y.TT, List.mem_cons, List.not_mem_nil, or_false] at hp
      rcases hp with rfl | rfl
      · exact LamX.TabS.nil (hT (He.cT K ("_law_step_right", none)) (List.mem_cons_self ..))
      · exact LamX.TabS.nil (hT (He.cT K ("law", none)) (List.mem_cons_of_mem _ (List.mem_cons_self ..)))


